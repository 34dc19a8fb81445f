import PyProof.Rows.All
import Wide.All
import OpenK.AllK
import Wide.FinOn
import HandS.ForMost
import HandS.Exc
import HandS.ExcInit
import HandS.Defaults
import HandS.IsInst
import HandS.Wide
import HandS.EndBits
import KE.KExcIs
import HandS.ExcField
import HandS.MakeKwOnly
import HandS.HeadHook4
import HandS.Head2
import PyProof.ReprRoads
import HandS.Head0
import HandS.Head1
import HandS.HeadEnd
import HandS.Iter
import HandS.Codes
import PyProof.P3Eq
import HandS.OwnEq
import HandS.TryMany
import HandS.Star
import HandS.Property
import HandS.FStr
import HandS.Walk
import PyProof.InstNe
import PyProof.NeKinds
import HandS.Style
import HandS.Text
import HandS.StrMore
import HandS.TupAny
import HandS.TupMul
import HandS.RaiseMore
import PyProof.StrOps2
import Wide.Txt
import HandS.Deep
import HandS.Conv
import HandS.Rev
import HandS.Zip
import PyProof.RulesMatch
import HandS.TryOnly
import PyProof.StrLawsChain
import PyProof.Rows.StrSplitAre
import PyProof.Draws
import PyProof.EnumMake
import PyProof.TupleIter
import PyProof.WalksMore
import HandS.GenYield
import PyProof.Rows.SetFrom
import HandS.Strs
import PySem.Challenge.RW_pulledonce_k02_programs_changed_and_comp
set_option Elab.async false
set_option linter.all false
set_option maxRecDepth 100000
set_option maxHeartbeats 8000000
namespace Lw
open PySem PySem.Spec PyProof.Rows L2

/-! ### numbers -/
def CPowW (i j : Int) : Prop := 0 ≤ j ∧ (Builtin.Int.intBits i : Int) * j ≤ 2 ^ 27
theorem op_powW {X : Cx} : OpR X (binaryOp .Pow) (rI CPowW fun i j => .int (i ^ j.toNat)) :=
  opI fun _ _ _ _ _ _ _ hc q => pow_int hc.1 hc.2 q

/-! ### a def by its name -/
structure DefOk (P : Program) (w : World) (K : PySem.W.Frag) (mg : Str → Option Value) (base : Heap) (CX : CXT) (k : Nat) (x : Str) (ps : List Str) (dvs : List V) (sp : Sp) : Prop where
  ex : ∃ (f : Addr) (fd : FuncData) (ds : List Value), FnOk P w K mg base CX k f fd ps sp ∧ mg x = some (.ref f) ∧ PySem.W.keepIn K (.ref f) = true ∧ Binds K fd ps ds ∧ Vals dvs ds
section
variable {X : Cx} {CX : CXT} {k : Nat} {ps : List Str} {dvs : List V} {sp : Sp} {E : XK} {x : Str} {p pos : Pos} {e : Expr} {es : List Expr} {t : TA}
theorem pe_d (D : DefOk X.prog X.w X.K X.mg X.base CX k x ps dvs sp) (hr : Room k X.A) (hx : Passes CX X E) (ha : PA X (e :: es) t) (hg : Gl X x := by rfl)
    (hdb : (x == ("__debug__" : Str)) = false := by decide) (he : starEach (e :: es) X.env = (false, eval e X.env) :: starEach es X.env := by rfl) (hpl : (backTo pos (starEach es X.env)).any (·.1) = false := by rfl) :
    PE X (.Call (.Name x p) (e :: es) [] pos) (tCall sp dvs E t) := by
  obtain ⟨f, fd, ds, F, hm, hk, hb, hd⟩ := D.ex
  exact pe_call F hr hg hm hk hb hd hx ha hdb he hpl
theorem pe_d0 (D : DefOk X.prog X.w X.K X.mg X.base CX k x ps dvs sp) (hr : Room k X.A) (hx : Passes CX X E) (hg : Gl X x := by rfl) (hdb : (x == ("__debug__" : Str)) = false := by decide) :
    PE X (.Call (.Name x p) [] [] pos) (tCall sp dvs E tNil) := by
  obtain ⟨f, fd, ds, F, hm, hk, hb, hd⟩ := D.ex
  exact pe_call0 F hr hg hm hk hb hd hx hdb
end
/-! ### heaps -/
theorem same_upd {H : Hp} {p : Addr} {o : HO} (hp : H p = none) : Same H (upd H p o) := fun b u e => by
  rw [upd_ne (ne_of_none e hp)]; exact e
theorem sq_upd {K : PySem.W.Frag} {H : Hp} {a t : Addr} {o : HO} {xs : List V} (ne : t ≠ a) (h : SqL K H t xs) : SqL K (upd H a o) t xs := by
  rcases h with (h | ⟨u, h⟩) | h
  · exact .inl (.inl (by rw [upd_ne ne]; exact h))
  · exact .inl (.inr ⟨u, by rw [upd_ne ne]; exact h⟩)
  · exact .inr h
theorem sqT_same {K : PySem.W.Frag} {H H' : Hp} {a : Addr} {xs : List V} (e : Same H H') (h : SqT K H a xs) : SqT K H' a xs := by
  rcases h with (h | ⟨o, h⟩) | h
  · exact .inl (.inl (e _ _ h))
  · exact .inl (.inr ⟨o, e _ _ h⟩)
  · exact .inr h
theorem szl {n : Nat} (h : Nat.ble n 1000 = true) : n ≤ sizeLine := Nat.le_trans (Nat.le_of_ble_eq_true h) (by decide)
theorem szlt {n : Nat} (h : n ≤ 1000) : n < sizeLine := Nat.lt_of_le_of_lt h (by decide)
theorem szle {n : Nat} (h : n ≤ 1000) : n ≤ sizeLine := Nat.le_trans h (by decide)
theorem same_trans {H1 H2 H3 : Hp} (a : Same H1 H2) (b : Same H2 H3) : Same H1 H3 := fun c o h => b c o (a c o h)
end Lw
namespace Lw
open PySem PySem.Spec PyProof.Rows L2

/-! ### own exception classes with an __init__, their objects as values -/
structure XC (K : PySem.W.Frag) (C : Addr) (fld : Str) : Prop where
  oex : OexC K C
  xf : XfC K C
  nof : PySem.W.findIn K (.ref C) fld = some none
  ha : PySem.W.findIn K (.ref C) "__class__" = some (some (.builtin "object.__class__"))
  hm : PySem.W.mroIn K C (.type "object") = some true
  hn : PySem.W.specialIn K (.builtin "object.__class__") "__get__" = some (some (.builtin "getset_descriptor.__get__"))
  ht : PySem.W.takesIn K (.builtin "object.__class__") = some true
def oexB (K : PySem.W.Frag) (C : Addr) : Bool := match K.lookup C with
  | some ⟨.type "type", _, .cls cd, sl⟩ => (match cd.mro, sl.toList with
    | .ref C' :: bm, [_, _, _, _, some (.builtin n), _] => decide (C' = C) && (decide (n = "ValueError.__new__") && (!cd.hasDel && (cd.hasDict && PySem.HandSPX.refsVE bm)))
    | _, _ => false)
  | _ => false
theorem oexB_ok {K : PySem.W.Frag} {C : Addr} (q : oexB K C = true) : ∃ nm q N bs bm sn sub ab col dd k0 k1 k2 k3 k5, K.lookup C = some (excClassObj nm q C N bs bm true sn sub ab col dd k0 k1 k2 k3 k5 "ValueError.__new__") ∧ PySem.HandSPX.refsVE bm = true := by
  unfold oexB at q
  split at q
  · rename_i dd cd sl ho
    split at q
    · rename_i C' bm k0 k1 k2 k3 n k5 hm hs
      obtain ⟨q1, q⟩ := Bool.and_eq_true_iff.mp q
      obtain ⟨q2, q⟩ := Bool.and_eq_true_iff.mp q
      obtain ⟨q3, q⟩ := Bool.and_eq_true_iff.mp q
      obtain ⟨q4, q5⟩ := Bool.and_eq_true_iff.mp q
      have e1 := of_decide_eq_true q1
      have e2 := of_decide_eq_true q2
      obtain ⟨nm, bs, mro, ns, qn, hd, sn, sub, ab, col, del⟩ := cd
      dsimp only at hm q3 q4
      subst e1 e2 hm q4
      obtain ⟨l⟩ := sl
      dsimp only at hs
      subst hs
      have e3 : del = false := by cases del <;> first | rfl | cases q3
      subst e3
      exact ⟨_, _, _, _, _, _, _, _, _, _, _, _, _, _, _, ho, q5⟩
    · cases q
  · cases q
def xcB (K : PySem.W.Frag) (C : Addr) (fld : Str) : Bool :=
  oexB K C && (decide (PySem.W.findIn K (.ref C) "__setattr__" = some (some (.builtin "object.__setattr__"))) && (decide (PySem.W.typeIn K (.ref C) = some (.type "type")) && (PySem.W.keepIn K (.ref C) && (xfB K C &&
  (decide (PySem.W.findIn K (.ref C) fld = some none) && (decide (PySem.W.findIn K (.ref C) "__class__" = some (some (.builtin "object.__class__"))) && (decide (PySem.W.mroIn K C (.type "object") = some true) &&
  (decide (PySem.W.specialIn K (.builtin "object.__class__") "__get__" = some (some (.builtin "getset_descriptor.__get__"))) && decide (PySem.W.takesIn K (.builtin "object.__class__") = some true)))))))))
theorem xcB_ok {K : PySem.W.Frag} {C : Addr} {fld : Str} (q : xcB K C fld = true) : XC K C fld := by
  obtain ⟨q1, q⟩ := Bool.and_eq_true_iff.mp q
  obtain ⟨q2, q⟩ := Bool.and_eq_true_iff.mp q
  obtain ⟨q3, q⟩ := Bool.and_eq_true_iff.mp q
  obtain ⟨q4, q⟩ := Bool.and_eq_true_iff.mp q
  obtain ⟨q5, q⟩ := Bool.and_eq_true_iff.mp q
  obtain ⟨q6, q⟩ := Bool.and_eq_true_iff.mp q
  obtain ⟨q7, q⟩ := Bool.and_eq_true_iff.mp q
  obtain ⟨q8, q⟩ := Bool.and_eq_true_iff.mp q
  obtain ⟨q9, q10⟩ := Bool.and_eq_true_iff.mp q
  have xf := xfB_ok q5
  exact ⟨⟨oexB_ok q1, of_decide_eq_true q2, xf.exC, of_decide_eq_true q3, q4⟩, xf, of_decide_eq_true q6, of_decide_eq_true q7, of_decide_eq_true q8, of_decide_eq_true q9, of_decide_eq_true q10⟩
theorem clsIn_of {K : PySem.W.Frag} {C : Addr} (T : OexC K C) : (PySem.W.clsIn K C).isSome = true := by
  obtain ⟨nm, q, N, bs, bm, sn, sub, ab, col, dd, k0, k1, k2, k3, k5, hC, _⟩ := T.cls
  unfold PySem.W.clsIn
  rw [hC]
  rfl
/-- an error that stands: its class, its own dict, the one attribute -/
def ErrAt (H : Hp) (e C : Addr) (f : Str) (v : V) : Prop := ∃ d, H e = some (exo e C (some d)) ∧ H d = some (exd d [(f, v)])
theorem ErrAt.same {H H' : Hp} {e C : Addr} {f : Str} {v : V} (s : Same H H') (h : ErrAt H e C f v) : ErrAt H' e C f v := by
  obtain ⟨d, h1, h2⟩ := h
  exact ⟨d, s _ _ h1, s _ _ h2⟩
section
variable {X : Cx} {pins : List (Addr × Obj)} {σ : L2.St} {H : Hp} {s : Shared}
theorem err_inst {e C d : Addr} {fs : List (Str × V)} (I : Inv X pins σ H s) (h1 : H e = some (exo e C (some d))) (h2 : H d = some (exd d fs)) :
    ∃ t1 od, PySem.W.InstAt s.heap e ({ cls := .ref C, dict := some d, data := .fields #[.ref t1, .none, .none, .none, .bool false, .none] } : Obj) C (some od) ∧ s.heap.get? d = some od := by
  obtain ⟨t1, ho⟩ := exo_at I.hok h1
  obtain ⟨mA, hns, rel⟩ := exd_at I.hok h2
  obtain ⟨od, es, ep, hd, _⟩ := hns
  exact ⟨t1, od, ⟨ho, rfl, rfl, hd⟩, hd⟩
/-- isinstance(error, c) -/
def rIsX (K : PySem.W.Frag) : List V → Hp → VK → Prop := fun xs H Q => ∃ (a D : Addr) (fld : Str) (v c : V) (u : Value) (b : Bool), xs = [.ref a, c] ∧ ErrAt H a D fld v ∧ XC K D fld ∧ ClsV c u ∧ PySem.W.kitOne K (.ref D) u = some b ∧ Q (.bl b) H
theorem call_isX {X : Cx} : CallR X (.builtin "isinstance") (rIsX X.K) := by
  intro pins s σ H xs us Q I r h
  obtain ⟨a, D, fld, v, c, u, b, rfl, ⟨d, h1, h2⟩, C, k, e, q⟩ := h
  obtain ⟨u1, u2, rfl, r1, r2⟩ := vals2 r
  cases (show u1 = Value.ref a from r1)
  have e2 := k.eq r2
  subst e2
  obtain ⟨t1, od, J, _⟩ := err_inst I h1 h2
  refine PySem.W.kia_one (PySem.W.kitx_exc (clsIn_of C.oex) C.xf.ga C.xf.gg C.xf.exC C.ha C.hn C.ht C.hm) I.kIn J e (fun z => nomatch z) fun tk => ?_
  exact ⟨.bl b, H, I.tok tk, rfl, q⟩
/-- error.f -/
def tXv (K : PySem.W.Frag) (f : Str) (te : TE) : TE := fun σ H Q => te σ H fun x H1 => ∃ (a D : Addr) (v : V), x = .ref a ∧ ErrAt H1 a D f v ∧ XC K D f ∧ Q v H1
theorem pe_xv {X : Cx} {e : Expr} {te : TE} {pos : Pos} {n : Str} (he : PE X e te) (hb : attributeBase e n X.env (eval e X.env) = eval e X.env := by rfl) : PE X (.Attribute e n pos) (tXv X.K n te) := by
  refine ⟨fun pins s σ H Q I h => ?_⟩
  refine attr_of hb (thn (he.run pins s σ H _ I h) fun u s1 hh => ?_)
  obtain ⟨x, H1, I1, rx, a, D, v, ex, ⟨d, h1, h2⟩, T, q⟩ := hh
  subst ex
  obtain rfl : u = Value.ref a := rx
  obtain ⟨t1, od0, J, hd⟩ := err_inst I1 h1 h2
  obtain ⟨mA, hns, hr⟩ := exd_at I1.hok h2
  obtain ⟨od, ho, hl⟩ := lookIn_ns hns
  rw [hd] at ho
  cases ho
  have l : List.lookup n [(n, v)] = some v := by simp [List.lookup]
  obtain ⟨u, hu, ru⟩ := RelO.some_of (v := v) (o := mA n) (by rw [← l]; exact hr n)
  exact HandSPX.exc_get I1.kIn J T.xf.ga T.xf.gg T.xf.exC (PySem.W.findObj_own T.xf.hdC T.nof rfl (by rw [hl, hu])) (handed_of ru) ⟨v, H1, I1.tok _, ru, q⟩
end
/-! ### C(e): a new error as a value -/
section
variable {X : Cx} {CX : CXT} {k : Nat} {ps : List Str} {x : Str} {p pos : Pos} {e : Expr} {es : List Expr} {ta : TA} {C fI : Addr} {fd : FuncData} {sp : Sp}
theorem run_mkv {pins : List (Addr × Obj)} {σ : L2.St} {H1 : Hp} {s1 : Shared} {us : List Value} {vs : List V} {Q : VK} (T : OexC X.K C) (iC : PySem.W.findIn X.K (.ref C) "__init__" = some (some (.ref fI))) (tI : PySem.W.typeIn X.K (.ref fI) = some (.type "function"))
    (F1 : FnOk X.prog X.w X.K X.mg X.base CX k fI fd ps sp) (hr : Room (k + 1) X.A) (hb : Binds X.K fd ps []) (hx : Passes CX X (fun _ _ _ => False)) (I1 : Inv X pins σ H1 s1) (r1 : Vals vs us)
    (hz : vs.length ≤ 1000) (q1 : ∀ a, H1 a = none → sp (.ref a :: vs) (upd H1 a (exo a C none)) (fun v H2 => v = .non ∧ Q (.ref a) H2) (fun _ _ _ => False)) :
    wpAny (model X.prog X.w) X.A (call (.ref C) us) (EP X pins σ Q) X.xe s1 := by
  have T' := T
  obtain ⟨nm, q, N, bs, bm, sn, sub, ab, col, dd, k0, k1, k2, k3, k5, hC, hbm⟩ := T'.cls
  obtain ⟨hp, g, dr, tk, os⟩ := s1
  have n0 : H1 (hp.objs.size + 1) = none := I1.hok.fresh (Nat.le_succ hp.objs.size)
  have hq := q1 (hp.objs.size + 1) n0
  have kp : ∀ b o, hp.get? b = some o → ((hp.push (PySem.W.kdv_tup us)).push (PySem.HandSPX.excO C hp.objs.size)).get? b = some o :=
    fun b o z => Heap.get?_push_of_some _ (Heap.get?_push_of_some _ z)
  have gt : ((hp.push (PySem.W.kdv_tup us)).push (PySem.HandSPX.excO C hp.objs.size)).get? (hp.objs.size + 1) = some (PySem.HandSPX.excO C hp.objs.size) := by heap_get
  have I2 : Inv X pins σ (upd H1 (hp.objs.size + 1) (exo (hp.objs.size + 1) C none)) ⟨(hp.push (PySem.W.kdv_tup us)).push (PySem.HandSPX.excO C hp.objs.size), g, dr, tk, os⟩ :=
    I1.laid (t' := tk) kp (Nat.le_succ hp.objs.size) (exo_ok gt)
  have r2 : Vals (V.ref (hp.objs.size + 1) :: vs) (Value.ref (hp.objs.size + 1) :: us) := .cons rfl r1
  have hl : (Value.ref (hp.objs.size + 1) :: us ++ []).length = ps.length := by
    rw [List.append_nil, ← r2.length, F1.len _ _ _ _ hq]
  have hus : us.length ≤ sizeLine := by
    rw [← Paired.length r1, sizeLine_eq]; omega
  have hB := hb _ (Value.ref (hp.objs.size + 1) :: us) I2.kIn hl
  rw [List.append_nil] at hB
  refine wpAny_call (PySem.HandSPX.call_own F.excBase_ValueError (fun Y => PySem.HandSPX.refsVE_contains Y bm hbm) (I1.kIn _ _ hC) (PySem.W.looks_findIn I1.kIn iC) (fun self => PySem.W.bind_fn I1.kIn self tI) hus ?_)
  refine codeAny_mono (F1.run _ X.stack _ _ ⟨Value.ref (hp.objs.size + 1) :: us, []⟩ (Value.ref (hp.objs.size + 1) :: us) _ _ (fun _ _ _ => False) (hr.make C us []) (I2.env0.make C us []) hB r2 hq) fun r s' hq' => ?_
  cases r with
  | error er => exact hx pins σ _ _ er s' I2 hq'
  | ok fl =>
    cases fl with
    | ret u =>
      obtain ⟨v, H2, I3, rv, ev, q2⟩ := I2.after hq'
      subst ev
      exact ⟨rv, .ref (hp.objs.size + 1), H2, I3, rfl, q2⟩
    | next => exact False.elim hq'
    | brk => exact False.elim hq'
    | cont => exact False.elim hq'
end
end Lw
namespace PySem.LwK
open PySem.HandSPX PySem.Calls
section
variable {prog : Program} {w : World} {M : Model} {A : Around} {E : Value → Shared → Prop} {R : Result → Shared → Prop} {h : Heap} {g : Array GenState} {d : Drawn} {t : Nat} {os : OsState}
variable {nm q : Str} {C N : Addr} {bs bm bmB : List Value} {hdct : Bool} {sn : List Str} {sub : List Value} {ab : Bool} {col : Option Bool} {dd : Option Addr} {k0 k1 k2 k3 k5 : Option Value} {B newId initId : String} {kw : List (Str × Value)}
theorem chk_new_kw (F : ExcBaseFacts B newId initId bmB) (hT : ∀ Y : String, bm.contains (.type Y) = bmB.contains (.type Y)) {rest : List Value} {Q : Unit → Shared → Prop}
    (hC : h.get? C = some (excClassObj nm q C N bs bm hdct sn sub ab col dd k0 k1 k2 k3 k5 newId)) (hq : Q () ⟨h, g, d, t, os⟩) :
    wpAny M A (checkBuiltinCall newId ⟨.ref C :: rest, kw⟩) Q E ⟨h, g, d, t, os⟩ := by
  have c1 : (Value.ref C :: bm).contains (.type B) = true := by
    rw [List.contains_cons, hT, F.hasB, Bool.or_true]
  have c2 := F.noStar
  simp only [checkBuiltinCall, F.newKind, F.newSplit, F.newRow]
  repeat (first
    | refine wpAny_loadPart_at hC ?_
    | (refine wpAny_isSubtype_exc hC ?_; rw [c1])
    | refine wpAny_staticBase_exc hC ?_
    | refine wpAny_madeBy_exc hC ?_
    | simp only [bne_self_eq_false, Bool.false_eq_true, if_false]
    | wp_step)
  all_goals exact hq
theorem new_kw (F : ExcBaseFacts B newId initId bmB) (hT : ∀ Y : String, bm.contains (.type Y) = bmB.contains (.type Y)) {rest : List Value}
    (hC : h.get? C = some (excClassObj nm q C N bs bm hdct sn sub ab col dd k0 k1 k2 k3 k5 newId))
    (hq : R (.ok (.ret (.ref (h.objs.size + 1)))) ⟨(h.push { cls := .type "tuple", data := .seq rest.toArray }).push
      { cls := .ref C, data := .fields #[.ref h.objs.size, .none, .none, .none, .bool false, .none] }, g, d, t, os⟩) (hrest : rest.length ≤ sizeLine) :
    codeAny (model prog w) A (.builtin newId ⟨.ref C :: rest, kw⟩) R ⟨h, g, d, t, os⟩ := by
  have hE := F.ends
  have c1 : (Value.ref C :: bm).contains (.type B) = true := by
    rw [List.contains_cons, hT, F.hasB, Bool.or_true]
  have c2 : (Value.ref C :: bm).contains (.type "AttributeError") = false := by
    rw [List.contains_cons, hT, F.noAttr]; rfl
  have c3 : (Value.ref C :: bm).contains (.type "NameError") = false := by
    rw [List.contains_cons, hT, F.noName]; rfl
  refine codeAny_builtinAt F.entry ?_
  unfold Builtin.«BaseException.__new__»
  refine wpAt_bind ?_
  show wpAt _ _ _ (stack >>= _) _ _ _
  refine wpAt_bind (wpAt_stack fun p below => wpAt_of_wpAny ?_)
  wp_walk
  refine wpAt_of_wpAny ?_
  rw [F.owner]
  repeat (first
    | with_reducible refine wpAny_madeHere_exc F.canon hC ?_
    | with_reducible refine wpAny_loadPart_at hC ?_
    | (with_reducible refine wpAny_isSubtype_exc hC ?_; first | rw [c1] | rw [c2] | rw [c3])
    | wp_step)
  show R _ _
  rw [Heap.size_push]
  exact hq
theorem tcall_kw (F : ExcBaseFacts B newId initId bmB) (hT : ∀ Y : String, bm.contains (.type Y) = bmB.contains (.type Y)) {rest : List Value} {fI : Addr} {Q : Fin → Shared → Prop}
    (hC : h.get? C = some (excClassObj nm q C N bs bm hdct sn sub ab col dd k0 k1 k2 k3 k5 newId))
    (hi : W.Looks (model prog w) h (typeLookup (.ref C) "__init__") (some (.ref fI))) (hb : ∀ self, W.Looks (model prog w) h (bindSpecial (.ref fI) self) (.ref fI, [self])) (hrest : rest.length ≤ sizeLine)
    (hq : codeAny (model prog w) A (.call (.ref fI) ⟨.ref (h.objs.size + 1) :: rest, kw⟩)
      (fun r s' => match r with | .ok (.ret v) => v = .none ∧ Q (.done (.ret (.ref (h.objs.size + 1)))) s' | .ok _ => False | .error e => E e s')
      ⟨(h.push (W.kdv_tup rest)).push (excO C h.objs.size), g, d, t, os⟩) :
    wpAny (model prog w) A (Builtin.«type.__call__» ⟨.ref C :: rest, kw⟩) Q E ⟨h, g, d, t, os⟩ := by
  repeat (first
    | with_reducible refine wpAny_loadPart_at hC ?_
    | with_reducible refine wpAny_madeBy_exc hC ?_
    | wp_step)
  refine codeAny_call_builtin_code (Code.quiet_builtin _ F.quiet) (chk_new_kw F hT hC ?_)
  refine new_kw F hT hC ?_ hrest
  show wpAny _ _ _ _ _ _
  have kp : ∀ b o, h.get? b = some o → ((h.push (W.kdv_tup rest)).push (excO C h.objs.size)).get? b = some o :=
    fun b o z => Heap.get?_push_of_some _ (Heap.get?_push_of_some _ z)
  have hC1 := kp _ _ hC
  have gt : ((h.push (W.kdv_tup rest)).push (excO C h.objs.size)).get? (h.objs.size + 1) = some (excO C h.objs.size) := by heap_get
  have cC : (Value.ref C :: bm).contains (.ref C) = true := by simp
  have i1 := hi.keeps kp
  have b1 := (hb (.ref (h.objs.size + 1))).keeps kp
  unfold isInstance
  repeat (first
    | with_reducible refine wpAny_loadPart_at gt ?_
    | (with_reducible refine wpAny_isSubtype_exc hC1 ?_; rw [cC])
    | wp_step)
  show wpAny _ _ (typeLookup (.ref C) _) _ _ _
  refine i1.at ?_
  refine wpAny_holding (wpAny_bind (b1.at ?_))
  refine wpAny_bind (wpAny_call (codeAny_mono hq fun r s' z => ?_))
  rcases r with e | (v | _ | _ | _) <;> (first
    | exact z
    | exact z.elim
    | (obtain ⟨rfl, z⟩ := z
       first
         | exact wpAny_pure (wpAny_pure z)
         | (wp_walk; exact z)))
theorem chk_tcall_kw {M : Model} {rest : List Value} {Q : Unit → Shared → Prop} (hC : h.get? C = some (excClassObj nm q C N bs bm hdct sn sub ab col dd k0 k1 k2 k3 k5 newId))
    (hq : Q () ⟨h, g, d, t, os⟩) : wpAny M A (checkBuiltinCall "type.__call__" ⟨.ref C :: rest, kw⟩) Q E ⟨h, g, d, t, os⟩ := by
  have f3 := tc_sub
  have hT : (⟨h, g, d, t, os⟩ : Shared).TypeIs (.ref C) "type" := ⟨_, hC, rfl⟩
  simp only [checkBuiltinCall, tc_kind, tc_split]
  repeat (any_goals (first
    | assumption
    | with_reducible refine wpAny_loadPart_at hC ?_
    | with_reducible refine wpAny_onRaise ?_
    | with_reducible refine wpAny_map ?_
    | wp_step))
theorem call_kw (F : ExcBaseFacts B newId initId bmB) (hT : ∀ Y : String, bm.contains (.type Y) = bmB.contains (.type Y)) {rest : List Value} {fI : Addr}
    (hC : h.get? C = some (excClassObj nm q C N bs bm hdct sn sub ab col dd k0 k1 k2 k3 k5 newId))
    (hi : W.Looks (model prog w) h (typeLookup (.ref C) "__init__") (some (.ref fI))) (hb : ∀ self, W.Looks (model prog w) h (bindSpecial (.ref fI) self) (.ref fI, [self])) (hrest : rest.length ≤ sizeLine)
    (hq : codeAny (model prog w) (A.under (.builtin "type.__call__" ⟨.ref C :: rest, kw⟩)) (.call (.ref fI) ⟨.ref (h.objs.size + 1) :: rest, kw⟩) (W.InitBack (h.objs.size + 1) R)
      ⟨(h.push (W.kdv_tup rest)).push (excO C h.objs.size), g, d, t, os⟩) :
    codeAny (model prog w) A (.call (.ref C) ⟨rest, kw⟩) R ⟨h, g, d, t, os⟩ := by
  have f1 := tc_lookup
  have f2 := tc_bind (.ref C)
  have hTy : (⟨h, g, d, t, os⟩ : Shared).TypeIs (.ref C) "type" := ⟨_, hC, rfl⟩
  refine codeAny_of_tree ?_
  show wpAny _ _ (callAny (.ref C) _) _ _ _
  repeat (any_goals (first
    | assumption
    | with_reducible refine wpAny_loadPart_at hC ?_
    | wp_step))
  refine ⟨rfl, ?_⟩
  refine codeAny_call_builtin_at (Code.quiet_builtin _ (by decide +kernel)) entry_typeCall (chk_tcall_kw hC (tcall_kw F hT hC hi hb hrest ?_))
  refine codeAny_mono hq fun r s' z => ?_
  rcases r with e | (v | _ | _ | _) <;> exact z
end
end PySem.LwK
namespace Lw
open PySem PySem.Spec PyProof.Rows L2
section
variable {X : Cx} {CX : CXT} {k : Nat} {ps ks : List Str} {x : Str} {p pos : Pos} {kws : List Keyword} {tk : TA} {C fI : Addr} {fd : FuncData} {sp : Sp} {g : List Value → List Value → List Value} {gV : List V → List V → List V}
/-- C(f = e, ..), behind its arguments -/
theorem run_mkvK {pins : List (Addr × Obj)} {σ : L2.St} {H1 : Hp} {s1 : Shared} {ws : List Value} {zs : List V} {Q : VK} (T : OexC X.K C) (iC : PySem.W.findIn X.K (.ref C) "__init__" = some (some (.ref fI))) (tI : PySem.W.typeIn X.K (.ref fI) = some (.type "function"))
    (F1 : FnOk X.prog X.w X.K X.mg X.base CX k fI fd ps sp) (hr : Room (k + 1) X.A) (hb : KBn X.K fd ps 1 ks g gV) (hx : Passes CX X (fun _ _ _ => False)) (I1 : Inv X pins σ H1 s1) (rz : Vals zs ws) (l2 : zs.length = ks.length)
    (q1 : ∀ a, H1 a = none → sp (gV [.ref a] zs) (upd H1 a (exo a C none)) (fun v H2 => v = .non ∧ Q (.ref a) H2) (fun _ _ _ => False)) :
    wpAny (model X.prog X.w) X.A (call (.ref C) [] (ks.zip ws)) (EP X pins σ Q) X.xe s1 := by
  have T' := T
  obtain ⟨nm, q, N, bs, bm, sn, sub, ab, col, dd, k0, k1, k2, k3, k5, hC, hbm⟩ := T'.cls
  obtain ⟨hp, gg, dr, tk, os⟩ := s1
  have n0 : H1 (hp.objs.size + 1) = none := I1.hok.fresh (Nat.le_succ hp.objs.size)
  have hq := q1 (hp.objs.size + 1) n0
  have kp : ∀ b o, hp.get? b = some o → ((hp.push (PySem.W.kdv_tup [])).push (PySem.HandSPX.excO C hp.objs.size)).get? b = some o :=
    fun b o z => Heap.get?_push_of_some _ (Heap.get?_push_of_some _ z)
  have gt : ((hp.push (PySem.W.kdv_tup [])).push (PySem.HandSPX.excO C hp.objs.size)).get? (hp.objs.size + 1) = some (PySem.HandSPX.excO C hp.objs.size) := by heap_get
  have I2 : Inv X pins σ (upd H1 (hp.objs.size + 1) (exo (hp.objs.size + 1) C none)) ⟨(hp.push (PySem.W.kdv_tup [])).push (PySem.HandSPX.excO C hp.objs.size), gg, dr, tk, os⟩ :=
    I1.laid (t' := tk) kp (Nat.le_succ hp.objs.size) (exo_ok gt)
  have r0 : Vals [V.ref (hp.objs.size + 1)] [Value.ref (hp.objs.size + 1)] := .cons rfl .nil
  have r2 := hb.rel r0 rz
  have hB := hb.to _ [Value.ref (hp.objs.size + 1)] ws I2.kIn rfl (rz.length.symm.trans l2)
  refine wpAny_call (PySem.LwK.call_kw F.excBase_ValueError (fun Y => PySem.HandSPX.refsVE_contains Y bm hbm) (I1.kIn _ _ hC) (PySem.W.looks_findIn I1.kIn iC) (fun self => PySem.W.bind_fn I1.kIn self tI) (Nat.zero_le _) ?_)
  refine codeAny_mono (F1.run _ X.stack _ _ ⟨[Value.ref (hp.objs.size + 1)], ks.zip ws⟩ (g [Value.ref (hp.objs.size + 1)] ws) _ _ (fun _ _ _ => False) (hr.make C [] (ks.zip ws)) (I2.env0.make C [] (ks.zip ws)) hB r2 hq) fun r s' hq' => ?_
  cases r with
  | error er => exact hx pins σ _ _ er s' I2 hq'
  | ok fl =>
    cases fl with
    | ret u =>
      obtain ⟨v, H2, I3, rv, ev, q2⟩ := I2.after hq'
      subst ev
      exact ⟨rv, .ref (hp.objs.size + 1), H2, I3, rfl, q2⟩
    | next => exact False.elim hq'
    | brk => exact False.elim hq'
    | cont => exact False.elim hq'
end
end Lw
namespace Lw
open PySem PySem.Spec PyProof.Rows L2

/-! ### what a value reads as, over the abstract heap -/
mutual
inductive RdV (H : Hp) : V → PyData → List Addr → Prop
  | non : RdV H .non .none []
  | bl (b : Bool) : RdV H (.bl b) (.bool b) []
  | int (i : Int) : RdV H (.int i) (.int i) []
  | str (x : Str) : RdV H (.str x) (.str x) []
  | lst {a : Addr} {xs : List V} {ds : List PyData} {as : List Addr} : H a = some (.lst xs) → RdVs H xs ds as → RdV H (.ref a) (.list ds) (a :: as)
  | tup {a : Addr} {xs : List V} {ds : List PyData} {as : List Addr} : H a = some (.tup xs) → RdVs H xs ds as → RdV H (.ref a) (.tuple ds) as
  | dic {a : Addr} {kvs : List (Key × V)} {ps : List (PyData × PyData)} {as bs : List Addr} : H a = some (.dK kvs) → RdVs H (kvs.map fun kv => kV kv.1) (ps.map (·.1)) as → RdVs H (kvs.map (·.2)) (ps.map (·.2)) bs →
      RdV H (.ref a) (.dict ps) (a :: as ++ bs)
inductive RdVs (H : Hp) : List V → List PyData → List Addr → Prop
  | nil : RdVs H [] [] []
  | cons {v : V} {vs : List V} {d : PyData} {ds : List PyData} {as bs : List Addr} : RdV H v d as → RdVs H vs ds bs → RdVs H (v :: vs) (d :: ds) (as ++ bs)
end
section
variable {P : Program} {w : World} {H H' : Hp} {h : Heap}
theorem keys_vals {κ : Type} {knd : KeyKind P w Key} : ∀ {es : List DictEntry} {kvs : List (Key × Value)} {ws : List (Key × V)}, knd = mixKind P w → KV ws kvs → Pairs knd es kvs →
    Vals (ws.map fun kv => kV kv.1) (es.map (·.key)) ∧ Vals (ws.map (·.2)) (es.map (·.val))
  | _, _, _, _, .nil, .nil => ⟨.nil, .nil⟩
  | e :: es, kv :: kvs, x :: ws, hk, .cons r rs, .cons a b c => by
    obtain ⟨h1, h2⟩ := keys_vals (κ := κ) hk rs c
    refine ⟨.cons ?_ h1, .cons ?_ h2⟩
    · subst hk
      rcases keyIs_shape a with ⟨i, t, e1, e2⟩ | ⟨y, t, e1, e2⟩
      · show RelV (kV x.1) e.key
        rw [r.1, e1, e2]
        exact ⟨t, rfl⟩
      · show RelV (kV x.1) e.key
        rw [r.1, e1, e2]
        exact ⟨t, rfl⟩
    · show RelV x.2 e.val
      rw [b]
      exact r.2
mutual
theorem reads_of (ok : HOk P w H h) : ∀ {v : V} {d : PyData} {as : List Addr} {u : Value}, RdV H v d as → RelV v u → Reads h u d as
  | _, _, _, u, .non, r => by cases (show u = Value.none from r); exact .none
  | _, _, _, u, .bl b, r => by cases (show u = Value.bool b from r); exact .bool b
  | _, _, _, u, .int i, r => by obtain ⟨t, e⟩ := (show ∃ t, u = Value.int i t from r); cases e; exact .int i t
  | _, _, _, u, .str x, r => by obtain ⟨t, e⟩ := (show ∃ t, u = Value.str x t from r); cases e; exact .str x t
  | _, _, _, u, .lst (a := a) (xs := xs) e q, r => by
    cases (show u = Value.ref a from r)
    obtain ⟨_, its, n, rv, ho⟩ := (show ObjOk P w H h a (.lst xs) from ok a _ e)
    exact .list ho rfl rfl (reads_all ok q rv)
  | _, _, _, u, .tup (a := a) (xs := xs) e q, r => by
    cases (show u = Value.ref a from r)
    obtain ⟨_, its, rv, o, h1, h2, n, h3⟩ := (show ObjOk P w H h a (.tup xs) from ok a _ e)
    exact .tuple h1 h2 h3 (reads_all ok q rv)
  | _, _, _, u, .dic (a := a) (kvs := kvs) e q1 q2, r => by
    cases (show u = Value.ref a from r)
    obtain ⟨_, _, vs, rk, o, es, ep, h1, h2, h3, h4, h5, h6⟩ := (show ObjOk P w H h a (.dK kvs) from ok a _ e)
    obtain ⟨k1, k2⟩ := keys_vals (κ := Unit) rfl rk h5
    exact .dict h1 h2.1 h3 (reads_all ok q1 k1) (reads_all ok q2 k2)
theorem reads_all (ok : HOk P w H h) : ∀ {vs : List V} {ds : List PyData} {as : List Addr} {us : List Value}, RdVs H vs ds as → Vals vs us → ReadsAll h us ds as
  | _, _, _, _, .nil, .nil => .nil
  | _, _, _, _, .cons a b, .cons r rs => .cons (reads_of ok a r) (reads_all ok b rs)
end
/-- what changes elsewhere leaves it -/
def Holds (H H' : Hp) (as : List Addr) : Prop := ∀ b o, H b = some o → b ∉ as → H' b = some o
mutual
theorem RdV.same (e : Same H H') : ∀ {v : V} {d : PyData} {as : List Addr}, RdV H v d as → RdV H' v d as
  | _, _, _, .non => .non
  | _, _, _, .bl b => .bl b
  | _, _, _, .int i => .int i
  | _, _, _, .str x => .str x
  | _, _, _, .lst a b => .lst (e _ _ a) (RdVs.same e b)
  | _, _, _, .tup a b => .tup (e _ _ a) (RdVs.same e b)
  | _, _, _, .dic a b c => .dic (e _ _ a) (RdVs.same e b) (RdVs.same e c)
theorem RdVs.same (e : Same H H') : ∀ {vs : List V} {ds : List PyData} {as : List Addr}, RdVs H vs ds as → RdVs H' vs ds as
  | _, _, _, .nil => .nil
  | _, _, _, .cons a b => .cons (RdV.same e a) (RdVs.same e b)
end
mutual
theorem RdV.off {x : Addr} {o o0 : HO} (h0 : H x = some o0) (nt : ∀ xs, o0 ≠ .tup xs) : ∀ {v : V} {d : PyData} {as : List Addr}, RdV H v d as → x ∉ as → RdV (upd H x o) v d as
  | _, _, _, .non, _ => .non
  | _, _, _, .bl b, _ => .bl b
  | _, _, _, .int i, _ => .int i
  | _, _, _, .str y, _ => .str y
  | _, _, _, .lst (a := a) e b, n => .lst (by rw [upd_ne fun z => n (by rw [z]; exact List.mem_cons_self)]; exact e) (RdVs.off h0 nt b fun z => n (List.mem_cons_of_mem _ z))
  | _, _, _, .tup (a := a) e b, n => .tup (by rw [upd_ne fun z => by rw [z, h0] at e; exact nt _ (Option.some.inj e)]; exact e) (RdVs.off h0 nt b n)
  | _, _, _, .dic (a := a) e b c, n => .dic (by rw [upd_ne fun z => n (by rw [z]; exact List.mem_append_left _ List.mem_cons_self)]; exact e)
      (RdVs.off h0 nt b fun z => n (List.mem_append_left _ (List.mem_cons_of_mem _ z))) (RdVs.off h0 nt c fun z => n (List.mem_append_right _ z))
theorem RdVs.off {x : Addr} {o o0 : HO} (h0 : H x = some o0) (nt : ∀ xs, o0 ≠ .tup xs) : ∀ {vs : List V} {ds : List PyData} {as : List Addr}, RdVs H vs ds as → x ∉ as → RdVs (upd H x o) vs ds as
  | _, _, _, .nil, _ => .nil
  | _, _, _, .cons a b, n => .cons (RdV.off h0 nt a fun z => n (List.mem_append_left _ z)) (RdVs.off h0 nt b fun z => n (List.mem_append_right _ z))
end
theorem RdVs.append : ∀ {xs ys : List V} {ds es : List PyData} {as bs : List Addr}, RdVs H xs ds as → RdVs H ys es bs → RdVs H (xs ++ ys) (ds ++ es) (as ++ bs)
  | _, _, _, _, _, _, .nil, q => q
  | _, _, _, _, _, _, .cons (as := a1) a b, q => by
    rw [List.append_assoc]
    exact .cons a (RdVs.append b q)
mutual
theorem notModules (ok : HOk P w H h) (hm : ∀ o, h.get? sysModules = some o → o.cls = .type "dict") : ∀ {v : V} {d : PyData} {as : List Addr}, RdV H v d as → sysModules ∉ as
  | _, _, _, .non => by simp
  | _, _, _, .bl b => by simp
  | _, _, _, .int i => by simp
  | _, _, _, .str y => by simp
  | _, _, _, .lst (a := a) (xs := xs) e b => fun z => by
    rcases List.mem_cons.mp z with q | q
    · obtain ⟨_, its, n, rv, ho⟩ := (show ObjOk P w H h a (.lst xs) from ok a _ e)
      rw [← q] at ho
      have c : Value.type "list" = Value.type "dict" := hm _ ho
      exact absurd (Value.type.inj c) (by decide)
    · exact notModulesAll ok hm b q
  | _, _, _, .tup e b => notModulesAll ok hm b
  | _, _, _, .dic (a := a) (kvs := kvs) e b c => fun z => by
    rcases List.mem_append.mp z with z | z
    · rcases List.mem_cons.mp z with q | q
      · obtain ⟨_, h2, _⟩ := (show ObjOk P w H h a (.dK kvs) from ok a _ e)
        rw [← q] at h2
        have c : (sysModules == sysModules) = true := beq_self_eq_true _
        rw [c] at h2
        cases h2
      · exact notModulesAll ok hm b q
    · exact notModulesAll ok hm c z
theorem notModulesAll (ok : HOk P w H h) (hm : ∀ o, h.get? sysModules = some o → o.cls = .type "dict") : ∀ {vs : List V} {ds : List PyData} {as : List Addr}, RdVs H vs ds as → sysModules ∉ as
  | _, _, _, .nil => by simp
  | _, _, _, .cons a b => fun z => (List.mem_append.mp z).elim (notModules ok hm a) (notModulesAll ok hm b)
end
end
/-- small data: a text of few signs -/
structure Small (d : PyData) (n m : Nat) : Prop where
  show_ : d.showable = true
  dep : d.depth ≤ m
  len : d.shown.length ≤ n
/-- repr(x), x a list, a tuple or a dict -/
def rRepr : List V → Hp → VK → Prop := fun xs H Q => ∃ (a : Addr) (d : PyData) (as : List Addr), xs = [.ref a] ∧ RdV H (.ref a) d as ∧ Small d 16777216 60 ∧ Q (.str d.shown) H
theorem call_repr {X : Cx} (hg : X.A.guards = some []) (hu : X.A.units + 64 < cLine) (hD : He.dictB X.K sysModules = true) : CallR X (.builtin "repr") rRepr := by
  intro pins s σ H xs us Q I r h
  obtain ⟨a, d, as, rfl, rd, sm, q⟩ := h
  obtain ⟨u, rfl, ru⟩ := vals1 r
  have R := reads_of I.hok rd ru
  cases (show u = Value.ref a from ru)
  have hm : ∀ o, s.heap.get? sysModules = some o → o.cls = .type "dict" := fun o e => by
    obtain ⟨es, n, sl, hk⟩ := He.dictB_ok hD
    have e2 := I.kIn _ _ hk
    rw [e] at e2
    cases e2
    rfl
  have nm := notModules I.hok hm rd
  have e1 := sm.dep
  refine repr_of_reads' R sm.show_ (fun _ => nm) hg (by omega) (fun _ _ z => z) (fun h' u tk hk => ?_) (by rw [sizeLine_eq]; exact sm.len)
  exact ⟨.str d.shown, H, I.kept (t' := tk) hk, ⟨u, rfl⟩, q⟩
end Lw
namespace Lw
open PySem PySem.Spec PyProof.Rows L2

/-! ### defs that are called where no text of a list is being made (repr asks that) -/
structure FnG (P : Program) (w : World) (K : PySem.W.Frag) (mg : Str → Option Value) (base : Heap) (CX : CXT) (k : Nat) (f : Addr) (fd : FuncData) (ps : List Str) (sp : Sp) : Prop where
  len : ∀ vs H Q E, sp vs H Q E → vs.length = ps.length
  run : ∀ (A : Around) (outer : List Env) (s : Shared) (H : Hp) (args : Args) (us : List Value) (vs : List V) (Q : VK) (E : XK), A.guards = some [] → Room k A → Env0 P w K mg base A outer s H → BindsTo s fd args (ps.zip us) → Vals vs us → sp vs H Q E →
    codeAny (model P w) A (.call (.ref f) args) (CR CX outer P w H s Q E) s
theorem FnG.of {P : Program} {w : World} {K : PySem.W.Frag} {mg : Str → Option Value} {base : Heap} {CX : CXT} {k : Nat} {f : Addr} {fd : FuncData} {ps : List Str} {sp : Sp} (F : FnOk P w K mg base CX k f fd ps sp) : FnG P w K mg base CX k f fd ps sp :=
  ⟨F.len, fun A outer s H args us vs Q E _ hr e0 hb r hsp => F.run A outer s H args us vs Q E hr e0 hb r hsp⟩
section
variable {P : Program} {w : World} {K : PySem.W.Frag} {mg : Str → Option Value} {base : Heap} {x qual : Str} {params : Arguments} {body : List Stmt} {scope : Scope} {dvs : List V} {kws : List (Str × V)} {f : Addr} {fd : FuncData}
/-- the rule for such a def: by its body -/
theorem okG {CX : CXT} {N ps : List Str} {k : Nat} {sp : Sp} (F : FunD K x qual params body scope dvs kws f fd) (S : FnScope N ps scope) (len : ∀ vs H Q E, sp vs H Q E → vs.length = ps.length)
    (hbody : ∀ (cdv : Value) (A : Around) (outer : List Env) (s : Shared) (H : Hp) (vs : List V) (Q : VK) (E : XK), A.guards = some [] → Room k (A.deeper (envOfC qual scope s.heap.objs.size f cdv)) → sp vs H Q E →
      ∃ t, PSs (cxOf CX P w K mg base N qual scope f cdv A outer s H E) body t ∧ t { nx := fun _ H' => Q .non H', rt := Q } (start N vs) H) : FnG P w K mg base CX (k + 1) f fd ps sp := by
  obtain ⟨oc, od, dV, kV, doc, pm, an, cdv, ct, osl, rfl, lk, hcd, _, _⟩ := F.ex
  refine ⟨len, fun A outer s H args us vs Q E hg hr e0 hb r hsp => ?_⟩
  have one : FnOk P w K mg base CX (k + 1) f (PySem.W.fnOf x qual params body scope dV kV doc pm an cdv ct) ps (fun ws G R Er => ws = vs ∧ G = H ∧ R = Q ∧ Er = E ∧ A.guards = some [] ∧ sp vs H Q E) → codeAny (model P w) A (.call (.ref f) args) (CR CX outer P w H s Q E) s :=
    fun G => G.run A outer s H args us vs Q E hr e0 hb r ⟨rfl, rfl, rfl, rfl, hg, hsp⟩
  have hl := len _ _ _ _ hsp
  have KX : K.In s.heap := e0.mod.kin.keeps fun b o e => (e0.bs b o e).1
  have lim : s.heap.NoLimit := e0.mod.nolimit.keeps fun b o e => (e0.bs b o e).1
  have hkind : ∀ y ∈ ps.zip us, scope.names.lookup y.1 = some .local ∨ (scope.names.lookup y.1 = some .cell ∧ ((cellsFrom (s.heap.objs.size + 1) scope.names []).lookup y.1).isSome = true) := by
    rintro ⟨n, v⟩ hy
    rcases S.par n (List.of_mem_zip hy).1 with q | q
    · exact .inl q
    · exact .inr ⟨q, PySem.W.cellsFrom_some _ _ _ (.inl q)⟩
  refine codeAny_call_function hr.depth (KX _ _ lk) rfl S.co S.gen rfl (PySem.W.codeRec_of KX hcd) (hb _ _ _ _ ?_)
  refine wpAny_newFunctionEnv_cells S.kind hkind fun env he s1 xx => ?_
  subst he
  refine ⟨lim.keeps xx.toInCall.keep, codeAny_func ?_⟩
  obtain ⟨t, ht, hq⟩ := hbody cdv A outer s H vs Q E hg (hr.deeper _) hsp
  have I : Inv (cxOf CX P w K mg base N qual scope f cdv A outer s H E) [] (start N vs) H s1 := inv_start S hr.hd e0 hl r xx
  refine wpAny_mono (ht.run [] s1 (start N vs) H _ I hq) (fun fl s' hs => ?_) fun e s' hs => hs
  have fin : ∀ {σ' : L2.St} {H' : Hp} {v : V} {u : Value}, Inv (cxOf CX P w K mg base N qual scope f cdv A outer s H E) [] σ' H' s' → RelV v u → Q v H' → CE outer P w H s Q u s' := by
    intro σ' H' v u J rv q
    exact ⟨v, H', J.os, J.bare, J.base, J.hok, rv, q⟩
  cases fl with
  | ret u =>
    obtain ⟨v, σ', H', J, rv, q⟩ := hs
    exact fin J rv q
  | next =>
    obtain ⟨σ', H', J, q⟩ := hs
    exact fin (v := V.non) (u := Value.none) J rfl q
  | brk => exact False.elim (by obtain ⟨_, _, _, q⟩ := hs; exact q)
  | cont => exact False.elim (by obtain ⟨_, _, _, q⟩ := hs; exact q)
end
structure DefG (P : Program) (w : World) (K : PySem.W.Frag) (mg : Str → Option Value) (base : Heap) (CX : CXT) (k : Nat) (x : Str) (ps : List Str) (dvs : List V) (sp : Sp) : Prop where
  ex : ∃ (f : Addr) (fd : FuncData) (ds : List Value), FnG P w K mg base CX k f fd ps sp ∧ mg x = some (.ref f) ∧ PySem.W.keepIn K (.ref f) = true ∧ Binds K fd ps ds ∧ Vals dvs ds
section
variable {X : Cx} {CX : CXT} {k : Nat} {ps : List Str} {dvs : List V} {sp : Sp} {E : XK} {x : Str} {p pos : Pos} {e : Expr} {es : List Expr} {t : TA}
theorem pe_g (D : DefG X.prog X.w X.K X.mg X.base CX k x ps dvs sp) (gd : X.A.guards = some []) (hr : Room k X.A) (hx : Passes CX X E) (ha : PA X (e :: es) t) (hg : Gl X x := by rfl)
    (hdb : (x == ("__debug__" : Str)) = false := by decide) (he : starEach (e :: es) X.env = (false, eval e X.env) :: starEach es X.env := by rfl) (hpl : (backTo pos (starEach es X.env)).any (·.1) = false := by rfl) :
    PE X (.Call (.Name x p) (e :: es) [] pos) (tCall sp dvs E t) := by
  obtain ⟨f, fd, ds, F, hm, hk, hb, hd⟩ := D.ex
  refine ⟨fun pins s σ H Q I h => ?_⟩
  refine wpAny_Call_Name_kw (ld_glob I hg hm ?_ hdb)
  refine PySem.W.callWith_K (h₀ := X.base) I.ok.mod.kin hk (thn (ha.run pos pins s σ H _ I h) fun us s1 ⟨vs, H1, I1, r, q⟩ => ⟨I1.kIn, ?_⟩) he hpl
  have r2 : Vals (vs ++ dvs) (us ++ ds) := r.append hd
  have hl : (us ++ ds).length = ps.length := by
    rw [← r2.length]
    exact F.len _ _ _ _ q
  refine wpAny_call (codeAny_mono (F.run X.A X.stack s1 H1 ⟨us, []⟩ (us ++ ds) (vs ++ dvs) Q E gd hr I1.env0 (hb s1 us I1.kIn hl) r2 q) fun r s' hq => ?_)
  cases r with
  | error er => exact hx pins σ H1 s1 er s' I1 hq
  | ok fl =>
    cases fl with
    | ret u => exact I1.after hq
    | next => exact False.elim hq
    | brk => exact False.elim hq
    | cont => exact False.elim hq
end
/-! ### the law's end, the script's bits told -/
theorem lawG {P : Program} {w : World} {K : PySem.W.Frag} {mg mb : Str → Option Value} {CX : CXT} {k : Nat} {fa a : Addr} {fd : FuncData} {x : Str} {sp : Sp} {s1 : Shared} {vs : List Value} {ns : List Int}
    (KX : K.In s1.heap) (hns : s1.heap.Ns mainGlobals mg) (hb : s1.heap.Ns builtinsNs mb) (hbb : ∀ x : Str, x ≠ "__name__" → mb x = bootBuiltins x) (hlim : s1.heap.NoLimit) (hg : s1.gens = #[])
    (ha : s1.heap.get? a = some { cls := .type "list", data := .seq vs.toArray }) (hi : IntsAre vs ns) (hl : ns.length ≤ sizeLine) (hr : Room k callerA)
    (F : ∀ base : Heap, K.In base → base.Ns mainGlobals mg → FnG P w K mg base CX k fa fd [x] sp) (hbind : ∀ (s : Shared) (u : Value), BindsTo s fd ⟨[u], []⟩ [(x, u)])
    (hsp : ∀ H : Hp, Only H → SqL K H a (ns.map V.int) → sp [.ref a] H (fun v _ => v = .bl true) fun _ _ _ => False)
    (hCX : ∀ H e s', CX [] H s1 (fun _ _ _ => False) e s' → False) :
    codeAny (model P w) callerA (.call (.ref fa) ⟨[.ref a], []⟩) (fun r s' => r = .ok (.ret (.bool true)) ∧ OldK s1.heap s'.heap ∧ s'.os = s1.os ∧ AllBare s'.gens) s1 := by
  -- the elder end's road, at callerA alone: its promise is asked nowhere else
  have rv := vals_ints hi
  have lenV := hi.length
  have core : ∀ H : Hp, Only H → SqL K H a (ns.map V.int) → HOk P w H s1.heap → (∀ b, H b ≠ none → b = a) → (H a ≠ none → K.lookup a = none) →
      codeAny (model P w) callerA (.call (.ref fa) ⟨[.ref a], []⟩) (fun r s' => r = .ok (.ret (.bool true)) ∧ OldK s1.heap s'.heap ∧ s'.os = s1.os ∧ AllBare s'.gens) s1 := by
    intro H hO hS hok hA hK
    have isA : ∀ {b : Addr} {u : HO}, H b = some u → b = a := fun {b u} q => hA b (by rw [q]; exact Option.some_ne_none u)
    have bOf : ∀ {b : Addr} {o : Obj}, s1.heap.get? b = some o → H b = none → (hidT s1.heap H).get? b = some o := fun z n => hidT_get z n
    have notDict : ∀ {b : Addr} {o : Obj} {es : Array DictEntry} {ep : Nat}, s1.heap.get? b = some o → o.data = .dict es ep → H b = none := by
      intro b o es ep z dd
      rcases q : H b with _ | u
      · rfl
      · have eb := isA q
        rw [eb, ha] at z
        cases z
        cases dd
    have nsT : ∀ {b : Addr} {m : Str → Option Value}, s1.heap.Ns b m → (hidT s1.heap H).Ns b m := by
      rintro b m ⟨o, es, ep, z, dd, r⟩
      exact ⟨o, es, ep, bOf z (notDict z dd), dd, r⟩
    have kT : K.In (hidT s1.heap H) := by
      intro b o z
      refine bOf (KX b o z) ?_
      rcases q : H b with _ | u
      · rfl
      · have eb := isA q
        have e2 := hK (by rw [← eb, q]; exact Option.some_ne_none u)
        rw [eb, e2] at z
        cases z
    have hM : Mod K mg (hidT s1.heap H) := ⟨kT, nsT hns, ⟨mb, nsT hb, hbb⟩, let ⟨mc, h1, h2⟩ := hlim; ⟨mc, nsT h1, h2⟩⟩
    have e0 : Env0 P w K mg (hidT s1.heap H) callerA [] s1 H := ⟨rfl, hM, fun b o z => of_hidT z, Nat.le_of_eq (hidT_size _ _), trivial, fun b z => absurd (show b ∈ ([] : List Addr) from z) (by simp), hok, .of_eq hg⟩
    refine codeAny_mono ((F _ kT (nsT hns)).run callerA [] s1 H ⟨[.ref a], []⟩ [.ref a] [.ref a] _ _ rfl hr e0 (hbind s1 (.ref a)) (.cons rfl .nil) (hsp H hO hS)) ?_
    intro r s' z
    rcases r with er | fl
    · exact (hCX H er s' z).elim
    · cases fl with
      | ret u =>
        obtain ⟨v, H', os, bare, un, hok', r', q⟩ := z
        obtain rfl : v = V.bl true := q
        obtain rfl : u = Value.bool true := r'
        refine ⟨rfl, OldK.of_keep (fun b o z => ?_), os, bare⟩
        rcases q : H b with _ | u
        · exact un.keep b o z q (fun y => absurd (show b ∈ ([] : List Addr) from y) (by simp)) (by simp)
        · rcases hO b with y | ⟨ob, xs, y⟩
          · rw [q] at y
            cases y
          · obtain ⟨e1, _⟩ := hok b _ y
            obtain ⟨e2, _⟩ := hok' b _ (un.frzs b ob _ y)
            rw [z] at e1
            cases e1
            exact e2
      | next => exact False.elim z
      | brk => exact False.elim z
      | cont => exact False.elim z
  rcases hk : K.lookup a with _ | o
  · refine core (fun b => if b = a then some (.frz { cls := .type "list", data := .seq vs.toArray } (.lst (ns.map V.int))) else none) ?_ (.inl (.inr ⟨{ cls := .type "list", data := .seq vs.toArray }, if_pos rfl⟩)) ?_ ?_ fun _ => hk
    · intro b
      by_cases eb : b = a
      · exact .inr ⟨_, _, if_pos eb⟩
      · exact .inl (if_neg eb)
    · intro b u z
      by_cases eb : b = a
      · have y := (if_pos eb).symm.trans z
        cases y
        subst eb
        exact ⟨ha, by rw [List.length_map]; exact hl, vs, _, rv, ha⟩
      · have y := (if_neg eb).symm.trans z
        cases y
    · intro b z
      by_cases eb : b = a
      · exact eb
      · exact absurd (if_neg eb) z
  · have e := KX a o hk
    rw [ha] at e
    cases e
    exact core (fun _ => none) (fun _ => .inl rfl) (.inr ⟨_, vs.toArray, _, hk, rfl, rfl, rfl, by rw [List.size_toArray, lenV]; exact hl, by simpa using rv⟩) (fun b u z => (by have y : (none : Option HO) = some u := z; cases y)) (fun b z => absurd rfl z) fun z => absurd rfl z
theorem walkG {l : PySem.W.OpenLaw} {n k : Nat} {q : Program} {loose : List Str} {XP : (Str → Option Value) → Heap → Prop} {YP : World → Heap → Prop} {d : DefRec} {CX : CXT} {x : Str} (hn : l.most = some n) (hn2 : n ≤ sizeLine) (hdf : d.params.defaults = []) (hr : Room k callerA)
    (F : ∀ (w : World) (mg : Str → Option Value) (fa : Addr) (h : Heap), YP w h → h.Ns mainGlobals mg → mg d.name = some (.ref fa) →
      ∃ (K : PySem.W.Frag) (fd : FuncData) (sp : Sp), K.In h ∧ (∀ (s : Shared) (u : Value), BindsTo s fd ⟨[u], []⟩ [(x, u)]) ∧
        (∀ (H : Hp) (a : Addr) (ns : List Int), ns.length ≤ n → (∀ z ∈ ns, Builtin.Int.intBits z ≤ 1048576) → Only H → SqL K H a (ns.map V.int) → sp [.ref a] H (fun v _ => v = .bl true) fun _ _ _ => False) ∧
        ∀ base : Heap, K.In base → base.Ns mainGlobals mg → FnG l.prog w K mg base CX k fa fd [x] sp)
    (hCX : ∀ (H : Hp) (s : Shared) (e : Value) (s' : Shared), CX [] H s (fun _ _ _ => False) e s' → False) : PySem.W.WalkO q loose XP YP l.row.toRowW d [] (fun f vs => PySem.call f vs) := by
  refine Att.attach_callB hn hdf fun w s0 s1 mg mb fa o pm cd doc a vs ns G Y ho hd hcd hmg hobj hints hlen hbits hg => ?_
  obtain ⟨K, fd, sp, KX, hb, hsp, hF⟩ := F w mg fa _ Y G.T.g hmg
  exact lawG KX G.T.g G.T.b G.T.builtins G.T.nolimit hg hobj hints (Nat.le_trans hlen hn2) hr hF hb (fun H hO hS => hsp H a ns hlen hbits hO hS) fun H e s' => hCX H s1 e s'
/-! ### the head's look: the facts, and sys.modules' own object -/
def kz (n : Nat) (g : Addr → Option Obj) : PySem.W.Frag := He.frT g (He.asD g n ++ [sysModules])
abbrev AlZ : Type := He.AlD × Bool
def obZ (n : Nat) (fa : List He.Fa) (fn : List He.DefD) (ex : PySem.W.Frag → Bool) (g : Addr → Option Obj) : AlZ := (He.obsD fa fn (kz n g), ex (kz n g) && He.dictB (kz n g) sysModules)
structure SaysZ (fa : List He.Fa) (fn : List He.DefD) (ex : PySem.W.Frag → Bool) (K : PySem.W.Frag) : Prop where
  d : He.SaysD fa fn K
  more : ex K = true
  sm : He.dictB K sysModules = true
def hookZ (n : Nat) (fa : List He.Fa) (fn : List He.DefD) (ex : PySem.W.Frag → Bool) : PySem.W.Hook where
  α := AlZ
  obs := fun s => obZ n fa fn ex s.heap.get?
  val := fun _ => (He.valD fn, true)
  says := fun _ h => ∃ K : PySem.W.Frag, K.In h ∧ SaysZ fa fn ex K
  of := fun _ s e => ⟨kz n s.heap.get?, He.frT_in, congrArg Prod.fst e, (Bool.and_eq_true_iff.mp (congrArg Prod.snd e)).1, (Bool.and_eq_true_iff.mp (congrArg Prod.snd e)).2⟩
  keeps := fun _ _ _ ⟨K, hK, c⟩ k => ⟨K, PySem.W.Frag.In.keeps hK k, c⟩
theorem obZ_eq {n : Nat} {fa : List He.Fa} {fn : List He.DefD} {ex : PySem.W.Frag → Bool} {g : Addr → Option Obj} {s : Shared} (h : ∀ a, g a = s.heap.get? a) : obZ n fa fn ex g = (hookZ n fa fn ex).obs s := by
  have e : g = s.heap.get? := funext h
  subst e
  rfl
end Lw
namespace Lw
open PySem PySem.Spec PyProof.Rows L2
/-- for i, x in enumerate(list), the list stays -/
theorem for_enum {K : PySem.W.Frag} {a : Addr} {xs : List V} {g : TG} {tb : TS} {D : Ends} {σ : L2.St} {H : Hp} (Pv : Nat → L2.St → Hp → Prop) (h0 : Pv 0 σ H) (hq : ∀ i σ H, i ≤ xs.length → Pv i σ H → SqL K H a xs)
    (hs : ∀ (i : Nat) (x : V) (T : Addr) (σ : L2.St) (H : Hp), xs[i]? = some x → Pv i σ H → H T = none → g (.ref T) σ (upd H T (.tup [.int (i : Nat), x])) fun σ2 H2 => tb { D with nx := Pv (i + 1), ct := Pv (i + 1), bk := D.nx } σ2 H2)
    (hd : ∀ σ H, Pv xs.length σ H → D.nx σ H) :
    ∃ W : Nat → Nat → L2.St → Hp → Prop, (∃ m, W 0 m σ H) ∧ ∀ i m σ H, W i m σ H →
      ((Ite K a).stop i H ∧ D.nx σ H) ∨ ((Ite K a).go i H ∧ ∃ N : L2.St → Hp → Prop, (∀ σ' H', N σ' H' → ∃ m', m' < m ∧ W (i + 1) m' σ' H') ∧ ∀ v H', (Ite K a).yld i H v H' → g v σ H' fun σ2 H2 => tb { D with nx := N, ct := N, bk := D.nx } σ2 H2) := by
  refine ⟨fun i m σ H => m = xs.length - i ∧ i ≤ xs.length ∧ Pv i σ H, ⟨xs.length, rfl, Nat.zero_le _, h0⟩, ?_⟩
  rintro i m σ H ⟨rfl, hi, p⟩
  have q := hq i σ H hi p
  by_cases hlt : i < xs.length
  · refine .inr ⟨⟨xs, xs[i], q, List.getElem?_eq_getElem hlt⟩, Pv (i + 1), fun σ' H' p' => ⟨xs.length - (i + 1), by omega, rfl, hlt, p'⟩, ?_⟩
    rintro v H' ⟨T, x, rfl, hT, rfl, f⟩
    exact hs i x T σ H (f xs q) p hT
  · have e : i = xs.length := by omega
    subst e
    exact .inl ⟨⟨xs, q, Nat.le_refl _⟩, hd σ H p⟩
/-! ### errors made, by their own __init__ -/
/-- self.f = v -/
def spErr (C : Addr) (f : Str) : Sp := fun vs H Q _ => ∃ (a : Addr) (v : V), vs = [.ref a, v] ∧ H a = some (exo a C none) ∧ ∀ d, H d = none → d ≠ a → Q .non (upd (upd H d (exd d [(f, v)])) a (exo a C (some d)))
theorem rd_err {C : Addr} {f : Str} {v : V} {H1 : Hp} {Q : VK} {E : XK} (k : ∀ a H', Same H1 H' → H1 a = none → ErrAt H' a C f v → Q (.ref a) H') :
    [v].length ≤ 1000 ∧ ∀ a, H1 a = none → spErr C f (.ref a :: [v]) (upd H1 a (exo a C none)) (fun w H2 => w = .non ∧ Q (.ref a) H2) E := by
  refine ⟨(by decide : 1 ≤ 1000), fun a ha => ⟨a, v, rfl, upd_same, fun d hd nd => ⟨rfl, k a _ (fun b o e => ?_) ha ⟨d, upd_same, ?_⟩⟩⟩⟩
  · rw [upd_ne nd] at hd
    rw [upd_ne (ne_of_none e ha), upd_ne (ne_of_none e hd), upd_ne (ne_of_none e ha)]
    exact e
  · rw [upd_ne nd, upd_same]
theorem rd_errK {C : Addr} {f : Str} {v : V} {H1 : Hp} {Q : VK} {E : XK} (k : ∀ a H', Same H1 H' → H1 a = none → ErrAt H' a C f v → Q (.ref a) H') :
    [v].length = 1 ∧ ∀ a, H1 a = none → spErr C f ([.ref a] ++ [v]) (upd H1 a (exo a C none)) (fun w H2 => w = .non ∧ Q (.ref a) H2) E :=
  ⟨rfl, (rd_err (E := E) k).2⟩
theorem kb1 {K : PySem.W.Frag} {x qual fl : Str} {params : Arguments} {body : List Stmt} {scope : Scope} {f : Addr} {fd : FuncData} (F : FunD K x qual params body scope [] [] f fd)
    (h : ∀ (kV doc pm : Value) (an : Option Addr) (cdv ct u w : Value), bindArgs (PySem.W.fnOf x qual params body scope .none kV doc pm an cdv ct) ⟨[u], [(fl, w)]⟩ = pure ((["self", fl] : List Str).zip [u, w])) :
    KBn K fd ["self", fl] 1 [fl] (fun us ws => us ++ ws) (fun vs zs => vs ++ zs) := by
  obtain ⟨oc, od, dV, kV, doc, pm, an, cdv, ct, osl, rfl, lk, hcd, hD, hK⟩ := F.ex
  rcases hD with ⟨_, rfl⟩ | ⟨e, _⟩
  · refine ⟨fun s us ws X l1 l2 => ?_, fun r1 r2 => r1.append r2⟩
    match us, ws, l1, l2 with
    | [u], [w], _, _ => exact BindsTo.of_eq (h _ _ _ _ _ _ _ _)
  · exact absurd rfl e
structure ErrOk (P : Program) (w : World) (K : PySem.W.Frag) (mg : Str → Option Value) (base : Heap) (n f : Str) : Prop where
  ex : ∃ (fI : Addr) (fd : FuncData), mg n = some (.ref (He.ga K n)) ∧ XC K (He.ga K n) f ∧ PySem.W.findIn K (.ref (He.ga K n)) "__init__" = some (some (.ref fI)) ∧ PySem.W.typeIn K (.ref fI) = some (.type "function") ∧
    FnOk P w K mg base CX0 1 fI fd ["self", f] (spErr (He.ga K n) f) ∧ Binds K fd ["self", f] [] ∧ KBn K fd ["self", f] 1 [f] (fun us ws => us ++ ws) (fun vs zs => vs ++ zs)
theorem ErrOk.xc {P : Program} {w : World} {K : PySem.W.Frag} {mg : Str → Option Value} {base : Heap} {n f : Str} (E : ErrOk P w K mg base n f) : XC K (He.ga K n) f := by
  obtain ⟨_, _, _, h, _⟩ := E.ex
  exact h
theorem ErrOk.g {P : Program} {w : World} {K : PySem.W.Frag} {mg : Str → Option Value} {base : Heap} {n f : Str} (E : ErrOk P w K mg base n f) : mg n = some (.ref (He.ga K n)) := by
  obtain ⟨_, _, h, _⟩ := E.ex
  exact h
section
variable {X : Cx} {f : Str} {x : Str} {p pos : Pos} {e : Expr} {es : List Expr} {ta tk : TA} {kws : List Keyword}
/-- C(e), C(f = e): a new error -/
def tErr (C : Addr) (f : Str) (ta : TA) : TE := fun σ H Q => ta σ H fun vs H1 => ∃ v, vs = [v] ∧ ∀ a H', Same H1 H' → H1 a = none → ErrAt H' a C f v → Q (.ref a) H'
theorem pe_er (E : ErrOk X.prog X.w X.K X.mg X.base x f) (hr : Room 2 X.A) (ha : PA X (e :: es) ta) (hg : Gl X x := by rfl)
    (hdb : (x == ("__debug__" : Str)) = false := by decide) (he : starEach (e :: es) X.env = (false, eval e X.env) :: starEach es X.env := by rfl) (hpl : (backTo pos (starEach es X.env)).any (·.1) = false := by rfl) :
    PE X (.Call (.Name x p) (e :: es) [] pos) (tErr (He.ga X.K x) f ta) := by
  obtain ⟨fI, fd, h1, h2, h3, h4, h5, h6, h7⟩ := E.ex
  refine ⟨fun pins s σ H Q I h => ?_⟩
  refine wpAny_Call_Name_kw (ld_glob I hg h1 ?_ hdb)
  refine PySem.W.callWith_K (h₀ := X.base) I.ok.mod.kin h2.oex.kC (thn (ha.run pos pins s σ H _ I h) fun us s1 ⟨vs, H1, I1, r1, v, ev, q1⟩ => ⟨I1.kIn, ?_⟩) he hpl
  subst ev
  have z := rd_err (C := He.ga X.K x) (E := fun _ _ _ => False) q1
  exact run_mkv h2.oex h3 h4 h5 hr h6 (fun _ _ _ _ _ _ _ z => z.elim) I1 r1 z.1 z.2
theorem pe_er_k (E : ErrOk X.prog X.w X.K X.mg X.base x f) (hr : Room 2 X.A) (hkw : PK X kws tk) (hg : Gl X x := by rfl)
    (hall : (backToKw pos (keywordEach kws X.env)).all (·.1.isSome) = true := by rfl) (hks : (backToKw pos (keywordEach kws X.env)).filterMap (·.1) = [f] := by rfl) (hdb : (x == ("__debug__" : Str)) = false := by decide)
    (hpl : ((backTo pos (starEach [] X.env)).any (·.1) || (backToKw pos (keywordEach kws X.env)).any (·.1.isNone)) = false := by rfl) :
    PE X (.Call (.Name x p) [] kws pos) (tErr (He.ga X.K x) f tk) := by
  obtain ⟨fI, fd, h1, h2, h3, h4, h5, h6, h7⟩ := E.ex
  refine ⟨fun pins s σ H Q I h => ?_⟩
  refine wpAny_Call_Name_kw (ld_glob I hg h1 ?_ hdb)
  refine PySem.W.callWith_KW0 (h₀ := X.base) I.ok.mod.kin h2.oex.kC hall ?_ hpl
  refine thn (hkw.run pos pins s σ H _ I h) fun ws s1 ⟨zs, H1, I1, rz, v, ev, q1⟩ => ⟨I1.kIn, ?_⟩
  rw [hks]
  subst ev
  have z := rd_errK (C := He.ga X.K x) (E := fun _ _ _ => False) q1
  exact run_mkvK h2.oex h3 h4 h5 hr h7 (fun _ _ _ _ _ _ _ z => z.elim) I1 rz z.1 z.2
end
end Lw
namespace PySem.LwE
open PySem.SeqAt GQ
open AutoSeq1 (wpAny_loadPart')
open MeetsSeq MeetsSeq2 MeetsSeq3 SeqRoads2
section
variable {prog : Program} {w : World} {A : Around} {R : Result → Shared → Prop} {E : Value → Shared → Prop}
/-- a list beside an empty one: by the sizes alone -/
theorem list_eq0 {l b : Addr} {items : Array Value} {n n2 : Nat} {s : Shared} (hl : s.heap.get? l = some { cls := .type "list", data := .seq items n }) (hb : s.heap.get? b = some { cls := .type "list", data := .seq #[] n2 })
    (h : R (.ok (.ret (.bool (items.size == 0)))) s) : wpAny (model prog w) A.in1 (Builtin.«list.__eq__» ⟨[.ref l, .ref b], []⟩) (FinOf prog w A R) (fun e s' => R (.error e) s') s := by
  have f3 := AutoSeq1.sub_list_list
  by_cases hz : items.size = 0
  · have hN : ListI prog w A (fun e s' => R (.error e) s') l b 0 (fun _ s' => s' = s) := by
      rintro i s' rfl
      exact ⟨items, #[], n, n2, hl, hb, hz, rfl, fun h1 h2 => absurd h2 (by simp)⟩
    refine list_eqG l b 0 _ hN (fun s' e => ?_) rfl
    subst e
    rw [hz] at h
    exact h
  · obtain ⟨hp, g, d, tk, os⟩ := s
    have hne : (items.size != (#[] : Array Value).size) = true := by simpa using hz
    have he : (items.size == 0) = false := by simpa using hz
    rw [he] at h
    wp_walk using wpAny_loadPart' hl, wpAny_loadPart' hb
    exact h
theorem tuple_eq0 {l b : Addr} {items : Array Value} {n n2 : Nat} {dd dd2 : Option Addr} {sl sl2 : Array (Option Value)} {s : Shared} (hl : s.heap.get? l = some { cls := .type "tuple", dict := dd, data := .seq items n, slots := sl })
    (hb : s.heap.get? b = some { cls := .type "tuple", dict := dd2, data := .seq #[] n2, slots := sl2 })
    (h : R (.ok (.ret (.bool (items.size == 0)))) s) : wpAny (model prog w) A.in1 (Builtin.«tuple.__eq__» ⟨[.ref l, .ref b], []⟩) (FinOf prog w A R) (fun e s' => R (.error e) s') s := by
  have f2 := AutoSeq1.sub_tuple_tuple
  obtain ⟨hp, g, d, tk, os⟩ := s
  have hZ : items.toList.zip (#[] : Array Value).toList = [] := by simp
  wp_walk using wpAny_loadPart' hl, wpAny_loadPart' hb
  rw [hZ]
  wp_walk
  simpa [Builtin.Tuple.tupleCompareSizes] using h
theorem rc_list0 {l b : Addr} {items : Array Value} {n n2 : Nat} {s : Shared} {Q : Value → Shared → Prop} (hu : A.units < cLine) (hl : s.heap.get? l = some { cls := .type "list", data := .seq items n }) (hb : s.heap.get? b = some { cls := .type "list", data := .seq #[] n2 })
    (h : Q (.bool (items.size == 0)) s) : wpAny (model prog w) A (richCompare .Eq (.ref l) (.ref b)) Q E s := by
  refine wpAny_richCompare_same_room (op := .Eq) ⟨_, hl, rfl⟩ ⟨_, hb, rfl⟩ F.slot_list_eq (call_here F.slot_list_eq ⟨_, hl, rfl⟩ F.entry_list_eq (F.args_list_eq_2 _ _) ?_) hu
  exact list_eq0 (R := wants (fun v s' => v ≠ .notImplemented ∧ Q v s') E) hl hb ⟨(fun x => nomatch x), h⟩
theorem rc_tup0 {l b : Addr} {items : Array Value} {n n2 : Nat} {dd dd2 : Option Addr} {sl sl2 : Array (Option Value)} {s : Shared} {Q : Value → Shared → Prop} (hu : A.units < cLine) (hl : s.heap.get? l = some { cls := .type "tuple", dict := dd, data := .seq items n, slots := sl })
    (hb : s.heap.get? b = some { cls := .type "tuple", dict := dd2, data := .seq #[] n2, slots := sl2 }) (h : Q (.bool (items.size == 0)) s) : wpAny (model prog w) A (richCompare .Eq (.ref l) (.ref b)) Q E s := by
  refine wpAny_richCompare_same_room (op := .Eq) ⟨_, hl, rfl⟩ ⟨_, hb, rfl⟩ F.slot_tuple_eq (call_here F.slot_tuple_eq ⟨_, hl, rfl⟩ F.entry_tuple_eq (F.args_tuple_eq_2 _ _) ?_) hu
  exact tuple_eq0 (R := wants (fun v s' => v ≠ .notImplemented ∧ Q v s') E) hl hb ⟨(fun x => nomatch x), h⟩
end
end PySem.LwE
namespace Lw
open PySem PySem.Spec PyProof.Rows L2
theorem size0 {xs : List V} {its : List Value} (r : Vals xs its) : (its.toArray.size == 0) = xs.isEmpty := by
  cases r <;> rfl
/-- a tuple or a list beside an empty one -/
def rEq0 (K : PySem.W.Frag) : R2 := fun x y H Q => ∃ a b xs, x = .ref a ∧ y = .ref b ∧ ((SqT K H a xs ∧ SqT K H b []) ∨ (H a = some (.lst xs) ∧ H b = some (.lst []))) ∧ Q (.bl xs.isEmpty) H
theorem op_eq0 {X : Cx} (hu : X.A.units < cLine) : OpR X (compareOp .Eq) (rEq0 X.K) := by
  intro pins s σ H x y v u Q I rx ry h
  obtain ⟨a, b, xs, rfl, rfl, h, q⟩ := h
  cases (show v = Value.ref a from rx)
  cases (show u = Value.ref b from ry)
  rcases h with ⟨h1, h2⟩ | ⟨h1, h2⟩
  · obtain ⟨its, r1, ⟨o1, e1, c1, n1, d1⟩, _⟩ := I.tuple h1
    obtain ⟨it2, r2, ⟨o2, e2, c2, n2, d2⟩, _⟩ := I.tuple h2
    cases r2
    obtain ⟨oc1, od1, dt1, sl1⟩ := o1
    obtain ⟨oc2, od2, dt2, sl2⟩ := o2
    dsimp only at c1 d1 c2 d2
    subst c1 d1 c2 d2
    refine LwE.rc_tup0 hu e1 e2 ?_
    rw [size0 r1]
    exact ⟨.bl xs.isEmpty, H, I, rfl, q⟩
  · obtain ⟨_, its, n1, r1, e1⟩ := (show ObjOk X.prog X.w H s.heap a (.lst xs) from I.hok a _ h1)
    obtain ⟨_, it2, n2, r2, e2⟩ := (show ObjOk X.prog X.w H s.heap b (.lst []) from I.hok b _ h2)
    cases r2
    refine LwE.rc_list0 hu e1 e2 ?_
    rw [size0 r1]
    exact ⟨.bl xs.isEmpty, H, I, rfl, q⟩
end Lw
namespace Lw
open PySem PySem.Spec PyProof.Rows L2

/-! ### readings, closed upwards -/
def upA (t : TA) : TA := fun σ H F => ∃ F0, t σ H F0 ∧ ∀ vs H', F0 vs H' → F vs H'
theorem pa_up {X : Cx} {es : List Expr} {t : TA} (h : PA X es t) : PA X es (upA t) :=
  ⟨fun pos pins s σ H Q I ⟨F0, h0, hi⟩ => thn (h.run pos pins s σ H F0 I h0) fun us s' ⟨vs, H', I', r, q⟩ => ⟨vs, H', I', r, hi _ _ q⟩⟩
/-! ### a list is frozen: from here on it is only read -/
def tFrz (t : TS) : TS := fun D σ H => ∃ F : L2.St → Hp → Prop, t { D with nx := F } σ H ∧ ∀ σ' H', F σ' H' → ∃ d u, H' d = some u ∧ Mut (some u) ∧ ∀ od, D.nx σ' (upd H' d (.frz od u))
theorem ps_frz {X : Cx} {st : Stmt} {t : TS} (h : PS X st t) : PS X st (tFrz t) := by
  refine ⟨fun pins s σ H D I ⟨F, h0, hi⟩ => thn (h.run pins s σ H { D with nx := F } I h0) fun f s' q => ?_⟩
  cases f with
  | next =>
    obtain ⟨σ', H', I', q⟩ := q
    obtain ⟨d, u, hd, mu, k⟩ := hi σ' H' q
    obtain ⟨od, J⟩ := I'.lock hd mu
    exact ⟨σ', _, J, k od⟩
  | ret v => exact q
  | brk => exact q
  | cont => exact q
/-! ### what never changes -/
def Perm (C : Addr) : HO → Prop
  | .tup _ => True
  | .frz _ _ => True
  | .ins C' _ _ => C' = C
  | _ => False
def KP (C : Addr) (H H' : Hp) : Prop := ∀ b o, H b = some o → Perm C o → H' b = some o
theorem KP.refl {C : Addr} {H : Hp} : KP C H H := fun _ _ h _ => h
theorem KP.trans {C : Addr} {H1 H2 H3 : Hp} (a : KP C H1 H2) (b : KP C H2 H3) : KP C H1 H3 := fun c o h p => b c o (a c o h p) p
theorem KP.of {C : Addr} {H H' : Hp} (s : Same H H') : KP C H H' := fun b o h _ => s b o h
theorem KP.upd {C q : Addr} {H : Hp} {o0 o : HO} (hq : H q = some o0) (n : ¬ Perm C o0) : KP C H (L2.upd H q o) := fun b u h p => by
  rw [upd_ne]
  · exact h
  · intro z
    rw [z, hq] at h
    cases h
    exact n p
theorem KP.new {C q : Addr} {H : Hp} {o : HO} (hq : H q = none) : KP C H (L2.upd H q o) := .of (same_upd hq)
/-- all but some addresses are kept -/
def But (L : List Addr) (H H' : Hp) : Prop := ∀ b o, b ∉ L → H b = some o → H' b = some o
theorem But.refl {L : List Addr} {H : Hp} : But L H H := fun _ _ _ h => h
theorem But.trans {L : List Addr} {H1 H2 H3 : Hp} (a : But L H1 H2) (b : But L H2 H3) : But L H1 H3 := fun c o n h => b c o n (a c o n h)
theorem But.of {L : List Addr} {H H' : Hp} (s : Same H H') : But L H H' := fun b o _ h => s b o h
theorem But.upd {L : List Addr} {H : Hp} {q : Addr} {o : HO} (h : q ∈ L) : But L H (L2.upd H q o) := fun b u n e => by
  rw [upd_ne fun z => n (by rw [z]; exact h)]
  exact e
theorem But.mono {L L' : List Addr} {H H' : Hp} (h : But L H H') (s : ∀ b ∈ L, b ∈ L') : But L' H H' := fun b o n e => h b o (fun z => n (s b z)) e
theorem But.kp {L : List Addr} {C : Addr} {H H' : Hp} (h : But L H H') (n : ∀ b ∈ L, ∀ o, H b = some o → ¬ Perm C o) : KP C H H' := fun b o e p => h b o (fun z => n b z o e p) e
theorem But.nil {H H' : Hp} (h : But [] H H') : Same H H' := fun b o e => h b o (by simp) e
theorem sqT_kp {C : Addr} {K : PySem.W.Frag} {H H' : Hp} {a : Addr} {xs : List V} (s : KP C H H') (h : SqT K H a xs) : SqT K H' a xs := by
  rcases h with (h | ⟨o, h⟩) | h
  · exact .inl (.inl (s _ _ h trivial))
  · exact .inl (.inr ⟨o, s _ _ h trivial⟩)
  · exact .inr h
/-! ### errors raised -/
theorem pmk_er {X : Cx} {x f : Str} {p pos : Pos} {e : Expr} {es : List Expr} {ta : TA} (E : ErrOk X.prog X.w X.K X.mg X.base x f) (hr : Room 2 X.A) (ha : PA X (e :: es) ta) (hg : Gl X x := by rfl)
    (hdb : (x == ("__debug__" : Str)) = false := by decide) (he : starEach (e :: es) X.env = (false, eval e X.env) :: starEach es X.env := by rfl) (hpl : (backTo pos (starEach es X.env)).any (·.1) = false := by rfl) :
    PMk X (.Call (.Name x p) (e :: es) [] pos) (fun σ H Q => ta σ H fun vs H1 => ∃ v, vs = [v] ∧ ∀ d H', Same H1 H' → H1 d = none → H' d = some (.xd [(f, v)]) → Q (.ref (He.ga X.K x)) (some d) H') := by
  obtain ⟨fI, fd, h1, h2, h3, h4, h5, h6, h7⟩ := E.ex
  have M := pmk_oex (CX := CX0) (es := es) (e := e) (pos := pos) (p := p) (x := x) (ps := ["self", f]) (dvs := []) h2.oex h3 h4 h5 hr h6 .nil (fun _ _ _ _ _ _ _ z => z.elim) hg h1 (pa_up ha) hdb he hpl
  intro pins s σ H Q I h
  refine M pins s σ H Q I ⟨_, h, ?_⟩
  rintro vs H1 ⟨v, rfl, k⟩
  refine ⟨(by decide : 1 ≤ 1000), fun a ha => ⟨a, v, rfl, upd_same, fun d hd nd => ⟨rfl, d, [(f, v)], upd_same, ?_, ?_, k d _ ?_ ?_ upd_same⟩⟩⟩
  · rw [upd_ne nd, upd_same]
  · rw [upd_ne nd] at hd
    exact hd
  · rw [upd_ne nd] at hd
    intro b o e
    rw [upd_ne (ne_of_none e hd), del_ne (ne_of_none e ha), upd_ne (ne_of_none e ha), upd_ne (ne_of_none e hd), upd_ne (ne_of_none e ha)]
    exact e
  · rw [upd_ne nd] at hd
    exact hd
/-- raise X(e) out of a def -/
def tRz (K : PySem.W.Frag) (x f : Str) (E : XK) (ta : TA) : TS := fun _ σ H => ta σ H fun vs H1 => ∃ v, vs = [v] ∧ ∀ d H', Same H1 H' → H1 d = none → H' d = some (.xd [(f, v)]) → E (.ref (He.ga K x)) (some d) H'
/-- an own error's own class in the classes' table -/
theorem passX {X : Cx} {P : Program} {w : World} (hp : X.prog = P) (hw : X.w = w) : Passes (L2.CX P w) X (fun _ _ _ => False) := fun pins σ H s e s' _ h => by
  obtain ⟨_, _, _, _, _, _, _, _, _, _, _, _, z⟩ := h
  exact z.elim
/-! ### comprehensions whose element only reads -/
theorem lc_one {J : It} {n : Nat} {G : Hp → Prop} {Y : Nat → Hp → V → Hp → Prop} (w : Walk J n G Y) {te : TE} {vs : List Nat} {σ : L2.St} {H1 : Hp} {D : Addr} {Qd : Hp → Prop} (j : Nat) (f : Nat → V) (hn : n ≤ 16000000) (hG : ∀ l, G (upd H1 D (.lst l)))
    (hw : ∀ v, wipe ((wipe σ vs).set j (some v)) vs = wipe σ vs) (hY : ∀ i H x H', Y i H x H' → H' = H)
    (hs : ∀ i x l (R : VK), i < n → Y i (upd H1 D (.lst l)) x (upd H1 D (.lst l)) → R (f i) (upd H1 D (.lst l)) → te ((wipe σ vs).set j (some x)) (upd H1 D (.lst l)) R) (hd : Qd (upd H1 D (.lst ((List.range n).map f)))) :
    ∃ W : Nat → Nat → Hp → Prop, (∃ m, W 0 m (upd H1 D (.lst []))) ∧ ∀ i m H, W i m H →
      (J.stop i H ∧ Qd H) ∨ (J.go i H ∧ ∃ Nx : Hp → Prop, (∀ H', Nx H' → ∃ m', m' < m ∧ W (i + 1) m' H') ∧ ∀ x H', J.yld i H x H' → gName j x (wipe σ vs) H' fun σ2 H2 => wipe σ2 vs = wipe σ vs ∧ tYes σ2 H2 fun b H3 =>
        if b = true then te σ2 H3 fun y H4 => ∃ acc, H4 D = some (.lst acc) ∧ acc.length < sizeLine ∧ Nx (upd H4 D (.lst (acc ++ [y]))) else Nx H3) := by
  refine lc_it w (fun i H => i ≤ n ∧ H = upd H1 D (.lst ((List.range i).map f))) ⟨Nat.zero_le _, rfl⟩ (fun i H _ ⟨_, e⟩ => e ▸ hG _) ?_ ?_
  · rintro i x H H' hi ⟨_, rfl⟩ y
    have e := hY _ _ _ _ y
    subst e
    refine ⟨hw _, ?_⟩
    show te _ _ _
    refine hs i x _ _ hi y ⟨_, upd_same, ?_, hi, ?_⟩
    · rw [List.length_map, List.length_range, sizeLine_eq]
      omega
    · rw [upd_upd, List.range_succ, List.map_append, List.map_singleton]
  · rintro H ⟨_, rfl⟩
    exact hd
end Lw
namespace Lw
open PySem PySem.Spec PyProof.Rows L2

/-! ### names, sources, stages as data -/
def letters : Str := "abcdefghijklmnopqrstuvwxyz"
def nameB (x : Str) : Bool := decide (1 ≤ x.length) && (decide (x.length ≤ 8) && x.cps.toList.all fun c => decide (c ∈ letters.cps.toList))
def sources : List Str := ["a", "b", "c", "d"]
def named : List Str := ["map", "keep", "while", "after"]
def counted : List Str := ["take", "skip", "lots", "gather"]
/-- sources, each once -/
def LsOk (ls : List Str) : Prop := ls.Nodup ∧ ∀ x ∈ ls, x ∈ sources
theorem len_sub : ∀ {l m : List Str}, l.Nodup → (∀ x ∈ l, x ∈ m) → l.length ≤ m.length
  | [], _, _, _ => Nat.zero_le _
  | x :: r, m, h, s => by
    obtain ⟨h1, h2⟩ := List.nodup_cons.mp h
    have hx := s x (by simp)
    have e := List.length_erase_of_mem hx
    have q := len_sub (l := r) (m := m.erase x) h2 (fun y hy => (List.mem_erase_of_ne (by rintro rfl; exact h1 hy)).mpr (s y (by simp [hy])))
    have p := List.length_pos_of_mem hx
    rw [List.length_cons]
    omega
theorem LsOk.len {ls : List Str} (h : LsOk ls) : ls.length ≤ 4 := len_sub h.1 h.2
theorem LsOk.one {x : Str} (h : x ∈ sources) : LsOk [x] := ⟨by simp, by simpa using h⟩
theorem LsOk.app {l m : List Str} (h : LsOk l) (g : LsOk m) (n : (m.any fun x => decide (x ∈ l)) = false) : LsOk (l ++ m) := by
  refine ⟨List.nodup_append.mpr ⟨h.1, g.1, ?_⟩, ?_⟩
  · rintro x hx y hy rfl
    have q := List.any_eq_false.mp n x hy
    exact q (decide_eq_true hx)
  · intro x hx
    rcases List.mem_append.mp hx with q | q
    · exact h.2 x q
    · exact g.2 x q
/-- a program object: the depths, the sources, the row of stages -/
def PrI (C : Addr) (K : PySem.W.Frag) (H : Hp) (p : Addr) (hs : List Int) (ls : List Str) (row : List V) : Prop := ∃ dx h l r oh ol,
  H p = some (.ins C dx [("heights", .ref h), ("leaves", .ref l), ("row", .ref r)]) ∧ H h = some (.frz oh (.lst (hs.map V.int))) ∧ H l = some (.frz ol (.lst (ls.map V.str))) ∧ SqT K H r row ∧ hs ≠ [] ∧ LsOk ls ∧ ls ≠ [] ∧ hs.length ≤ 7 ∧ row.length ≤ 6
theorem PrI.kp {C : Addr} {K : PySem.W.Frag} {H H' : Hp} {p : Addr} {hs : List Int} {ls : List Str} {row : List V} (s : KP C H H') (h : PrI C K H p hs ls row) : PrI C K H' p hs ls row := by
  obtain ⟨dx, a, l, r, oh, ol, h1, h2, h3, h4, h5⟩ := h
  exact ⟨dx, a, l, r, oh, ol, s _ _ h1 rfl, s _ _ h2 trivial, s _ _ h3 trivial, sqT_kp s h4, h5⟩
inductive Sg where
  | nm (w x : Str)
  | nu (w : Str) (n : Int)
  | flat
  | zip (p : Addr) (hs : List Int) (ls : List Str) (row : List V)
inductive StG (C : Addr) (K : PySem.W.Frag) (H : Hp) : V → Sg → Prop
  | nm {t : Addr} {w x : Str} : SqT K H t [.str w, .str x] → w ∈ named → nameB x = true → StG C K H (.ref t) (.nm w x)
  | nu {t : Addr} {w : Str} {n : Int} : SqT K H t [.str w, .int n] → w ∈ counted → 1 ≤ n → n ≤ 4 → StG C K H (.ref t) (.nu w n)
  | flat {t : Addr} : SqT K H t [.str "flat"] → StG C K H (.ref t) .flat
  | zip {t p : Addr} {hs : List Int} {ls : List Str} {row : List V} : SqT K H t [.str "zip", .ref p] → PrI C K H p hs ls row → StG C K H (.ref t) (.zip p hs ls row)
theorem StG.kp {C : Addr} {K : PySem.W.Frag} {H H' : Hp} {v : V} {s : Sg} (k : KP C H H') (h : StG C K H v s) : StG C K H' v s := by
  cases h with
  | nm a b c => exact .nm (sqT_kp k a) b c
  | nu a b c d => exact .nu (sqT_kp k a) b c d
  | flat a => exact .flat (sqT_kp k a)
  | zip a b => exact .zip (sqT_kp k a) (b.kp k)
def lastI (hs : List Int) : Int := hs.getLast?.getD 0
def behind (d : Int) : Sg → Int
  | .nm w _ => if w = "map" then 0 else d
  | .nu w _ => if w = "lots" then d + 1 else d
  | .flat => d - 1
  | .zip _ hs _ _ => 1 + min d (lastI hs)
def stands (d : Int) (L : List Str) : Sg → Bool
  | .zip _ _ ls _ => !(ls.any fun x => decide (x ∈ L))
  | .flat => decide (0 < d)
  | _ => true
def leavesOf : Sg → List Str
  | .zip _ _ ls _ => ls
  | _ => []
/-- any value that is no stage, and why -/
inductive Bad (C : Addr) (K : PySem.W.Frag) (H : Hp) : V → Prop
  | ty {v : V} {t : Value} : TyX K H v t → PySem.W.kitOne K t (.type "tuple") = some false → Bad C K H v
  | nil {a : Addr} : SqT K H a [] → Bad C K H (.ref a)
  | fst {a : Addr} {x : V} {r : List V} {t : Value} : SqT K H a (x :: r) → TyX K H x t → PySem.W.kitOne K t (.type "str") = some false → Bad C K H (.ref a)
  | flat {a : Addr} {r : List V} : SqT K H a (.str "flat" :: r) → r ≠ [] → Bad C K H (.ref a)
  | len {a : Addr} {w : Str} {r : List V} : SqT K H a (.str w :: r) → w ≠ "flat" → r.length ≠ 1 → Bad C K H (.ref a)
  | zip {a : Addr} {y : V} {t : Value} : SqT K H a [.str "zip", y] → TyX K H y t → PySem.W.kitOne K t (.ref C) = some false → Bad C K H (.ref a)
  | word {a : Addr} {w : Str} {y : V} : SqT K H a [.str w, y] → w ≠ "flat" → w ≠ "zip" → w ∉ named → w ∉ counted → Bad C K H (.ref a)
  | nmT {a : Addr} {w : Str} {y : V} {t : Value} : SqT K H a [.str w, y] → w ∈ named → TyX K H y t → PySem.W.kitOne K t (.type "str") = some false → Bad C K H (.ref a)
  | nmS {a : Addr} {w x : Str} : SqT K H a [.str w, .str x] → w ∈ named → nameB x = false → x.length ≤ 1000 → Bad C K H (.ref a)
  | nuT {a : Addr} {w : Str} {y : V} {t : Value} : SqT K H a [.str w, y] → w ∈ counted → TyX K H y t → PySem.W.kitOne K t (.type "int") = some false → Bad C K H (.ref a)
  | nuB {a : Addr} {w : Str} {b : Bool} : SqT K H a [.str w, .bl b] → w ∈ counted → Bad C K H (.ref a)
  | nuI {a : Addr} {w : Str} {n : Int} : SqT K H a [.str w, .int n] → w ∈ counted → ¬ (1 ≤ n ∧ n ≤ 4) → Bad C K H (.ref a)
/-- the stages one behind the other, from position n on: the first that can't stand, or the depths and sources behind them all -/
inductive Run (C : Addr) (K : PySem.W.Frag) (H : Hp) : Nat → List Int → List Str → List V → Sum Nat (List Int × List Str) → Prop
  | nil {n : Nat} {hs : List Int} {ls : List Str} : Run C K H n hs ls [] (.inr (hs, ls))
  | bad {n : Nat} {hs : List Int} {ls : List Str} {v : V} {r : List V} : Bad C K H v → Run C K H n hs ls (v :: r) (.inl n)
  | off {n : Nat} {hs : List Int} {ls : List Str} {v : V} {r : List V} {s : Sg} : StG C K H v s → stands (lastI hs) ls s = false → Run C K H n hs ls (v :: r) (.inl n)
  | on {n : Nat} {hs : List Int} {ls : List Str} {v : V} {r : List V} {s : Sg} {o : Sum Nat (List Int × List Str)} : StG C K H v s → stands (lastI hs) ls s = true → Run C K H (n + 1) (hs ++ [behind (lastI hs) s]) (ls ++ leavesOf s) r o → Run C K H n hs ls (v :: r) o
theorem ty_tup {K : PySem.W.Frag} {H : Hp} {a : Addr} {xs : List V} (h : SqT K H a xs) : TyX K H (.ref a) (.type "tuple") := by
  rcases h with (h | ⟨o, h⟩) | ⟨o, its, n, h, c, _⟩
  · exact .base (.tup h)
  · exact .fTuple h
  · exact .kTuple h c
theorem ty_lst {K : PySem.W.Frag} {H : Hp} {a : Addr} {xs : List V} (h : SqL K H a xs) : TyX K H (.ref a) (.type "list") := by
  rcases h with (h | ⟨o, h⟩) | ⟨o, its, n, h, c, _⟩
  · exact .base (.lst h)
  · exact .base (.frz h)
  · exact .kList h c
theorem none_same {H H' : Hp} {d : Addr} (s : Same H H') (h : H' d = none) : H d = none := by
  rcases q : H d with _ | o
  · rfl
  · rw [s _ _ q] at h
    cases h
theorem none_but {L : List Addr} {H H' : Hp} {d : Addr} (s : But L H H') (n : ∀ b ∈ L, H' b ≠ none) (h : H' d = none) : H d = none := by
  rcases q : H d with _ | o
  · rfl
  · by_cases z : d ∈ L
    · exact absurd h (n d z)
    · rw [s _ _ z q] at h
      cases h
theorem inV_str (x : Str) : ∀ l : List Str, inV (.str x) (l.map V.str) = decide (x ∈ l)
  | [] => by simp [inV]
  | y :: r => by
    have ih := inV_str x r
    unfold inV at ih ⊢
    rw [List.map_cons, List.any_cons, ih]
    have e : eqV (V.str y) (V.str x) = decide (x = y) := by
      show _ = _
      by_cases h : x = y
      · subst h
        simp [eqV]
      · have h2 : ¬ y = x := fun z => h z.symm
        simp [eqV, h, h2]
    rw [e]
    by_cases h : x = y
    · subst h
      simp
    · simp [h]
theorem all_str : ∀ l : List Str, (l.map V.str).all flatV = true
  | [] => rfl
  | _ :: r => by
    rw [List.map_cons, List.all_cons, all_str r]
    rfl
/-! ### methods, properties, classes by their names -/
structure MethOk (P : Program) (w : World) (K : PySem.W.Frag) (mg : Str → Option Value) (base : Heap) (CX : CXT) (k : Nat) (C : Addr) (m : Str) (ps : List Str) (sp : Sp) : Prop where
  ex : ∃ (f : Addr) (fd : FuncData), FnOk P w K mg base CX k f fd ps sp ∧ Meth K C m f ∧ Binds K fd ps [] ∧ Cls K C
structure PropOk (P : Program) (w : World) (K : PySem.W.Frag) (mg : Str → Option Value) (base : Heap) (CX : CXT) (k : Nat) (C : Addr) (m : Str) (sp : Sp) : Prop where
  ex : ∃ (p g : Addr) (fd : FuncData), FnOk P w K mg base CX k g fd ["self"] sp ∧ PropOf K C m p g ∧ Binds K fd ["self"] [] ∧ Cls K C
structure MakeOk (P : Program) (w : World) (K : PySem.W.Frag) (mg : Str → Option Value) (base : Heap) (CX : CXT) (k : Nat) (C : Addr) (x : Str) (ps : List Str) (dvs : List V) (sp : Sp) : Prop where
  ex : ∃ (f : Addr) (fd : FuncData) (ds : List Value), FnOk P w K mg base CX k f fd ps sp ∧ Mk K C f ∧ Binds K fd ps ds ∧ Vals dvs ds ∧ mg x = some (.ref C)
section
variable {X : Cx} {CX : CXT} {k : Nat} {ps : List Str} {dvs : List V} {sp : Sp} {E : XK} {x m : Str} {C : Addr} {p pos apos : Pos} {e o : Expr} {es : List Expr} {ta : TE} {t : TA}
theorem pe_mt {pl : Sem Bool} (M : MethOk X.prog X.w X.K X.mg X.base CX k C m ps sp) (hr : Room k X.A) (hx : Passes CX X E) (he : PE X o ta) (ha : PA X (e :: es) t)
    (hst : starEach (e :: es) X.env = (false, eval e X.env) :: starEach es X.env := by rfl) (hpl : (backTo pos (starEach es X.env)).any (·.1) = false := by rfl)
    (ht : eval (.Call (.Attribute o m apos) (e :: es) [] pos) X.env = (do
      let ov ← eval o X.env
      standAt apos.atName
      let (f, first) ← holding [ov] (getMethod ov m pl)
      callWith pos f first (backTo pos (starEach (e :: es) X.env)) (backToKw pos (keywordEach [] X.env))) := by rfl) :
    PE X (.Call (.Attribute o m apos) (e :: es) [] pos) (tMeth C m sp [] E ta t) := by
  obtain ⟨f, fd, F, hm, hb, hc⟩ := M.ex
  exact pe_meth he hc hm F hr hb .nil hx ha hst hpl ht
theorem pe_mt0 {pl : Sem Bool} (M : MethOk X.prog X.w X.K X.mg X.base CX k C m ps sp) (hr : Room k X.A) (hx : Passes CX X E) (he : PE X o ta)
    (ht : eval (.Call (.Attribute o m apos) [] [] pos) X.env = (do
      let ov ← eval o X.env
      standAt apos.atName
      let (f, first) ← holding [ov] (getMethod ov m pl)
      callWith pos f first (backTo pos (starEach [] X.env)) (backToKw pos (keywordEach [] X.env))) := by rfl) :
    PE X (.Call (.Attribute o m apos) [] [] pos) (tMeth C m sp [] E ta tNil) := by
  obtain ⟨f, fd, F, hm, hb, hc⟩ := M.ex
  exact pe_meth0 he hc hm F hr hb .nil hx ht
theorem pe_pp (M : PropOk X.prog X.w X.K X.mg X.base CX k C m sp) (hr : Room (k + 1) X.A) (hx : Passes CX X.nox E) (he : PE X e ta) (hab : attributeBase e m X.env (eval e X.env) = eval e X.env := by rfl) :
    PE X (.Attribute e m pos) (tProp C sp [] E ta) := by
  obtain ⟨p, g, fd, F, hp, hb, hc⟩ := M.ex
  exact pe_prop he hc hp F hr hb .nil hx hab
theorem pe_mk (M : MakeOk X.prog X.w X.K X.mg X.base CX k C x ps dvs sp) (hr : Room (k + 1) X.A) (hx : Passes CX X E) (ha : PA X (e :: es) t) (hg : Gl X x := by rfl)
    (hdb : (x == ("__debug__" : Str)) = false := by decide) (he : starEach (e :: es) X.env = (false, eval e X.env) :: starEach es X.env := by rfl) (hpl : (backTo pos (starEach es X.env)).any (·.1) = false := by rfl) :
    PE X (.Call (.Name x p) (e :: es) [] pos) (tMake C sp dvs E t) := by
  obtain ⟨f, fd, ds, F, hM, hb, hd, hm⟩ := M.ex
  exact pe_make hM F hr hg hm hb hd hx ha hdb he hpl
theorem pe_mk0 (M : MakeOk X.prog X.w X.K X.mg X.base CX k C x ps dvs sp) (hr : Room (k + 1) X.A) (hx : Passes CX X E) (hg : Gl X x := by rfl) (hdb : (x == ("__debug__" : Str)) = false := by decide) :
    PE X (.Call (.Name x p) [] [] pos) (tMake C sp dvs E tNil) := by
  obtain ⟨f, fd, ds, F, hM, hb, hd, hm⟩ := M.ex
  exact pe_make0 hM F hr hg hm hb hd hx hdb
end
/-! ### what the program's class must be -/
structure PcF (K : PySem.W.Frag) (C : Addr) : Prop where
  cl : Cls K C
  nH : NoAttr K C "heights"
  nL : NoAttr K C "leaves"
  nR : NoAttr K C "row"
  ha : PySem.W.findIn K (.ref C) "__class__" = some (some (.builtin "object.__class__"))
  hn : PySem.W.specialIn K (.builtin "object.__class__") "__get__" = some (some (.builtin "getset_descriptor.__get__"))
  ht : PySem.W.takesIn K (.builtin "object.__class__") = some true
  hm : PySem.W.mroIn K C (.type "object") = some true
  kPP : PySem.W.kitOne K (.ref C) (.ref C) = some true
  kPt : ∀ n ∈ ["str", "tuple", "int", "list", "bool", "dict"], PySem.W.kitOne K (.ref C) (.type n) = some false
  ktP : ∀ n ∈ ["NoneType", "bool", "int", "str", "list", "tuple", "dict"], PySem.W.kitOne K (.type n) (.ref C) = some false
def pcB (K : PySem.W.Frag) (C : Addr) : Bool := (PySem.W.plainGet K C Str.empty && (PySem.W.hasDictIn K C && (PySem.W.plainOver K C && decide (PySem.W.findIn K (.ref C) "__setattr__" = some (some (.builtin "object.__setattr__")))))) &&
  ((decide (PySem.W.findIn K (.ref C) "heights" = some none) && (decide (PySem.W.findIn K (.ref C) "leaves" = some none) && decide (PySem.W.findIn K (.ref C) "row" = some none))) &&
  ((decide (PySem.W.findIn K (.ref C) "__class__" = some (some (.builtin "object.__class__"))) && (decide (PySem.W.specialIn K (.builtin "object.__class__") "__get__" = some (some (.builtin "getset_descriptor.__get__"))) &&
    (decide (PySem.W.takesIn K (.builtin "object.__class__") = some true) && decide (PySem.W.mroIn K C (.type "object") = some true)))) &&
  (decide (PySem.W.kitOne K (.ref C) (.ref C) = some true) && ((["str", "tuple", "int", "list", "bool", "dict"].all fun n => decide (PySem.W.kitOne K (.ref C) (.type n) = some false)) &&
    ["NoneType", "bool", "int", "str", "list", "tuple", "dict"].all fun n => decide (PySem.W.kitOne K (.type n) (.ref C) = some false)))))
theorem pcB_ok {K : PySem.W.Frag} {C : Addr} (h : pcB K C = true) : PcF K C := by
  unfold pcB at h
  simp only [Bool.and_eq_true, decide_eq_true_eq, List.all_eq_true] at h
  obtain ⟨⟨a1, a2, a3, a4⟩, ⟨b1, b2, b3⟩, ⟨c1, c2, c3, c4⟩, d1, d2, d3⟩ := h
  exact ⟨⟨a1, a2, a3, a4⟩, b1, b2, b3, c1, c2, c3, c4, d1, d2, d3⟩
theorem ty_prog {K : PySem.W.Frag} {H : Hp} {C p : Addr} {hs : List Int} {ls : List Str} {row : List V} (T : PcF K C) (h : PrI C K H p hs ls row) : TyX K H (.ref p) (.ref C) := by
  obtain ⟨dx, a, l, r, oh, ol, h1, _⟩ := h
  exact .base (.ins h1 T.cl T.ha T.hn T.ht T.hm)
/-! ### tuple(x) of a list or a tuple -/
theorem call_list_or {X : Cx} : CallR X (.type "tuple") (fun xs H Q => ∃ p ys, xs = [.ref p] ∧ ((SqL X.K H p ys ∧ ∀ l, H l = none → Q (.ref l) (upd H l (.tup ys))) ∨ (SqT X.K H p ys ∧ Q (.ref p) H))) := call_tuple_of
theorem lookup_1 {f : Str} {v : V} {r : List (Str × V)} : List.lookup f ((f, v) :: r) = some v := by simp [List.lookup]
theorem lookup_2 {f g : Str} {v : V} {r : List (Str × V)} (h : (f == g) = false := by decide +kernel) : List.lookup f ((g, v) :: r) = List.lookup f r := by simp [List.lookup, h]
theorem sqL_same {K : PySem.W.Frag} {H H' : Hp} (s : Same H H') {a : Addr} {xs : List V} (h : SqL K H a xs) : SqL K H' a xs := by
  rcases h with (h | ⟨o, h⟩) | h
  · exact .inl (.inl (s _ _ h))
  · exact .inl (.inr ⟨o, s _ _ h⟩)
  · exact .inr h
/-! ### list.extend by a list that is frozen -/
theorem mt_extendR {X : Cx} : MtM X "list.extend" (fun x vs H Q => ∃ l b xs zs, x = .ref l ∧ vs = [.ref b] ∧ H l = some (.lst xs) ∧ Rd H b (.lst zs) ∧ xs.length + zs.length ≤ sizeLine ∧ Q .non (upd H l (.lst (xs ++ zs)))) := by
  intro pins s σ H x vs v us Q I rx rv h
  obtain ⟨l, b, xs, zs, rfl, rfl, hH, hB, hz, q⟩ := h
  cases rx
  obtain ⟨u, rfl, ru⟩ := rv.one
  cases ru
  obtain ⟨z, its, n, r, hl, e⟩ := I.lstM hH
  obtain ⟨z2, its2, n2, r2, e2⟩ := hB.ok I.hok
  have hl2 := r2.length
  have hsz : its.toArray.size + its2.toArray.size ≤ sizeLine := by rw [List.size_toArray, List.size_toArray]; omega
  have hlong : ¬ (!its.toArray.isEmpty && Builtin.List.listTooLong (its.toArray.size + its2.toArray.size)) = true := by
    rw [notLongL hsz, Bool.and_false]
    exact Bool.false_ne_true
  refine call_meets F.slot_list_extend ⟨_, e, rfl⟩ F.entry_list_extend (F.args_list_extend_2 _ _)
    (AutoSeq1.list_extend_list_list_0 l its.toArray n b its2.toArray n2 hlong (by rw [List.size_toArray]; omega) (by omega)) ⟨e, e2, ?_⟩
  refine ⟨.non, _, I.lset (its' := its ++ its2) hH e (by simp) (r.append r2) ?_, rfl, q⟩
  rw [List.length_append]
  omega
/-! ### what stands behind a stage's word -/
inductive Tl (C : Addr) (K : PySem.W.Frag) (H : Hp) (w : Str) : List V → Bool → Prop
  | flat {r : List V} : w = "flat" → Tl C K H w r r.isEmpty
  | len {r : List V} : w ≠ "flat" → r.length ≠ 1 → Tl C K H w r false
  | zip {y : V} {t : Value} {b : Bool} : w = "zip" → TyX K H y t → PySem.W.kitOne K t (.ref C) = some b → Tl C K H w [y] b
  | word {y : V} : w ≠ "flat" → w ≠ "zip" → w ∉ named → w ∉ counted → Tl C K H w [y] false
  | nmS {x : Str} : w ∈ named → x.length ≤ 1000 → Tl C K H w [.str x] (nameB x)
  | nmT {y : V} {t : Value} : w ∈ named → TyX K H y t → PySem.W.kitOne K t (.type "str") = some false → Tl C K H w [y] false
  | nuI {n : Int} : w ∈ counted → Tl C K H w [.int n] (decide (1 ≤ n ∧ n ≤ 4))
  | nuB {b : Bool} : w ∈ counted → Tl C K H w [.bl b] false
  | nuT {y : V} {t : Value} : w ∈ counted → TyX K H y t → PySem.W.kitOne K t (.type "int") = some false → Tl C K H w [y] false
theorem named_ne {w : Str} (h : w ∈ named) : w ≠ "flat" ∧ w ≠ "zip" ∧ w ∉ counted := by
  have key : ∀ w ∈ named, w ≠ "flat" ∧ w ≠ "zip" ∧ w ∉ counted := by decide +kernel
  exact key w h
theorem numbered_ne {w : Str} (h : w ∈ counted) : w ≠ "flat" ∧ w ≠ "zip" ∧ w ∉ named := by
  have key : ∀ w ∈ counted, w ≠ "flat" ∧ w ≠ "zip" ∧ w ∉ named := by decide +kernel
  exact key w h
theorem nameB_len {x : Str} (h : nameB x = true) : x.length ≤ 8 := by
  unfold nameB at h
  obtain ⟨_, h⟩ := Bool.and_eq_true_iff.mp h
  exact of_decide_eq_true (Bool.and_eq_true_iff.mp h).1
theorem StG.tl {C : Addr} {K : PySem.W.Frag} {H : Hp} {v : V} {s : Sg} (T : PcF K C) (h : StG C K H v s) : ∃ a w r, v = .ref a ∧ SqT K H a (.str w :: r) ∧ Tl C K H w r true := by
  cases h with
  | @nm t w x a b c => exact ⟨_, _, _, rfl, a, by have := nameB_len c; have q := Tl.nmS (C := C) (K := K) (H := H) (x := x) b (by omega : x.length ≤ 1000); rw [c] at q; exact q⟩
  | @nu t w n a b c d => exact ⟨_, _, _, rfl, a, by have q := Tl.nuI (C := C) (K := K) (H := H) (n := n) b; rw [decide_eq_true ⟨c, d⟩] at q; exact q⟩
  | flat a => exact ⟨_, _, _, rfl, a, .flat rfl⟩
  | zip a b => exact ⟨_, _, _, rfl, a, .zip rfl (ty_prog T b) T.kPP⟩
theorem Bad.tl {C : Addr} {K : PySem.W.Frag} {H : Hp} {v : V} (h : Bad C K H v) : (∃ t, TyX K H v t ∧ PySem.W.kitOne K t (.type "tuple") = some false) ∨ (∃ a, v = .ref a ∧ SqT K H a []) ∨
    (∃ a x r t, v = .ref a ∧ SqT K H a (x :: r) ∧ TyX K H x t ∧ PySem.W.kitOne K t (.type "str") = some false) ∨ ∃ a w r, v = .ref a ∧ SqT K H a (.str w :: r) ∧ Tl C K H w r false := by
  cases h with
  | ty a b => exact .inl ⟨_, a, b⟩
  | nil a => exact .inr (.inl ⟨_, rfl, a⟩)
  | fst a b c => exact .inr (.inr (.inl ⟨_, _, _, _, rfl, a, b, c⟩))
  | @flat a r a b =>
    refine .inr (.inr (.inr ⟨_, _, _, rfl, a, ?_⟩))
    have q := Tl.flat (C := C) (K := K) (H := H) (w := "flat") (r := r) rfl
    cases r with
    | nil => exact absurd rfl b
    | cons _ _ => exact q
  | len a b c => exact .inr (.inr (.inr ⟨_, _, _, rfl, a, .len b c⟩))
  | zip a b c => exact .inr (.inr (.inr ⟨_, _, _, rfl, a, .zip rfl b c⟩))
  | word a b c d e => exact .inr (.inr (.inr ⟨_, _, _, rfl, a, .word b c d e⟩))
  | nmT a b c d => exact .inr (.inr (.inr ⟨_, _, _, rfl, a, .nmT b c d⟩))
  | @nmS _ w x a b c d => exact .inr (.inr (.inr ⟨_, _, _, rfl, a, by have q := Tl.nmS (C := C) (K := K) (H := H) (x := x) b d; rw [c] at q; exact q⟩))
  | nuT a b c d => exact .inr (.inr (.inr ⟨_, _, _, rfl, a, .nuT b c d⟩))
  | nuB a b => exact .inr (.inr (.inr ⟨_, _, _, rfl, a, .nuB b⟩))
  | @nuI _ w n a b c => exact .inr (.inr (.inr ⟨_, _, _, rfl, a, by have q := Tl.nuI (C := C) (K := K) (H := H) (n := n) b; rw [decide_eq_false c] at q; exact q⟩))
theorem tyx_same {K : PySem.W.Frag} {H H' : Hp} (s : Same H H') {v : V} {t : Value} (h : TyX K H v t) : TyX K H' v t := by
  cases h with
  | base b =>
    refine .base ?_
    cases b with
    | non => exact .non
    | bl x => exact .bl x
    | int i => exact .int i
    | str x => exact .str x
    | flt x => exact .flt x
    | lst e => exact .lst (s _ _ e)
    | frz e => exact .frz (s _ _ e)
    | tup e => exact .tup (s _ _ e)
    | dK e => exact .dK (s _ _ e)
    | dT e => exact .dT (s _ _ e)
    | ins e a b c d f => exact .ins (s _ _ e) a b c d f
  | byt b => exact .byt b
  | set e => exact .set (s _ _ e)
  | kList e c => exact .kList e c
  | kTuple e c => exact .kTuple e c
  | kDict e c => exact .kDict e c
  | fTuple e => exact .fTuple (s _ _ e)
  | fDict e => exact .fDict (s _ _ e)
theorem Tl.same {C : Addr} {K : PySem.W.Frag} {H H' : Hp} (s : Same H H') {w : Str} {r : List V} {b : Bool} (h : Tl C K H w r b) : Tl C K H' w r b := by
  cases h with
  | flat a => exact .flat a
  | len a b => exact .len a b
  | zip a b c => exact .zip a (tyx_same s b) c
  | word a b c d => exact .word a b c d
  | nmS a b => exact .nmS a b
  | nmT a b c => exact .nmT a (tyx_same s b) c
  | nuI a => exact .nuI a
  | nuB a => exact .nuB a
  | nuT a b c => exact .nuT a (tyx_same s b) c
theorem sc_str (a b : Str) : decide (V.str a = V.str b) = decide (a = b) := by
  by_cases h : a = b
  · subst h
    simp
  · simp [h]
/-! ### all stays, but new instances may get their attributes -/
def Kp (C : Addr) (H H' : Hp) : Prop := ∀ b o, H b = some o → H' b = some o ∨ ∃ dx fs, o = .ins C dx [] ∧ H' b = some (.ins C dx fs)
theorem Kp.of {C : Addr} {H H' : Hp} (s : Same H H') : Kp C H H' := fun b o e => .inl (s b o e)
theorem Kp.but {C a dx : Addr} {fs : List (Str × V)} {H H' : Hp} (s : But [a] H H') (h : H a = some (.ins C dx [])) (h' : H' a = some (.ins C dx fs)) : Kp C H H' := fun b o e => by
  by_cases z : b = a
  · subst z
    rw [h] at e
    cases e
    exact .inr ⟨_, _, rfl, h'⟩
  · exact .inl (s b o (by simpa using z) e)
theorem Kp.get {C : Addr} {H H' : Hp} (s : Kp C H H') {b : Addr} {o : HO} (e : H b = some o) (n : ∀ dx, o ≠ .ins C dx []) : H' b = some o := by
  rcases s b o e with h | ⟨dx, _, h, _⟩
  · exact h
  · exact absurd h (n dx)
theorem tyx_kp {C : Addr} {K : PySem.W.Frag} {H H' : Hp} (s : Kp C H H') {v : V} {t : Value} (h : TyX K H v t) : TyX K H' v t := by
  cases h with
  | base b =>
    refine .base ?_
    cases b with
    | non => exact .non
    | bl x => exact .bl x
    | int i => exact .int i
    | str x => exact .str x
    | flt x => exact .flt x
    | lst e => exact .lst (s.get e fun _ z => nomatch z)
    | frz e => exact .frz (s.get e fun _ z => nomatch z)
    | tup e => exact .tup (s.get e fun _ z => nomatch z)
    | dK e => exact .dK (s.get e fun _ z => nomatch z)
    | dT e => exact .dT (s.get e fun _ z => nomatch z)
    | ins e a b c d f =>
      rcases s _ _ e with h | ⟨dx, fs, h, h'⟩
      · exact .ins h a b c d f
      · cases h
        exact .ins h' a b c d f
  | byt b => exact .byt b
  | set e => exact .set (s.get e fun _ z => nomatch z)
  | kList e c => exact .kList e c
  | kTuple e c => exact .kTuple e c
  | kDict e c => exact .kDict e c
  | fTuple e => exact .fTuple (s.get e fun _ z => nomatch z)
  | fDict e => exact .fDict (s.get e fun _ z => nomatch z)
theorem sqT_Kp {C : Addr} {K : PySem.W.Frag} {H H' : Hp} {a : Addr} {xs : List V} (s : Kp C H H') (h : SqT K H a xs) : SqT K H' a xs := by
  rcases h with (h | ⟨o, h⟩) | h
  · exact .inl (.inl (s.get h fun _ z => nomatch z))
  · exact .inl (.inr ⟨o, s.get h fun _ z => nomatch z⟩)
  · exact .inr h
theorem sqL_Kp {C : Addr} {K : PySem.W.Frag} {H H' : Hp} {a : Addr} {xs : List V} (s : Kp C H H') (h : SqL K H a xs) : SqL K H' a xs := by
  rcases h with (h | ⟨o, h⟩) | h
  · exact .inl (.inl (s.get h fun _ z => nomatch z))
  · exact .inl (.inr ⟨o, s.get h fun _ z => nomatch z⟩)
  · exact .inr h
theorem PrI.Kp {C : Addr} {K : PySem.W.Frag} {H H' : Hp} {p : Addr} {hs : List Int} {ls : List Str} {row : List V} (s : Lw.Kp C H H') (h : PrI C K H p hs ls row) : PrI C K H' p hs ls row := by
  obtain ⟨dx, a, l, r, oh, ol, h1, h2, h3, h4, h5⟩ := h
  exact ⟨dx, a, l, r, oh, ol, s.get h1 (fun _ z => by cases z), s.get h2 (fun _ z => nomatch z), s.get h3 (fun _ z => nomatch z), sqT_Kp s h4, h5⟩
theorem StG.Kp {C : Addr} {K : PySem.W.Frag} {H H' : Hp} {v : V} {g : Sg} (s : Lw.Kp C H H') (h : StG C K H v g) : StG C K H' v g := by
  cases h with
  | nm a b c => exact .nm (sqT_Kp s a) b c
  | nu a b c d => exact .nu (sqT_Kp s a) b c d
  | flat a => exact .flat (sqT_Kp s a)
  | zip a b => exact .zip (sqT_Kp s a) (b.Kp s)
theorem Bad.Kp {C : Addr} {K : PySem.W.Frag} {H H' : Hp} {v : V} (s : Lw.Kp C H H') (h : Bad C K H v) : Bad C K H' v := by
  cases h with
  | ty a b => exact .ty (tyx_kp s a) b
  | nil a => exact .nil (sqT_Kp s a)
  | fst a b c => exact .fst (sqT_Kp s a) (tyx_kp s b) c
  | flat a b => exact .flat (sqT_Kp s a) b
  | len a b c => exact .len (sqT_Kp s a) b c
  | zip a b c => exact .zip (sqT_Kp s a) (tyx_kp s b) c
  | word a b c d e => exact .word (sqT_Kp s a) b c d e
  | nmT a b c d => exact .nmT (sqT_Kp s a) b (tyx_kp s c) d
  | nmS a b c d => exact .nmS (sqT_Kp s a) b c d
  | nuT a b c d => exact .nuT (sqT_Kp s a) b (tyx_kp s c) d
  | nuB a b => exact .nuB (sqT_Kp s a) b
  | nuI a b c => exact .nuI (sqT_Kp s a) b c
theorem Run.Kp {C : Addr} {K : PySem.W.Frag} {H H' : Hp} (s : Lw.Kp C H H') {n : Nat} {hs : List Int} {ls : List Str} {xs : List V} {o : Sum Nat (List Int × List Str)} (h : Run C K H n hs ls xs o) : Run C K H' n hs ls xs o := by
  induction h with
  | nil => exact .nil
  | bad a => exact .bad (a.Kp s)
  | off a b => exact .off (a.Kp s) b
  | on a b _ ih => exact .on (a.Kp s) b ih
theorem sqL_but {L : List Addr} {K : PySem.W.Frag} {H H' : Hp} (s : But L H H') {a : Addr} {xs : List V} (n : ∀ b ∈ L, ∀ o, H b = some o → ∀ xs o', o ≠ .lst xs ∧ o ≠ .frz o' (.lst xs)) (h : SqL K H a xs) : SqL K H' a xs := by
  rcases h with (h | ⟨o, h⟩) | h
  · exact .inl (.inl (s _ _ (fun z => (n a z _ h xs default).1 rfl) h))
  · exact .inl (.inr ⟨o, s _ _ (fun z => (n a z _ h xs o).2 rfl) h⟩)
  · exact .inr h
/-- a program that is being made -/
structure Ini (C a dx h l : Addr) (H H1 : Hp) (hs : List Int) (ls : List Str) : Prop where
  hA : H1 a = some (.ins C dx [("heights", .ref h), ("leaves", .ref l)])
  hH : H1 h = some (.lst (hs.map V.int))
  hL : H1 l = some (.lst (ls.map V.str))
  but : But [a] H H1
  nh : H h = none
  nl : H l = none
  ne : h ≠ l
  nha : h ≠ a
  nla : l ≠ a
theorem Ini.same {C a dx h l : Addr} {H H1 H2 : Hp} {hs : List Int} {ls : List Str} (I : Ini C a dx h l H H1 hs ls) (s : Same H1 H2) : Ini C a dx h l H H2 hs ls :=
  ⟨s _ _ I.hA, s _ _ I.hH, s _ _ I.hL, I.but.trans (.of s), I.nh, I.nl, I.ne, I.nha, I.nla⟩
theorem But.updN {L : List Addr} {H H1 : Hp} {q : Addr} {o : HO} (b : But L H H1) (n : H q = none) : But L H (L2.upd H1 q o) := fun c u nc e => by
  rw [upd_ne (ne_of_none e n)]
  exact b c u nc e
theorem Ini.hgt {C a dx h l : Addr} {H H1 : Hp} {hs hs' : List Int} {ls : List Str} (I : Ini C a dx h l H H1 hs ls) : Ini C a dx h l H (upd H1 h (.lst (hs'.map V.int))) hs' ls :=
  ⟨by rw [upd_ne I.nha.symm]; exact I.hA, upd_same, by rw [upd_ne I.ne.symm]; exact I.hL, I.but.updN I.nh, I.nh, I.nl, I.ne, I.nha, I.nla⟩
theorem Ini.lvs {C a dx h l : Addr} {H H1 : Hp} {hs : List Int} {ls ls' : List Str} (I : Ini C a dx h l H H1 hs ls) : Ini C a dx h l H (upd H1 l (.lst (ls'.map V.str))) hs ls' :=
  ⟨by rw [upd_ne I.nla.symm]; exact I.hA, by rw [upd_ne I.ne]; exact I.hH, upd_same, I.but.updN I.nl, I.nh, I.nl, I.ne, I.nha, I.nla⟩
theorem Ini.Kp {C a dx h l : Addr} {H H1 : Hp} {hs : List Int} {ls : List Str} (I : Ini C a dx h l H H1 hs ls) (e : H a = some (.ins C dx [])) : Lw.Kp C H H1 := .but I.but e I.hA
theorem Ini.none {C a dx h l : Addr} {H H1 H2 : Hp} {hs : List Int} {ls : List Str} {d : Addr} (I : Ini C a dx h l H H1 hs ls) (s : Same H1 H2) (n : H2 d = none) : H d = none :=
  none_but I.but (fun b hb => by rw [List.mem_singleton.mp hb, I.hA]; exact Option.some_ne_none _) (none_same s n)
/-- the last step: the row is set, the depths and sources are frozen -/
theorem Ini.fin {C a dx h l r : Addr} {K : PySem.W.Frag} {H H1 H2 : Hp} {hs : List Int} {ls : List Str} {row : List V} {oh ol : Obj} (I : Ini C a dx h l H H1 hs ls) (e : H a = some (.ins C dx [])) (s : Same H1 H2) (hr : SqT K H2 r row) (h0 : hs ≠ []) (hl : LsOk ls) (l0 : ls ≠ []) (h7 : hs.length ≤ 7) (r6 : row.length ≤ 6) :
    But [a] H (upd (upd (upd H2 a (.ins C dx [("heights", .ref h), ("leaves", .ref l), ("row", .ref r)])) h (.frz oh (.lst (hs.map V.int)))) l (.frz ol (.lst (ls.map V.str)))) ∧
    PrI C K (upd (upd (upd H2 a (.ins C dx [("heights", .ref h), ("leaves", .ref l), ("row", .ref r)])) h (.frz oh (.lst (hs.map V.int)))) l (.frz ol (.lst (ls.map V.str)))) a hs ls row := by
  have J := I.same s
  refine ⟨fun b o nb hb => ?_, dx, h, l, r, oh, ol, ?_, ?_, upd_same, ?_, h0, hl, l0, h7, r6⟩
  · rw [upd_ne (ne_of_none hb I.nl), upd_ne (ne_of_none hb I.nh), upd_ne (by simpa using nb)]
    exact J.but _ _ nb hb
  · rw [upd_ne I.nla.symm, upd_ne I.nha.symm, upd_same]
  · rw [upd_ne I.ne, upd_same]
  · have key : ∀ o, H2 r = some o → (∀ xs, o ≠ .lst xs) → (∀ d fs, o ≠ .ins C d fs) → (upd (upd (upd H2 a (.ins C dx [("heights", .ref h), ("leaves", .ref l), ("row", .ref r)])) h (.frz oh (.lst (hs.map V.int)))) l (.frz ol (.lst (ls.map V.str)))) r = some o := by
      intro o ho n1 n2
      have q1 : r ≠ l := by
        rintro rfl
        rw [J.hL] at ho
        cases ho
        exact n1 _ rfl
      have q2 : r ≠ h := by
        rintro rfl
        rw [J.hH] at ho
        cases ho
        exact n1 _ rfl
      have q3 : r ≠ a := by
        rintro rfl
        rw [J.hA] at ho
        cases ho
        exact n2 _ _ rfl
      rw [upd_ne q1, upd_ne q2, upd_ne q3]
      exact ho
    rcases hr with (hr | ⟨o, hr⟩) | hr
    · exact .inl (.inl (key _ hr (fun _ z => nomatch z) fun _ _ z => nomatch z))
    · exact .inl (.inr ⟨o, key _ hr (fun _ z => nomatch z) fun _ _ z => nomatch z⟩)
    · exact .inr hr
end Lw
namespace Lw
open PySem PySem.Spec PyProof.Rows L2
/-! ### x != y by an own __eq__ and object.__ne__ -/
theorem ne_bound {K : PySem.W.Frag} {M : Model} {A : Around} {E : Value → Shared → Prop} {s : Shared} {x : Addr} {ox : Obj} {C : Addr} {od : Option Obj} {args : List Value} {Q : Option Value → Shared → Prop} (X : K.In s.heap) (I : PySem.W.InstAt s.heap x ox C od)
    (hs : PySem.W.findIn K (.ref C) "__ne__" = some (some (.builtin "object.__ne__"))) (h : wpAny M A (call (.builtin "object.__ne__") (.ref x :: args)) (fun v => Q (some v)) E s) : wpAny M A (callSpecialIfBound? (.ref x) "__ne__" args) Q E s := by
  simp only [callSpecialIfBound?, bindSpecialIfBound?]
  refine wpAny_holding (wpAny_bind (wpAny_bind (wpAny_bind (I.type.here ((PySem.W.looks_findIn X hs).here ?_)))))
  simp only [F.cmp_object.ne.bind]
  refine wpAny_bind (wpAny_askSetting (wpAny_ite ?_))
  have fin : wpAny M A (call (.builtin "object.__ne__") ([.ref x] ++ args) >>= fun v => pure (some v)) Q E s := wpAny_bind (wpAny_mono h (fun v s' h' => wpAny_pure h') fun _ _ h' => h')
  split
  · exact wpAny_bind (wpAny_pure (wpAny_pure fin))
  · exact wpAny_tryCatch (wpAny_bind (wpAny_pure (wpAny_pure fin)))
theorem ne_check {K : PySem.W.Frag} {M : Model} {A : Around} {E : Value → Shared → Prop} {s : Shared} {x : Addr} {ox : Obj} {C : Addr} {od : Option Obj} {y : Value} {Q : Unit → Shared → Prop} (X : K.In s.heap) (I : PySem.W.InstAt s.heap x ox C od)
    (hm : PySem.W.subIn K (.ref C) (.type "object") = some true) (hq : Q () s) : wpAny M A (checkBuiltinCall "object.__ne__" ⟨[.ref x, y], []⟩) Q E s := by
  simp only [checkBuiltinCall, F.cmpKind_ne, F.cmpSplit_ne]
  refine wpAny_bind ?_
  unfold isInstance
  refine wpAny_bind (I.type.here ?_)
  refine (PySem.W.looks_subIn X hm).here ?_
  cases hsig : Manifest.signature? "object.__ne__" with
  | none => exact wpAny_pure hq
  | some sig =>
    have ha := F.cmpArgs_ne (.ref x) y
    simp only [argsOk, hsig] at ha
    have h2 : Bind.checkArgs "object.__ne__" sig ⟨[.ref x, y], []⟩ = pure () := ha
    show wpAny M A (Bind.checkArgs "object.__ne__" sig ⟨[.ref x, y], []⟩) Q E _
    rw [h2]
    exact wpAny_pure hq
theorem ne_body {P : Program} {w : World} {K : PySem.W.Frag} {A : Around} {E : Value → Shared → Prop} {s : Shared} {x f : Addr} {ox : Obj} {C : Addr} {od : Option Obj} {y : Value} {Q : Fin → Shared → Prop} (X : K.In s.heap) (I : PySem.W.InstAt s.heap x ox C od)
    (hu : A.units < cLine) (hs : PySem.W.findIn K (.ref C) "__eq__" = some (some (.ref f))) (hf : PySem.W.isFn K (.ref f) = true)
    (hcall : wpAny (model P w) A (call (.ref f) [.ref x, y]) (fun v s' => ∃ b, v = .bool b ∧ Q (.done (.ret (.bool (!b)))) s') E s) :
    wpAny (model P w) A (Builtin.«object.__ne__» ⟨[.ref x, y], []⟩) Q E s := by
  unfold Builtin.«object.__ne__»
  repeat (first
    | with_reducible refine wpAny_cRoomFor hu ?_
    | (refine wpAny_bind (m := callSpecialIfBound? (.ref x) (Str.ofString "__eq__") [y])
        (PySem.W.ifBound_K X I hs hf (wpAny_mono hcall (fun r s' hr => by
          obtain ⟨b, rfl, hq⟩ := hr
          repeat (first | exact hq | exact wpAny_pure hq | exact wpAny_truthy_bool hq | (refine wpAny_bind (m := truthy (.bool _)) (wpAny_truthy_bool ?_)) | wp_step)) fun _ _ e => e)))
    | wp_step)
theorem op_neI {X : Cx} {CX : CXT} {n : Nat} {C f : Addr} {fd : FuncData} {ps : List Str} {sp : Sp} {E : XK} (F : FnOk X.prog X.w X.K X.mg X.base CX n f fd ps sp) (hr : Room (n + 1) X.A)
    (hs : PySem.W.findIn X.K (.ref C) "__eq__" = some (some (.ref f))) (hf : PySem.W.isFn X.K (.ref f) = true) (hne : PySem.W.findIn X.K (.ref C) "__ne__" = some (some (.builtin "object.__ne__"))) (hm : PySem.W.subIn X.K (.ref C) (.type "object") = some true)
    (hb : Binds X.K fd ps []) (hx : Passes CX X E) :
    OpR X (compareOp .NotEq) (fun x y H Q => ∃ a b dx dy fs gs, x = .ref a ∧ y = .ref b ∧ H a = some (.ins C dx fs) ∧ H b = some (.ins C dy gs) ∧ sp [.ref a, .ref b] H (fun v H' => ∃ c, v = .bl c ∧ Q (.bl (!c)) H') E) := by
  intro pins s σ H x y v u Q I rx ry hq
  obtain ⟨a, b, dx, dy, fs, gs, rfl, rfl, ha, hb', hsp⟩ := hq
  cases rx
  cases ry
  obtain ⟨mA, J, _⟩ := ins_get I.hok ha
  obtain ⟨mB, J', _⟩ := ins_get I.hok hb'
  obtain ⟨od, J, _⟩ := J.look
  obtain ⟨od', J', _⟩ := J'.look
  show wpAny (model X.prog X.w) X.A (richCompare .NotEq (.ref a) (.ref b)) (EP X pins σ Q) X.xe s
  have one : wpAny (model X.prog X.w) X.A (tryCompare (.ref a) "__ne__" (.ref b)) (fun r s' => ∃ v, r = some v ∧ EP X pins σ Q v s') X.xe s := by
    unfold tryCompare
    refine wpAny_bind (ne_bound I.kIn J hne ?_)
    refine wpAny_call (codeAny_call_builtin PySem.F.cmp_object.ne.plain PySem.F.cmpEntry_ne (ne_check I.kIn J hm (ne_body I.kIn J ?_ hs hf ?_)))
    · exact hr.in1.units0
    · have hl := F.len _ _ _ _ hsp
      have r2 : Vals [V.ref a, V.ref b] [Value.ref a, Value.ref b] := .cons rfl (.cons rfl .nil)
      refine wpAny_call (codeAny_mono (F.run X.A.in1 X.stack s H ⟨[.ref a, .ref b], []⟩ [.ref a, .ref b] [.ref a, .ref b] _ E hr.in1 I.env0.in1 (by
        have := hb s [.ref a, .ref b] I.kIn (by simpa using hl)
        simpa using this) r2 hsp) fun r s' hq => ?_)
      cases r with
      | error e => exact hx pins σ H s e s' I hq
      | ok fl =>
        cases fl with
        | ret z =>
          obtain ⟨z, H', I', rz, c, ez, q⟩ := I.after hq
          subst ez
          cases rz
          exact ⟨c, rfl, wpAny_pure ⟨_, rfl, .bl (!c), H', I', rfl, q⟩⟩
        | next => exact False.elim hq
        | brk => exact False.elim hq
        | cont => exact False.elim hq
  unfold richCompare
  simp only [oneThing_ref]
  refine wpAny_holding ?_
  refine wpAny_bind (wpAny_cRoomFor hr.units0 ?_)
  rw [cmpInfo_NotEq]
  dsimp only
  refine wpAny_bind (J.type.here (wpAny_bind (J'.type.here ?_)))
  rw [show (Value.ref C != Value.ref C) = false from by simp]
  simp only [Bool.false_eq_true, if_false]
  refine wpAny_bind (wpAny_pure ?_)
  simp only [Bool.false_eq_true, if_false]
  refine wpAny_bind (wpAny_mono one (fun r s' hv => ?_) fun _ _ e => e)
  obtain ⟨v, rfl, q⟩ := hv
  exact wpAny_pure q
/-! ### a list beside an empty one -/
def rNe0 (K : PySem.W.Frag) : R2 := fun x y H Q => ∃ a b xs, x = .ref a ∧ y = .ref b ∧ SqL K H a xs ∧ SqL K H b [] ∧ Q (.bl (!xs.isEmpty)) H
theorem op_ne0 {X : Cx} (hu : X.A.units < cLine) : OpR X (compareOp .NotEq) (rNe0 X.K) := by
  intro pins s σ H x y v u Q I rx ry h
  obtain ⟨a, b, xs, rfl, rfl, h1, h2, q⟩ := h
  cases (show v = Value.ref a from rx)
  cases (show u = Value.ref b from ry)
  obtain ⟨its, r1, p1, _⟩ := I.list h1
  obtain ⟨it2, r2, p2, _⟩ := I.list h2
  cases r2
  show wpAny (model X.prog X.w) X.A (richCompare .NotEq (.ref a) (.ref b)) (EP X pins σ Q) X.xe s
  cases r1 with
  | nil =>
    refine PySem.SeqAt.RcNeAt.lists (e := fun _ => true) p1.isList p2.isList rfl hu (fun j h1 _ => absurd h1 (by simp)) X.prog X.w X.xe _ ?_
    exact ⟨.bl false, H, I, rfl, q⟩
  | cons r rr =>
    refine PySem.SeqAt.RcNeAt.lists_lengths p1.isList p2.isList (by simp) hu X.prog X.w X.xe _ ?_
    exact ⟨.bl true, H, I, rfl, q⟩
end Lw
namespace Lw
open PySem PySem.Spec PyProof.Rows L2
/-! ### plans: stages as data, zips nested -/
inductive Sx where
  | nm (w x : Str)
  | nu (w : Str) (n : Int)
  | flat
  | zip (src : Str) (row : List Sx)
mutual
/-- how deep zips stand in one another -/
def rkS : Sx → Nat
  | .zip _ r => rkR r + 1
  | _ => 0
def rkR : List Sx → Nat
  | [] => 0
  | s :: r => max (rkS s) (rkR r)
end
mutual
/-- the depth behind a stage, behind a row -/
def hgS : Int → Sx → Int
  | d, .nm w _ => if w = "map" then 0 else d
  | d, .nu w _ => if w = "lots" then d + 1 else d
  | d, .flat => d - 1
  | d, .zip _ r => 1 + min d (hgR 0 r)
def hgR : Int → List Sx → Int
  | d, [] => d
  | d, s :: r => hgR (hgS d s) r
end
mutual
/-- the sources of a stage, of a row -/
def lvS : Sx → List Str
  | .zip s r => s :: lvR r
  | _ => []
def lvR : List Sx → List Str
  | [] => []
  | s :: r => lvS s ++ lvR r
end
mutual
/-- may a stage stand behind a depth; may a row: the sources are looked at apart -/
def okS : Int → Sx → Prop
  | _, .nm w x => w ∈ named ∧ nameB x = true
  | _, .nu w n => w ∈ counted ∧ 1 ≤ n ∧ n ≤ 4
  | d, .flat => 0 < d
  | _, .zip _ r => r.length ≤ 6 ∧ okR 0 r
def okR : Int → List Sx → Prop
  | _, [] => True
  | d, s :: r => okS d s ∧ okR (hgS d s) r
end
mutual
/-- a plan's stage as a value: a zip has a tuple (source, stages) -/
def StV (K : PySem.W.Frag) (H : Hp) : Sx → V → Prop
  | .nm w x, v => ∃ t, v = .ref t ∧ SqT K H t [.str w, .str x]
  | .nu w n, v => ∃ t, v = .ref t ∧ SqT K H t [.str w, .int n]
  | .flat, v => ∃ t, v = .ref t ∧ SqT K H t [.str "flat"]
  | .zip s r, v => ∃ t p q vs, v = .ref t ∧ SqT K H t [.str "zip", .ref p] ∧ SqT K H p [.str s, .ref q] ∧ SqT K H q vs ∧ RwV K H r vs
def RwV (K : PySem.W.Frag) (H : Hp) : List Sx → List V → Prop
  | [], vs => vs = []
  | s :: r, vs => ∃ v us, vs = v :: us ∧ StV K H s v ∧ RwV K H r us
end
/-- the depths behind the source and each stage -/
def hgs (d : Int) : List Sx → List Int
  | [] => [d]
  | s :: r => d :: hgs (hgS d s) r
mutual
/-- a program's stage: a zip has a program -/
def StP (C : Addr) (K : PySem.W.Frag) (H : Hp) : Sx → V → Prop
  | .nm w x, v => ∃ t, v = .ref t ∧ SqT K H t [.str w, .str x]
  | .nu w n, v => ∃ t, v = .ref t ∧ SqT K H t [.str w, .int n]
  | .flat, v => ∃ t, v = .ref t ∧ SqT K H t [.str "flat"]
  | .zip s r, v => ∃ t p vs, v = .ref t ∧ SqT K H t [.str "zip", .ref p] ∧ PrI C K H p (hgs 0 r) (s :: lvR r) vs ∧ RwP C K H r vs
def RwP (C : Addr) (K : PySem.W.Frag) (H : Hp) : List Sx → List V → Prop
  | [], vs => vs = []
  | s :: r, vs => ∃ v us, vs = v :: us ∧ StP C K H s v ∧ RwP C K H r us
end
/-- a program with this source and these stages; a plan -/
def PgP (C : Addr) (K : PySem.W.Frag) (H : Hp) (s : Str) (r : List Sx) (p : Addr) : Prop := ∃ vs, PrI C K H p (hgs 0 r) (s :: lvR r) vs ∧ RwP C K H r vs
def PlV (K : PySem.W.Frag) (H : Hp) (s : Str) (r : List Sx) (p : Addr) : Prop := ∃ q vs, SqT K H p [.str s, .ref q] ∧ SqT K H q vs ∧ RwV K H r vs
mutual
theorem StV.kp {C : Addr} {K : PySem.W.Frag} {H H' : Hp} (s : KP C H H') : ∀ (x : Sx) {v : V}, StV K H x v → StV K H' x v
  | .nm _ _, _, ⟨t, e, h⟩ => ⟨t, e, sqT_kp s h⟩
  | .nu _ _, _, ⟨t, e, h⟩ => ⟨t, e, sqT_kp s h⟩
  | .flat, _, ⟨t, e, h⟩ => ⟨t, e, sqT_kp s h⟩
  | .zip _ r, _, ⟨t, p, q, vs, e, h1, h2, h3, h4⟩ => ⟨t, p, q, vs, e, sqT_kp s h1, sqT_kp s h2, sqT_kp s h3, RwV.kp s r h4⟩
theorem RwV.kp {C : Addr} {K : PySem.W.Frag} {H H' : Hp} (s : KP C H H') : ∀ (r : List Sx) {vs : List V}, RwV K H r vs → RwV K H' r vs
  | [], _, h => h
  | x :: r, _, ⟨v, us, e, h1, h2⟩ => ⟨v, us, e, StV.kp s x h1, RwV.kp s r h2⟩
end
mutual
theorem StP.kp {C : Addr} {K : PySem.W.Frag} {H H' : Hp} (s : KP C H H') : ∀ (x : Sx) {v : V}, StP C K H x v → StP C K H' x v
  | .nm _ _, _, ⟨t, e, h⟩ => ⟨t, e, sqT_kp s h⟩
  | .nu _ _, _, ⟨t, e, h⟩ => ⟨t, e, sqT_kp s h⟩
  | .flat, _, ⟨t, e, h⟩ => ⟨t, e, sqT_kp s h⟩
  | .zip _ r, _, ⟨t, p, vs, e, h1, h2, h3⟩ => ⟨t, p, vs, e, sqT_kp s h1, h2.kp s, RwP.kp s r h3⟩
theorem RwP.kp {C : Addr} {K : PySem.W.Frag} {H H' : Hp} (s : KP C H H') : ∀ (r : List Sx) {vs : List V}, RwP C K H r vs → RwP C K H' r vs
  | [], _, h => h
  | x :: r, _, ⟨v, us, e, h1, h2⟩ => ⟨v, us, e, StP.kp s x h1, RwP.kp s r h2⟩
end
theorem PgP.kp {C : Addr} {K : PySem.W.Frag} {H H' : Hp} (s : KP C H H') {x : Str} {r : List Sx} {p : Addr} (h : PgP C K H x r p) : PgP C K H' x r p := let ⟨vs, h1, h2⟩ := h; ⟨vs, h1.kp s, RwP.kp s r h2⟩
theorem PlV.kp {C : Addr} {K : PySem.W.Frag} {H H' : Hp} (s : KP C H H') {x : Str} {r : List Sx} {p : Addr} (h : PlV K H x r p) : PlV K H' x r p := let ⟨q, vs, h1, h2, h3⟩ := h; ⟨q, vs, sqT_kp s h1, sqT_kp s h2, RwV.kp s r h3⟩
theorem RwV.len {K : PySem.W.Frag} {H : Hp} : ∀ {r : List Sx} {vs : List V}, RwV K H r vs → vs.length = r.length
  | [], _, h => by rw [show _ = [] from h]; rfl
  | _ :: r, _, ⟨_, _, e, _, h⟩ => by rw [e, List.length_cons, List.length_cons, RwV.len h]
theorem RwP.len {C : Addr} {K : PySem.W.Frag} {H : Hp} : ∀ {r : List Sx} {vs : List V}, RwP C K H r vs → vs.length = r.length
  | [], _, h => by rw [show _ = [] from h]; rfl
  | _ :: r, _, ⟨_, _, e, _, h⟩ => by rw [e, List.length_cons, List.length_cons, RwP.len h]
theorem RwV.snoc {K : PySem.W.Frag} {H : Hp} : ∀ {r : List Sx} {vs : List V} {s : Sx} {v : V}, RwV K H r vs → StV K H s v → RwV K H (r ++ [s]) (vs ++ [v])
  | [], _, s, v, h, g => by rw [show _ = [] from h]; exact ⟨v, [], rfl, g, rfl⟩
  | _ :: r, _, s, v, ⟨u, us, e, h1, h2⟩, g => by rw [e]; exact ⟨u, us ++ [v], rfl, h1, RwV.snoc h2 g⟩
theorem RwP.snoc {C : Addr} {K : PySem.W.Frag} {H : Hp} : ∀ {r : List Sx} {vs : List V} {s : Sx} {v : V}, RwP C K H r vs → StP C K H s v → RwP C K H (r ++ [s]) (vs ++ [v])
  | [], _, s, v, h, g => by rw [show _ = [] from h]; exact ⟨v, [], rfl, g, rfl⟩
  | _ :: r, _, s, v, ⟨u, us, e, h1, h2⟩, g => by rw [e]; exact ⟨u, us ++ [v], rfl, h1, RwP.snoc h2 g⟩
theorem RwV.get {K : PySem.W.Frag} {H : Hp} : ∀ {r : List Sx} {vs : List V} {i : Nat} {v : V}, RwV K H r vs → vs[i]? = some v → ∃ s, r[i]? = some s ∧ StV K H s v
  | [], _, _, _, h, g => by rw [show _ = [] from h] at g; simp at g
  | s :: r, _, 0, v, ⟨u, us, e, h1, h2⟩, g => by
    rw [e] at g
    cases g
    exact ⟨s, rfl, h1⟩
  | s :: r, _, i + 1, v, ⟨u, us, e, h1, h2⟩, g => by
    rw [e] at g
    exact (RwV.get (r := r) (i := i) h2 g : _)
theorem RwP.get {C : Addr} {K : PySem.W.Frag} {H : Hp} : ∀ {r : List Sx} {vs : List V} {i : Nat} {v : V}, RwP C K H r vs → vs[i]? = some v → ∃ s, r[i]? = some s ∧ StP C K H s v
  | [], _, _, _, h, g => by rw [show _ = [] from h] at g; simp at g
  | s :: r, _, 0, v, ⟨u, us, e, h1, h2⟩, g => by
    rw [e] at g
    cases g
    exact ⟨s, rfl, h1⟩
  | s :: r, _, i + 1, v, ⟨u, us, e, h1, h2⟩, g => by
    rw [e] at g
    exact (RwP.get (r := r) (i := i) h2 g : _)
theorem hgR_snoc : ∀ (r : List Sx) (d : Int) (s : Sx), hgR d (r ++ [s]) = hgS (hgR d r) s
  | [], d, s => by simp [hgR]
  | x :: r, d, s => by
    rw [List.cons_append, hgR, hgR]
    exact hgR_snoc r _ s
theorem lvR_snoc : ∀ (r : List Sx) (s : Sx), lvR (r ++ [s]) = lvR r ++ lvS s
  | [], s => by simp [lvR]
  | x :: r, s => by rw [List.cons_append, lvR, lvR, lvR_snoc r s, List.append_assoc]
theorem okR_snoc : ∀ (r : List Sx) (d : Int) (s : Sx), okR d r → okS (hgR d r) s → okR d (r ++ [s])
  | [], d, s, _, h => by
    rw [List.nil_append, okR, okR]
    rw [hgR] at h
    exact ⟨h, trivial⟩
  | x :: r, d, s, h, g => by
    rw [List.cons_append, okR]
    rw [okR] at h
    rw [hgR] at g
    exact ⟨h.1, okR_snoc r _ s h.2 g⟩
theorem rkR_snoc : ∀ (r : List Sx) (s : Sx), rkR (r ++ [s]) = max (rkR r) (rkS s)
  | [], s => by simp [rkR]
  | x :: r, s => by rw [List.cons_append, rkR, rkR, rkR_snoc r s, Nat.max_assoc]
theorem hgs_last : ∀ (r : List Sx) (d : Int), lastI (hgs d r) = hgR d r ∧ hgs d r ≠ []
  | [], d => ⟨by simp [hgs, hgR, lastI], by simp [hgs]⟩
  | s :: r, d => by
    obtain ⟨h1, h2⟩ := hgs_last r (hgS d s)
    refine ⟨?_, by simp [hgs]⟩
    rw [hgs, hgR, ← h1]
    unfold lastI
    rw [List.getLast?_cons]
    cases hq : hgs (hgS d s) r with
    | nil => exact absurd hq h2
    | cons y l => simp [List.getLast?_cons]
theorem hgs_len : ∀ (r : List Sx) (d : Int), (hgs d r).length = r.length + 1
  | [], d => rfl
  | s :: r, d => by rw [hgs, List.length_cons, List.length_cons, hgs_len r]
theorem rk_mem : ∀ {r : List Sx} {i : Nat} {s : Sx}, r[i]? = some s → rkS s ≤ rkR r
  | [], _, _, h => by simp at h
  | x :: r, 0, s, h => by
    cases h
    rw [rkR]
    exact Nat.le_max_left _ _
  | x :: r, i + 1, s, h => by
    rw [rkR]
    exact Nat.le_trans (rk_mem (r := r) h) (Nat.le_max_right _ _)
theorem erase_perm {α : Type} : ∀ {l : List α} {i : Nat} (h : i < l.length), (l[i] :: l.eraseIdx i).Perm l
  | [], _, h => absurd h (by simp)
  | x :: r, 0, _ => .refl _
  | x :: r, i + 1, h => by
    have h' : i < r.length := by simpa using h
    exact (List.Perm.swap x (r[i]) (r.eraseIdx i)).trans ((erase_perm h').cons x)
theorem units1 {k : Nat} {A : Around} (r : Room k A) : A.units + 1 < cLine := by
  have := r.units
  omega
/-- {"lots": 1, "flat": 0 - 1}.get(w, 0) -/
def lowV (w : Str) : Int := if w = "lots" then 1 else if w = "flat" then 0 - 1 else 0
theorem dget_low (w : Str) : (valV (mergeK [] [(Sum.inr ("lots" : Str), V.int 1), (Sum.inr ("flat" : Str), V.int (0 - 1))]) (Sum.inr w : Key)).getD (V.int 0) = V.int (lowV w) := by
  have e : mergeK [] [(Sum.inr ("lots" : Str), V.int 1), (Sum.inr ("flat" : Str), V.int (0 - 1))] = [(Sum.inr ("lots" : Str), V.int 1), (Sum.inr ("flat" : Str), V.int (0 - 1))] := by rfl
  rw [e]
  unfold lowV
  by_cases h1 : w = "lots"
  · subst h1
    rfl
  · by_cases h2 : w = "flat"
    · subst h2
      rfl
    · have g1 : ¬ ("lots" : Str) = w := fun z => h1 z.symm
      have g2 : ¬ ("flat" : Str) = w := fun z => h2 z.symm
      simp [valV, List.find?_cons, g1, g2, h1, h2]
/-! ### words of letters -/
def WordB (n : Nat) (x : Str) : Prop := x.length ≤ n ∧ ∀ c ∈ x.cps.toList, c ∈ letters.cps.toList
theorem str_len_app (x y : Str) : (x ++ y).length = x.length + y.length := by
  show (x.cps ++ y.cps).size = _
  rw [Array.size_append]
  rfl
theorem WordB.app {n m : Nat} {x y : Str} (h : WordB n x) (g : WordB m y) : WordB (n + m) (x ++ y) := by
  refine ⟨?_, fun c hc => ?_⟩
  · rw [str_len_app]
    have := h.1
    have := g.1
    omega
  · have e : (x ++ y).cps.toList = x.cps.toList ++ y.cps.toList := by
      show (x.cps ++ y.cps).toList = _
      rw [Array.toList_append]
    rw [e] at hc
    rcases List.mem_append.mp hc with q | q
    · exact h.2 c q
    · exact g.2 c q
theorem WordB.one {i c : Nat} (h : letters.cps.toList[i]? = some c) : WordB 1 ⟨#[c]⟩ := ⟨Nat.le_refl _, fun d hd => by
  have e : d = c := by simpa using hd
  rw [e]
  exact List.mem_of_getElem? h⟩
theorem WordB.name {n : Nat} {x : Str} (h : WordB n x) (h1 : 1 ≤ x.length) (h8 : n ≤ 8) : nameB x = true := by
  unfold nameB
  rw [decide_eq_true h1, decide_eq_true (Nat.le_trans h.1 h8), Bool.true_and, Bool.true_and]
  exact List.all_eq_true.mpr fun c hc => decide_eq_true (h.2 c hc)
mutual
theorem rkS_le : ∀ s : Sx, rkS s ≤ (lvS s).length
  | .nm _ _ => Nat.zero_le _
  | .nu _ _ => Nat.zero_le _
  | .flat => Nat.zero_le _
  | .zip s r => by
    rw [rkS, lvS, List.length_cons]
    exact Nat.succ_le_succ (rkR_le r)
theorem rkR_le : ∀ r : List Sx, rkR r ≤ (lvR r).length
  | [] => Nat.zero_le _
  | s :: r => by
    have h1 := rkS_le s
    have h2 := rkR_le r
    rw [rkR, lvR, List.length_append]
    omega
end
/-! ### programs' rows run -/
theorem StP.stg {C : Addr} {K : PySem.W.Frag} {H : Hp} {s : Sx} {v : V} {d : Int} {L : List Str} (h : StP C K H s v) (o : okS d s) (n : ∀ x ∈ lvS s, x ∉ L) : ∃ g, StG C K H v g ∧ behind d g = hgS d s ∧ leavesOf g = lvS s ∧ stands d L g = true := by
  cases s with
  | nm w x =>
    obtain ⟨t, rfl, a⟩ := h
    rw [okS] at o
    exact ⟨_, .nm a o.1 o.2, by rw [hgS]; rfl, by simp [lvS, leavesOf], rfl⟩
  | nu w k =>
    obtain ⟨t, rfl, a⟩ := h
    rw [okS] at o
    exact ⟨_, .nu a o.1 o.2.1 o.2.2, by rw [hgS]; rfl, by simp [lvS, leavesOf], rfl⟩
  | flat =>
    obtain ⟨t, rfl, a⟩ := h
    rw [okS] at o
    exact ⟨_, .flat a, by rw [hgS]; rfl, by simp [lvS, leavesOf], decide_eq_true o⟩
  | zip sr r =>
    obtain ⟨t, p, vs, rfl, a, b, c⟩ := h
    refine ⟨_, .zip a b, ?_, by rw [lvS]; rfl, ?_⟩
    · show 1 + min d (lastI (hgs 0 r)) = _
      rw [hgS, (hgs_last r 0).1]
    · show (!((sr :: lvR r).any fun x => decide (x ∈ L))) = true
      rw [lvS] at n
      have e : ((sr :: lvR r).any fun x => decide (x ∈ L)) = false := List.any_eq_false.mpr fun x hx => by simpa using n x hx
      rw [e]
      rfl
theorem run_ok {C : Addr} {K : PySem.W.Frag} {H : Hp} : ∀ {r : List Sx} {n : Nat} {pre : List Int} {d : Int} {L : List Str} {vs : List V}, RwP C K H r vs → okR d r → (L ++ lvR r).Nodup → Run C K H n (pre ++ [d]) L vs (.inr (pre ++ hgs d r, L ++ lvR r))
  | [], n, pre, d, L, vs, h, _, _ => by
    rw [show vs = [] from h, hgs, lvR, List.append_nil]
    exact .nil
  | s :: r, n, pre, d, L, vs, ⟨v, us, e, h1, h2⟩, o, nd => by
    subst e
    rw [okR] at o
    have nd0 := nd
    rw [lvR, ← List.append_assoc] at nd
    have nd1 := (List.nodup_append.mp nd).1
    have dis := (List.nodup_append.mp nd1).2.2
    obtain ⟨g, hg, e1, e2, e3⟩ := h1.stg (L := L) o.1 fun x hx hL => dis x hL x hx rfl
    have eL : lastI (pre ++ [d]) = d := by
      unfold lastI
      rw [List.getLast?_concat]
      rfl
    have q := run_ok (n := n + 1) (pre := pre ++ [d]) (L := L ++ lvS s) h2 o.2 nd
    have e4 : pre ++ hgs d (s :: r) = pre ++ [d] ++ hgs (hgS d s) r := by
      rw [hgs, List.append_assoc]
      rfl
    have e5 : L ++ lvR (s :: r) = L ++ lvS s ++ lvR r := by rw [lvR, List.append_assoc]
    rw [e4, e5]
    refine .on hg (by rw [eL]; exact e3) ?_
    rw [eL, e1, e2]
    exact q
theorem LsOk.sub {l m : List Str} (h : LsOk l) (s : m.Sublist l) : LsOk m := ⟨h.1.sublist s, fun x hx => h.2 x (s.subset hx)⟩
theorem lv_sub : ∀ {r : List Sx} {s : Sx}, s ∈ r → (lvS s).Sublist (lvR r)
  | x :: r, s, h => by
    rw [lvR]
    rcases List.mem_cons.mp h with e | e
    · subst e
      exact List.sublist_append_left _ _
    · exact (lv_sub e).trans (List.sublist_append_right _ _)
theorem same_updN {H H' : Hp} {q : Addr} {o : HO} (s : Same H H') (n : H q = none) : Same H (L2.upd H' q o) := fun b u e => by
  rw [upd_ne (ne_of_none e n)]
  exact s b u e
def PlanOk (x : Str) (r : List Sx) : Prop := okR 0 r ∧ r.length ≤ 6 ∧ LsOk (x :: lvR r)
def strV : V → Str
  | .str x => x
  | _ => Str.empty
theorem perm_str {ys : List V} {l : List Str} (h : ys.Perm (l.map V.str)) : ∃ ps : List Str, ys = ps.map V.str ∧ ps.Perm l := by
  refine ⟨ys.map strV, ?_, ?_⟩
  · rw [List.map_map]
    have e : ys.map (V.str ∘ strV) = ys.map id := List.map_congr_left fun y hy => by
      obtain ⟨x, _, rfl⟩ := List.mem_map.mp (h.mem_iff.mp hy)
      rfl
    rw [e, List.map_id]
  · have q := h.map strV
    rw [List.map_map] at q
    have e : l.map (strV ∘ V.str) = l.map id := List.map_congr_left fun y _ => rfl
    rw [e, List.map_id] at q
    exact q
end Lw
namespace Lw
open PySem PySem.Spec PyProof.Rows L2
/-! ### the lines of a program -/
def strI (n : Int) : Str := Str.ofString (toString n)
mutual
def lnS : Sx → List Str
  | .nm w x => [w ++ (" " : Str) ++ x]
  | .nu w n => [w ++ (" " : Str) ++ strI n]
  | .flat => ["flat"]
  | .zip s r => "zip" :: ((("from " : Str) ++ s) :: lnR r).map fun l => ("  " : Str) ++ l
def lnR : List Sx → List Str
  | [] => []
  | s :: r => lnS s ++ lnR r
end
def lnP (s : Str) (r : List Sx) : List Str := (("from " : Str) ++ s) :: lnR r
theorem lnR_snoc : ∀ (r : List Sx) (s : Sx), lnR (r ++ [s]) = lnR r ++ lnS s
  | [], s => by simp [lnR]
  | x :: r, s => by rw [List.cons_append, lnR, lnR, lnR_snoc r s, List.append_assoc]
mutual
/-- the rows in a stage have at most six stages -/
theorem lnS_len : ∀ (s : Sx) (d : Int), okS d s → (lnS s).length ≤ 1 + 7 * (lvS s).length
  | .nm _ _, _, _ => by simp [lnS]
  | .nu _ _, _, _ => by simp [lnS]
  | .flat, _, _ => by simp [lnS]
  | .zip s r, _, h => by
    rw [okS] at h
    have q := lnR_len r 0 h.2
    rw [lnS, lvS, List.length_cons, List.length_map, List.length_cons, List.length_cons]
    omega
theorem lnR_len : ∀ (r : List Sx) (d : Int), okR d r → (lnR r).length ≤ r.length + 7 * (lvR r).length
  | [], _, _ => by simp [lnR]
  | s :: r, d, h => by
    rw [okR] at h
    have q1 := lnS_len s d h.1
    have q2 := lnR_len r _ h.2
    rw [lnR, lvR, List.length_append, List.length_append, List.length_cons]
    omega
end
theorem strI_len : ∀ {n : Int}, 1 ≤ n → n ≤ 4 → (strI n).length = 1 := by
  intro n h1 h4
  have : n = 1 ∨ n = 2 ∨ n = 3 ∨ n = 4 := by omega
  rcases this with rfl | rfl | rfl | rfl <;> decide +kernel
mutual
theorem lnS_wid : ∀ (s : Sx) (d : Int), okS d s → LsOk (lvS s) → ∀ l ∈ lnS s, l.length ≤ 20 + 2 * rkS s
  | .nm w x, _, h, _, l, hl => by
    rw [okS] at h
    have key : ∀ w ∈ named, w.length ≤ 8 := by decide +kernel
    have k1 := key w h.1
    have k2 := nameB_len h.2
    have e : l = w ++ (" " : Str) ++ x := by simpa [lnS] using hl
    rw [e, str_len_app, str_len_app]
    have : (" " : Str).length = 1 := by decide +kernel
    omega
  | .nu w n, _, h, _, l, hl => by
    rw [okS] at h
    have key : ∀ w ∈ counted, w.length ≤ 8 := by decide +kernel
    have k1 := key w h.1
    have k2 := strI_len h.2.1 h.2.2
    have e : l = w ++ (" " : Str) ++ strI n := by simpa [lnS] using hl
    rw [e, str_len_app, str_len_app]
    have : (" " : Str).length = 1 := by decide +kernel
    omega
  | .flat, _, _, _, l, hl => by
    have e : l = "flat" := by simpa [lnS] using hl
    rw [e]
    have : ("flat" : Str).length = 4 := by decide +kernel
    omega
  | .zip s r, _, h, g, l, hl => by
    rw [okS] at h
    rw [lvS] at g
    rw [lnS] at hl
    rw [rkS]
    rcases List.mem_cons.mp hl with e | hl
    · rw [e]
      have : ("zip" : Str).length = 3 := by decide +kernel
      omega
    · obtain ⟨m, hm, rfl⟩ := List.mem_map.mp hl
      rw [str_len_app]
      have e2 : ("  " : Str).length = 2 := by decide +kernel
      rcases List.mem_cons.mp hm with e | hm
      · have key : ∀ s ∈ sources, s.length = 1 := by decide +kernel
        have k := key s (g.2 s (by simp))
        have e5 : ("from " : Str).length = 5 := by decide +kernel
        rw [e, str_len_app]
        omega
      · have q := lnR_wid r 0 h.2 (g.sub (List.sublist_cons_self _ _)) m hm
        omega
theorem lnR_wid : ∀ (r : List Sx) (d : Int), okR d r → LsOk (lvR r) → ∀ l ∈ lnR r, l.length ≤ 20 + 2 * rkR r
  | [], _, _, _, l, hl => by simp [lnR] at hl
  | s :: r, d, h, g, l, hl => by
    rw [okR] at h
    rw [lvR] at g
    rw [lnR] at hl
    rw [rkR]
    rcases List.mem_append.mp hl with hl | hl
    · have := lnS_wid s d h.1 (g.sub (List.sublist_append_left _ _)) l hl
      omega
    · have := lnR_wid r _ h.2 (g.sub (List.sublist_append_right _ _)) l hl
      omega
end
end Lw
namespace Lw
open PySem PySem.Spec PyProof.Rows L2 TL
/-! ### texts: so many times, cut, led off -/
def repS (z : Str) (n : Nat) : Str := ⟨(List.replicate n z.cps).foldl (· ++ ·) #[]⟩
theorem fold_rep (z : Array Nat) : ∀ (n : Nat) (a : Array Nat), ((List.replicate n z).foldl (· ++ ·) a).toList = a.toList ++ (List.replicate n z.toList).flatten
  | 0, a => by simp
  | n + 1, a => by
    rw [List.replicate_succ, List.foldl_cons, fold_rep z n, Array.toList_append, List.replicate_succ, List.flatten_cons, List.append_assoc]
theorem tl_repS (z : Str) (n : Nat) : tl (repS z n) = (List.replicate n (tl z)).flatten := by
  show ((List.replicate n z.cps).foldl (· ++ ·) #[]).toList = _
  rw [fold_rep]
  rfl
theorem op_mul_str {X : Cx} : OpR X (binaryOp .Mult) (fun x y H Q => ∃ (z : Str) (n : Nat), x = .str z ∧ y = .int (n : Int) ∧ z.length ≤ 1000 ∧ n ≤ 1000 ∧ Q (.str (repS z n)) H) := by
  intro pins s σ H x y v u Q I rx ry h
  obtain ⟨z, n, rfl, rfl, hz, hn, q⟩ := h
  obtain ⟨t, rfl⟩ := rx
  obtain ⟨t2, rfl⟩ := ry
  have hzn : z.length * n ≤ 1000000 := Nat.mul_le_mul hz hn
  refine PySem.P.mul_str ?_ (fun h1 _ => ?_) (fun h1 _ => ?_) ?_
  · rw [decide_eq_false (by omega), decide_eq_false (by omega)]
    rfl
  · have h0 : 0 < (n : Int) := by omega
    have h2 : (1000 : Int) ≤ (2 ^ 63 - 1) / (n : Int) := (Int.le_ediv_iff_mul_le h0).mpr (by omega)
    omega
  · rw [Int.toNat_natCast]
    show decide (z.length * n > 2 ^ 24) = false
    exact decide_eq_false (by omega)
  · by_cases h1 : (n : Int) < 1
    · rw [if_pos h1]
      have : n = 0 := by omega
      subst this
      exact ⟨by decide, .str (repS z 0), H, I.tok _, ⟨_, rfl⟩, q⟩
    · rw [if_neg h1]
      by_cases h2 : ((n : Int) == 1 || z.length == 0) = true
      · rw [if_pos h2]
        have e : repS z n = z := by
          refine ext_tl ?_
          rw [tl_repS]
          rcases Bool.or_eq_true_iff.mp h2 with h2 | h2
          · have : n = 1 := by have := beq_iff_eq.mp h2; omega
            subst this
            simp
          · have h3 : (tl z).length = 0 := by rw [← len_tl]; exact beq_iff_eq.mp h2
            rw [List.length_eq_zero_iff.mp h3]
            simp
        rw [e] at q
        exact ⟨.str z, H, I, ⟨_, rfl⟩, q⟩
      · rw [if_neg h2, Int.toNat_natCast]
        refine ⟨?_, .str (repS z n), H, I.tok _, ⟨_, rfl⟩, q⟩
        show (repS z n).length ≤ sizeLine
        have e : (repS z n).length = z.length * n := by
          rw [len_tl, tl_repS, List.length_flatten, List.map_replicate, List.sum_replicate_nat, len_tl, Nat.mul_comm]
        rw [e, sizeLine_eq]
        omega
/-- so much indented -/
def ind (k : Nat) : Str := repS "  " k
theorem tl_ind : ∀ k : Nat, tl (ind k) = List.replicate (2 * k) 32 := by
  intro k
  unfold ind
  rw [tl_repS]
  have e : tl ("  " : Str) = [32, 32] := by decide +kernel
  rw [e]
  induction k with
  | zero => rfl
  | succ n ih =>
    rw [List.replicate_succ, List.flatten_cons, ih]
    have : 2 * (n + 1) = 2 * n + 1 + 1 := by omega
    rw [this, List.replicate_succ, List.replicate_succ]
    rfl
theorem len_ind (k : Nat) : (ind k).length = 2 * k := by rw [len_tl, tl_ind, List.length_replicate]
theorem cut_pre (x y : Str) : cutS (x ++ y) none (some (x.length : Int)) = x := by
  refine ext_tl ?_
  show (((x ++ y).cps.toList.drop (HT.sIx (x ++ y).length 0 none)).take (HT.sIx (x ++ y).length (x ++ y).length (some (x.length : Int)) - HT.sIx (x ++ y).length 0 none)) = _
  rw [HT.sIx_none, HT.sIx_nat, str_len_app]
  have e : (x ++ y).cps.toList = tl x ++ tl y := tl_append x y
  rw [e, List.drop_zero, Nat.sub_zero, Nat.min_eq_left (Nat.le_add_right _ _), len_tl, List.take_left]
theorem cut_suf (x y : Str) : cutS (x ++ y) (some (x.length : Int)) none = y := by
  refine ext_tl ?_
  show (((x ++ y).cps.toList.drop (HT.sIx (x ++ y).length 0 (some (x.length : Int)))).take (HT.sIx (x ++ y).length (x ++ y).length none - HT.sIx (x ++ y).length 0 (some (x.length : Int)))) = _
  rw [HT.sIx_none, HT.sIx_nat, str_len_app]
  have e : (x ++ y).cps.toList = tl x ++ tl y := tl_append x y
  rw [e, Nat.min_eq_left (Nat.le_add_right _ _), len_tl x, List.drop_left, Nat.add_sub_cancel_left, len_tl, List.take_length]
theorem starts_app (x y : Str) : Txt.startswith (x ++ y) x = true := by
  unfold Txt.startswith
  rw [PySem.StrLaws.subAt_eq, str_len_app]
  have e : (x ++ y).cps.toList = tl x ++ tl y := tl_append x y
  rw [e, List.drop_zero, len_tl x, List.take_left]
  simp
/-- a line's body: not empty, no blank ahead -/
def Body (b : Str) : Prop := ∃ c r, tl b = c :: r ∧ c ≠ 32
theorem lstrip_ind {k : Nat} {b : Str} (h : Body b) : (Txt.lstripChars (ind k ++ b) " ").length = b.length := by
  unfold Txt.lstripChars
  rw [PySem.W.stripBy_eq]
  unfold PySem.W.stripped
  obtain ⟨c, r, e, hc⟩ := h
  have e1 : (ind k ++ b).cps.toList = List.replicate (2 * k) 32 ++ (c :: r) := by
    have q := tl_append (ind k) b
    rw [tl_ind, e] at q
    exact q
  have g : ∀ n : Nat, (List.takeWhile ((" " : Str).cps.contains) (List.replicate n 32 ++ (c :: r))).length = n := by
    intro n
    have h32 : ((" " : Str).cps.contains 32) = true := by decide +kernel
    have hcc : ((" " : Str).cps.contains c) = false := by
      have e3 : (" " : Str).cps = #[32] := by decide +kernel
      rw [e3]
      simp [hc]
    induction n with
    | zero => rw [List.replicate_zero, List.nil_append, List.takeWhile_cons, hcc]; rfl
    | succ n ih => rw [List.replicate_succ, List.cons_append, List.takeWhile_cons, h32, if_pos rfl, List.length_cons, ih]
  have e2 : (ind k ++ b).length = 2 * k + b.length := by rw [str_len_app, len_ind]
  show (Builtin.Str.strSub (ind k ++ b) (List.takeWhile _ (ind k ++ b).cps.toList).length (ind k ++ b).length).length = _
  rw [e1, g, e2]
  show ((ind k ++ b).cps.extract (2 * k) (2 * k + b.length)).size = _
  rw [Array.size_extract]
  have e4 : (ind k ++ b).cps.size = 2 * k + b.length := e2
  rw [e4]
  omega
end Lw
namespace Lw
open PySem PySem.Spec PyProof.Rows L2 TL
/-! ### reading lines: the programs that are open, the innermost first -/
structure RS where
  st : List (Str × List Sx)
  pend : Bool
  tak : List Str
/-- a tower of open programs closes to one -/
inductive Clo : List (Str × List Sx) → Str → List Sx → Prop
  | one {x : Str} {r : List Sx} : Clo [(x, r)] x r
  | more {st : List (Str × List Sx)} {x' x : Str} {r' r : List Sx} : Clo st x' r' → okR 0 r' → r'.length ≤ 6 → LsOk (x' :: lvR r') → r.length ≤ 5 → Clo (st ++ [(x, r)]) x (r ++ [.zip x' r'])
theorem Clo.top {st : List (Str × List Sx)} {x : Str} {r : List Sx} (h : Clo st x r) : (st = [(x, r)]) ∨ ∃ x1 r1 x2 r2 rest, st = (x1, r1) :: (x2, r2) :: rest ∧ okR 0 r1 ∧ r1.length ≤ 6 ∧ LsOk (x1 :: lvR r1) ∧ r2.length ≤ 5 ∧ Clo ((x2, r2 ++ [.zip x1 r1]) :: rest) x r := by
  induction h with
  | one => exact .inl rfl
  | @more st x' x r' r c o l s h5 ih =>
    rcases ih with e | ⟨x1, r1, x2, r2, rest, e, h1, h2, h3, h4, h6⟩
    · subst e
      exact .inr ⟨x', r', x, r, [], rfl, o, l, s, h5, .one⟩
    · subst e
      exact .inr ⟨x1, r1, x2, r2, rest ++ [(x, r)], rfl, h1, h2, h3, h4, .more h6 o l s h5⟩
theorem Clo.pos {st : List (Str × List Sx)} {x : Str} {r : List Sx} (h : Clo st x r) : 1 ≤ st.length := by
  cases h <;> simp
def Sx.plain : Sx → Prop
  | .zip _ _ => False
  | _ => True
/-- a line is read -/
inductive Tk : RS → Str → RS → Prop
  | start {s : Str} : s ∈ sources → Tk ⟨[], false, []⟩ (("from " : Str) ++ s) ⟨[(s, [])], false, [s]⟩
  | open_ {S : List (Str × List Sx)} {tak : List Str} {s : Str} : S ≠ [] → S.length ≤ 4 → tak.length ≤ 4 → s ∈ sources → s ∉ tak → Tk ⟨S, true, tak⟩ (ind S.length ++ (("from " : Str) ++ s)) ⟨(s, []) :: S, false, tak ++ [s]⟩
  | stage {st S : List (Str × List Sx)} {tak : List Str} {x : Str} {r : List Sx} {s : Sx} {b : Str} {d : Int} : Clo st x r → (st ++ S).length ≤ 4 → tak.length ≤ 4 → s.plain → okS d s → lnS s = [b] → okR 0 (r ++ [s]) → r.length ≤ 5 → LsOk (x :: lvR (r ++ [s])) → Tk ⟨st ++ S, false, tak⟩ (ind S.length ++ b) ⟨(x, r ++ [s]) :: S, false, tak⟩
  | zip {st S : List (Str × List Sx)} {tak : List Str} {x : Str} {r : List Sx} : Clo st x r → (st ++ S).length ≤ 4 → tak.length < 4 → r.length ≤ 5 → Tk ⟨st ++ S, false, tak⟩ (ind S.length ++ "zip") ⟨(x, r) :: S, true, tak⟩
inductive Reads : RS → List Str → RS → Prop
  | nil {s : RS} : Reads s [] s
  | cons {s s' s'' : RS} {l : Str} {ls : List Str} : Tk s l s' → Reads s' ls s'' → Reads s (l :: ls) s''
theorem Reads.app {s s' s'' : RS} {l m : List Str} (h : Reads s l s') (g : Reads s' m s'') : Reads s (l ++ m) s'' := by
  induction h with
  | nil => exact g
  | cons a _ ih => exact .cons a (ih g)
theorem ind_succ (k : Nat) (l : Str) : ind k ++ (("  " : Str) ++ l) = ind (k + 1) ++ l := by
  refine ext_tl ?_
  rw [tl_append, tl_append, tl_append, tl_ind, tl_ind, ← List.append_assoc]
  have e : tl ("  " : Str) = List.replicate 2 32 := by decide +kernel
  rw [e, List.replicate_append_replicate]
  rfl
theorem ind_zero (l : Str) : ind 0 ++ l = l := by
  refine ext_tl ?_
  rw [tl_append, tl_ind]
  rfl
mutual
theorem reads_stage : ∀ (s : Sx) (x : Str) (done : List Sx) (S tw : List (Str × List Sx)) (tak : List Str), Clo tw x done → okR 0 done → okS (hgR 0 done) s → done.length ≤ 5 → LsOk (x :: lvR (done ++ [s])) → LsOk (tak ++ lvS s) → (tw ++ S).length ≤ tak.length →
    ∃ tw', Clo tw' x (done ++ [s]) ∧ (tw' ++ S).length ≤ (tak ++ lvS s).length ∧ Reads ⟨tw ++ S, false, tak⟩ ((lnS s).map fun l => ind S.length ++ l) ⟨tw' ++ S, false, tak ++ lvS s⟩
  | .nm w y, x, done, S, tw, tak, hc, hd, ho, h5, hl, ht, hw => by
    have l4 := ht.len
    have e0 : lvS (.nm w y) = [] := by simp [lvS]
    rw [e0, List.append_nil] at ht l4 ⊢
    have p := hc.pos
    refine ⟨[(x, done ++ [.nm w y])], .one, ?_, ?_⟩
    · rw [List.length_append] at hw ⊢
      simp only [List.length_cons, List.length_nil]
      omega
    · rw [lnS]
      exact .cons (.stage (s := .nm w y) hc (by omega) l4 trivial ho (by rw [lnS]) (okR_snoc _ _ _ hd ho) h5 hl) .nil
  | .nu w y, x, done, S, tw, tak, hc, hd, ho, h5, hl, ht, hw => by
    have l4 := ht.len
    have e0 : lvS (.nu w y) = [] := by simp [lvS]
    rw [e0, List.append_nil] at ht l4 ⊢
    have p := hc.pos
    refine ⟨[(x, done ++ [.nu w y])], .one, ?_, ?_⟩
    · rw [List.length_append] at hw ⊢
      simp only [List.length_cons, List.length_nil]
      omega
    · rw [lnS]
      exact .cons (.stage (s := .nu w y) hc (by omega) l4 trivial ho (by rw [lnS]) (okR_snoc _ _ _ hd ho) h5 hl) .nil
  | .flat, x, done, S, tw, tak, hc, hd, ho, h5, hl, ht, hw => by
    have l4 := ht.len
    have e0 : lvS (.flat) = [] := by simp [lvS]
    rw [e0, List.append_nil] at ht l4 ⊢
    have p := hc.pos
    refine ⟨[(x, done ++ [.flat])], .one, ?_, ?_⟩
    · rw [List.length_append] at hw ⊢
      simp only [List.length_cons, List.length_nil]
      omega
    · rw [lnS]
      exact .cons (.stage (s := .flat) hc (by omega) l4 trivial ho (by rw [lnS]) (okR_snoc _ _ _ hd ho) h5 hl) .nil
  | .zip x' r', x, done, S, tw, tak, hc, hd, ho, h5, hl, ht, hw => by
    have l4 := ht.len
    rw [okS] at ho
    rw [lvR_snoc, lvS] at hl
    rw [lvS] at ht l4 ⊢
    rw [List.length_append, List.length_cons] at l4
    have p := hc.pos
    have hx' : x' ∈ sources := ht.2 x' (by simp)
    have nx' : x' ∉ tak := fun z => (List.nodup_append.mp ht.1).2.2 x' z x' (by simp) rfl
    have hl' : LsOk (x' :: lvR r') := hl.sub (List.Sublist.trans (List.sublist_append_right _ _) (List.sublist_cons_self _ _))
    have ht2 : LsOk ((tak ++ [x']) ++ lvR r') := by
      rw [List.append_assoc]
      exact ht
    rw [List.length_append] at hw
    obtain ⟨tw2, c2, w2, R2⟩ := reads_row r' x' [] ((x, done) :: S) [(x', [])] (tak ++ [x']) .one (by rw [okR]; trivial) (by rw [hgR]; exact ho.2) (by simpa using ho.1) (by simpa using hl') ht2 (by simp only [List.length_append, List.length_cons, List.length_nil]; omega)
    refine ⟨tw2 ++ [(x, done)], .more c2 ho.2 ho.1 hl' h5, ?_, ?_⟩
    · simp only [List.length_append, List.length_cons, List.length_nil] at w2 ⊢
      omega
    · rw [lnS, List.map_cons, List.map_map]
      refine .cons (.zip hc (by rw [List.length_append]; omega) (by omega) h5) ?_
      have e : ((("from " : Str) ++ x') :: lnR r').map ((fun l => ind S.length ++ l) ∘ fun l => ("  " : Str) ++ l) = (ind ((x, done) :: S).length ++ (("from " : Str) ++ x')) :: (lnR r').map fun l => ind ((x, done) :: S).length ++ l := by
        have q : ((fun l => ind S.length ++ l) ∘ fun l => ("  " : Str) ++ l) = fun l => ind ((x, done) :: S).length ++ l := by
          funext l
          exact ind_succ _ l
        rw [q]
        rfl
      rw [e]
      refine .cons (.open_ (by simp) (by simp only [List.length_cons]; omega) (by omega) hx' nx') ?_
      have e2 : tw2 ++ [(x, done)] ++ S = tw2 ++ (x, done) :: S := by rw [List.append_assoc]; rfl
      have e3 : tak ++ x' :: lvR r' = (tak ++ [x']) ++ lvR r' := by rw [List.append_assoc]; rfl
      rw [e2, e3]
      exact R2
theorem reads_row : ∀ (r : List Sx) (x : Str) (done : List Sx) (S tw : List (Str × List Sx)) (tak : List Str), Clo tw x done → okR 0 done → okR (hgR 0 done) r → (done ++ r).length ≤ 6 → LsOk (x :: lvR (done ++ r)) → LsOk (tak ++ lvR r) → (tw ++ S).length ≤ tak.length →
    ∃ tw', Clo tw' x (done ++ r) ∧ (tw' ++ S).length ≤ (tak ++ lvR r).length ∧ Reads ⟨tw ++ S, false, tak⟩ ((lnR r).map fun l => ind S.length ++ l) ⟨tw' ++ S, false, tak ++ lvR r⟩
  | [], x, done, S, tw, tak, hc, hd, ho, h6, hl, ht, hw => by
    rw [lvR, List.append_nil, List.append_nil, lnR]
    exact ⟨tw, hc, hw, .nil⟩
  | s :: r, x, done, S, tw, tak, hc, hd, ho, h6, hl, ht, hw => by
    rw [okR] at ho
    have e1 : done ++ s :: r = (done ++ [s]) ++ r := by rw [List.append_assoc]; rfl
    rw [e1] at hl h6
    have lvApp : ∀ (a b : List Sx), lvR (a ++ b) = lvR a ++ lvR b := by
      intro a b
      induction a with
      | nil => rw [lvR]; rfl
      | cons c a ih => rw [List.cons_append, lvR, lvR, ih, List.append_assoc]
    rw [lvR, ← List.append_assoc] at ht
    have hl1 : LsOk (x :: lvR (done ++ [s])) := by
      rw [lvApp] at hl
      exact hl.sub (List.Sublist.cons_cons _ (List.sublist_append_left _ _))
    have h5 : done.length ≤ 5 := by
      rw [List.length_append, List.length_append, List.length_cons] at h6
      omega
    obtain ⟨tw1, c1, w1, R1⟩ := reads_stage s x done S tw tak hc hd ho.1 h5 hl1 (ht.sub (List.sublist_append_left _ _)) hw
    obtain ⟨tw2, c2, w2, R2⟩ := reads_row r x (done ++ [s]) S tw1 (tak ++ lvS s) c1 (okR_snoc _ _ _ hd ho.1) (by rw [hgR_snoc]; exact ho.2) h6 hl ht w1
    rw [e1, lvR, ← List.append_assoc, lnR, List.map_append]
    exact ⟨tw2, c2, w2, R1.app R2⟩
end
/-- the text's lines, read from the start -/
theorem reads_text {x : Str} {r : List Sx} (ho : okR 0 r) (h6 : r.length ≤ 6) (hl : LsOk (x :: lvR r)) : ∃ tw, Clo tw x r ∧ tw.length ≤ 4 ∧ Reads ⟨[], false, []⟩ (lnP x r) ⟨tw, false, x :: lvR r⟩ := by
  obtain ⟨tw, c, w, R⟩ := reads_row r x [] [] [(x, [])] [x] .one (by rw [okR]; trivial) (by rw [hgR]; exact ho) (by simpa using h6) (by simpa using hl) (by simpa using hl) (by simp)
  have l4 := hl.len
  rw [List.append_nil] at w
  refine ⟨tw, c, Nat.le_trans w (by simpa using l4), ?_⟩
  have e : (lnR r).map (fun l => ind ([] : List (Str × List Sx)).length ++ l) = lnR r := by
    have q : (fun l => ind ([] : List (Str × List Sx)).length ++ l) = fun l => l := by
      funext l
      exact ind_zero l
    rw [q, List.map_id']
  rw [e] at R
  simp only [List.append_nil] at R
  exact .cons (.start (hl.2 x (by simp))) R
/-! ### a stage's line -/
theorem word_free : ∀ w ∈ named ++ counted, (32 ∉ tl w) ∧ Body w ∧ w.length ≤ 8 := by
  have key : ∀ w ∈ named ++ counted, (32 ∉ tl w) ∧ (tl w).head? ≠ some 32 ∧ (tl w).head? ≠ none ∧ w.length ≤ 8 := by decide +kernel
  intro w hw
  obtain ⟨h1, h2, h3, h4⟩ := key w hw
  refine ⟨h1, ?_, h4⟩
  cases e : tl w with
  | nil => rw [e] at h3; exact absurd rfl h3
  | cons c r =>
    refine ⟨c, r, e, ?_⟩
    rintro rfl
    rw [e] at h2
    exact h2 rfl
theorem name_free {x : Str} (h : nameB x = true) : 32 ∉ tl x := by
  unfold nameB at h
  obtain ⟨_, h⟩ := Bool.and_eq_true_iff.mp h
  obtain ⟨_, h⟩ := Bool.and_eq_true_iff.mp h
  intro z
  have q := of_decide_eq_true (List.all_eq_true.mp h 32 z)
  exact absurd q (by decide +kernel)
theorem numI : ∀ {n : Int}, 1 ≤ n → n ≤ 4 → 32 ∉ tl (strI n) ∧ PySem.intText? (strI n) = some n ∧ strI n ∈ ([1, 2, 3, 4] : List Int).map strI := by
  intro n h1 h4
  have : n = 1 ∨ n = 2 ∨ n = 3 ∨ n = 4 := by omega
  rcases this with rfl | rfl | rfl | rfl
  · exact ⟨by decide +kernel, TL.int_num (n := 1) (by decide +kernel), by decide +kernel⟩
  · exact ⟨by decide +kernel, TL.int_num (n := 2) (by decide +kernel), by decide +kernel⟩
  · exact ⟨by decide +kernel, TL.int_num (n := 3) (by decide +kernel), by decide +kernel⟩
  · exact ⟨by decide +kernel, TL.int_num (n := 4) (by decide +kernel), by decide +kernel⟩
theorem split2 {a b : Str} (ha : 32 ∉ tl a) (hb : 32 ∉ tl b) : Txt.split (a ++ (" " : Str) ++ b) " " = [a, b] := by
  have q := TL.split_join (y := (" " : Str)) (s := 32) (S := []) (by decide +kernel) (by decide +kernel) (parts := [a, b]) (by simp) (by
    intro p hp
    rcases List.mem_cons.mp hp with e | hp
    · rw [e]; exact ha
    · rw [List.mem_singleton.mp hp]; exact hb)
  rw [TL.join_eq] at q
  exact q
theorem body_app {a b : Str} (h : Body a) : Body (a ++ b) := by
  obtain ⟨c, r, e, hc⟩ := h
  exact ⟨c, r ++ tl b, by rw [tl_append, e]; rfl, hc⟩
theorem two_ne_flat {a b : Str} (h : a ++ (" " : Str) ++ b = "flat") : False := by
  have e := congrArg tl h
  rw [tl_append, tl_append] at e
  have : 32 ∈ tl ("flat" : Str) := by
    rw [← e]
    exact List.mem_append_left _ (List.mem_append_right _ (by decide +kernel))
  exact absurd this (by decide +kernel)
theorem two_ne_zip {a b : Str} (h : a ++ (" " : Str) ++ b = "zip") : False := by
  have e := congrArg tl h
  rw [tl_append, tl_append] at e
  have : 32 ∈ tl ("zip" : Str) := by
    rw [← e]
    exact List.mem_append_left _ (List.mem_append_right _ (by decide +kernel))
  exact absurd this (by decide +kernel)
theorem body_of {s : Sx} {b : Str} {d : Int} (hp : s.plain) (ho : okS d s) (h : lnS s = [b]) : Body b ∧ b.length ≤ 30 ∧ b ≠ "zip" := by
  cases s with
  | nm w x =>
    rw [okS] at ho
    rw [lnS] at h
    have e : b = w ++ (" " : Str) ++ x := by simpa using h.symm
    obtain ⟨h1, h2, h3⟩ := word_free w (List.mem_append_left _ ho.1)
    have k2 := nameB_len ho.2
    refine ⟨by rw [e]; exact body_app (body_app h2), ?_, fun z => two_ne_zip (e.symm.trans z)⟩
    rw [e, str_len_app, str_len_app]
    have : (" " : Str).length = 1 := by decide +kernel
    omega
  | nu w n =>
    rw [okS] at ho
    rw [lnS] at h
    have e : b = w ++ (" " : Str) ++ strI n := by simpa using h.symm
    obtain ⟨h1, h2, h3⟩ := word_free w (List.mem_append_right _ ho.1)
    have k2 := strI_len ho.2.1 ho.2.2
    refine ⟨by rw [e]; exact body_app (body_app h2), ?_, fun z => two_ne_zip (e.symm.trans z)⟩
    rw [e, str_len_app, str_len_app]
    have : (" " : Str).length = 1 := by decide +kernel
    omega
  | flat =>
    rw [lnS] at h
    have e : b = "flat" := by simpa using h.symm
    rw [e]
    exact ⟨⟨102, [108, 97, 116], by decide +kernel, by decide⟩, by decide +kernel, by decide +kernel⟩
  | zip _ _ => exact hp.elim
/-! ### no line has a line's end in it -/
theorem nl_app {a b : Str} (ha : 10 ∉ tl a) (hb : 10 ∉ tl b) : 10 ∉ tl (a ++ b) := by
  rw [tl_append]
  intro z
  rcases List.mem_append.mp z with z | z
  · exact ha z
  · exact hb z
theorem nl_name {x : Str} (h : nameB x = true) : 10 ∉ tl x := by
  unfold nameB at h
  obtain ⟨_, h⟩ := Bool.and_eq_true_iff.mp h
  obtain ⟨_, h⟩ := Bool.and_eq_true_iff.mp h
  intro z
  have q := of_decide_eq_true (List.all_eq_true.mp h 10 z)
  exact absurd q (by decide +kernel)
mutual
theorem lnS_nl : ∀ (s : Sx) (d : Int), okS d s → LsOk (lvS s) → ∀ l ∈ lnS s, 10 ∉ tl l
  | .nm w x, _, h, _, l, hl => by
    rw [okS] at h
    have key : ∀ w ∈ named, 10 ∉ tl w := by decide +kernel
    have e : l = w ++ (" " : Str) ++ x := by simpa [lnS] using hl
    rw [e]
    exact nl_app (nl_app (key w h.1) (by decide +kernel)) (nl_name h.2)
  | .nu w n, _, h, _, l, hl => by
    rw [okS] at h
    have key : ∀ w ∈ counted, 10 ∉ tl w := by decide +kernel
    have e : l = w ++ (" " : Str) ++ strI n := by simpa [lnS] using hl
    rw [e]
    refine nl_app (nl_app (key w h.1) (by decide +kernel)) ?_
    have h1 := h.2.1
    have h4 := h.2.2
    have : n = 1 ∨ n = 2 ∨ n = 3 ∨ n = 4 := by omega
    rcases this with rfl | rfl | rfl | rfl <;> decide +kernel
  | .flat, _, _, _, l, hl => by
    have e : l = "flat" := by simpa [lnS] using hl
    rw [e]
    decide +kernel
  | .zip s r, _, h, g, l, hl => by
    rw [okS] at h
    rw [lvS] at g
    rw [lnS] at hl
    rcases List.mem_cons.mp hl with e | hl
    · rw [e]
      decide +kernel
    · obtain ⟨m, hm, rfl⟩ := List.mem_map.mp hl
      refine nl_app (by decide +kernel) ?_
      rcases List.mem_cons.mp hm with e | hm
      · have key : ∀ s ∈ sources, 10 ∉ tl s := by decide +kernel
        rw [e]
        exact nl_app (by decide +kernel) (key s (g.2 s (by simp)))
      · exact lnR_nl r 0 h.2 (g.sub (List.sublist_cons_self _ _)) m hm
theorem lnR_nl : ∀ (r : List Sx) (d : Int), okR d r → LsOk (lvR r) → ∀ l ∈ lnR r, 10 ∉ tl l
  | [], _, _, _, l, hl => by simp [lnR] at hl
  | s :: r, d, h, g, l, hl => by
    rw [okR] at h
    rw [lvR] at g
    rw [lnR] at hl
    rcases List.mem_append.mp hl with hl | hl
    · exact lnS_nl s d h.1 (g.sub (List.sublist_append_left _ _)) l hl
    · exact lnR_nl r _ h.2 (g.sub (List.sublist_append_right _ _)) l hl
end
theorem split_text {x : Str} {r : List Sx} (ho : okR 0 r) (hl : LsOk (x :: lvR r)) : Txt.split (Txt.join "\n" (lnP x r)) "\n" = lnP x r :=
  TL.split_join (y := ("\n" : Str)) (s := 10) (S := []) (by decide +kernel) (by decide +kernel) (by unfold lnP; simp) (by
    intro p hp
    rcases List.mem_cons.mp hp with e | hp
    · have key : ∀ s ∈ sources, 10 ∉ tl s := by decide +kernel
      rw [e]
      exact nl_app (by decide +kernel) (key x (hl.2 x (by simp)))
    · exact lnR_nl r 0 ho (hl.sub (List.sublist_cons_self _ _)) p hp)
theorem join_len (y : Str) : ∀ l : List Str, (Str.join y l).length ≤ (l.map (·.length)).sum + l.length * y.length := StrLaws.join_length_le y
end Lw
namespace Lw
open PySem PySem.Spec PyProof.Rows L2 TL
/-! ### the reader as it stands in the heap -/
structure RcF (K : PySem.W.Frag) (C : Addr) : Prop where
  cl : Cls K C
  nT : NoAttr K C "taken"
  nL : NoAttr K C "levels"
/-- the levels, the innermost first: each a tuple (source, list of stages) -/
def LvL (C : Addr) (K : PySem.W.Frag) (H : Hp) : List (Str × List Sx) → List (Addr × Addr) → Prop
  | [], es => es = []
  | (s, r) :: st, es => ∃ t l es', es = (t, l) :: es' ∧ SqT K H t [.str s, .ref l] ∧ (∃ vs, H l = some (.lst vs) ∧ RwP C K H r vs) ∧ LvL C K H st es'
theorem LvL.mono {C : Addr} {K : PySem.W.Frag} {H H' : Hp} (k : KP C H H') : ∀ {st : List (Str × List Sx)} {es : List (Addr × Addr)}, (∀ e ∈ es, ∀ vs, H e.2 = some (.lst vs) → H' e.2 = some (.lst vs)) → LvL C K H st es → LvL C K H' st es
  | [], _, _, h => h
  | (s, r) :: st, _, n, ⟨t, l, es', e, h1, ⟨vs, h2, h3⟩, h4⟩ => by
    subst e
    exact ⟨t, l, es', rfl, sqT_kp k h1, ⟨vs, n (t, l) (by simp) vs h2, RwP.kp k r h3⟩, LvL.mono k (fun e he => n e (by simp [he])) h4⟩
theorem LvL.len {C : Addr} {K : PySem.W.Frag} {H : Hp} : ∀ {st : List (Str × List Sx)} {es : List (Addr × Addr)}, LvL C K H st es → es.length = st.length
  | [], _, h => by rw [show _ = [] from h]; rfl
  | _ :: st, _, ⟨_, _, _, e, _, _, h⟩ => by rw [e, List.length_cons, List.length_cons, LvL.len h]
theorem LvL.lst {C : Addr} {K : PySem.W.Frag} {H : Hp} : ∀ {st : List (Str × List Sx)} {es : List (Addr × Addr)}, LvL C K H st es → ∀ e ∈ es, ∃ vs, H e.2 = some (.lst vs)
  | [], _, h, e, he => by rw [show _ = [] from h] at he; cases he
  | _ :: st, _, ⟨t, l, es', ee, _, ⟨vs, h2, _⟩, h⟩, e, he => by
    rw [ee] at he
    rcases List.mem_cons.mp he with z | z
    · rw [z]
      exact ⟨vs, h2⟩
    · exact LvL.lst h e z
structure RdH (CR C : Addr) (K : PySem.W.Frag) (rd dx tk lv : Addr) (H : Hp) (s : RS) (es : List (Addr × Addr)) : Prop where
  hR : H rd = some (.ins CR dx [("taken", .ref tk), ("levels", .ref lv)])
  hT : H tk = some (.lst (s.tak.map V.str))
  hV : H lv = some (.lst ((es.reverse.map fun e => V.ref e.1) ++ if s.pend then [.non] else []))
  hL : LvL C K H s.st es
  nd : (tk :: lv :: es.map (·.2)).Nodup
/-- the addresses that the reader changes -/
def fpR (tk lv : Addr) (es : List (Addr × Addr)) : List Addr := tk :: lv :: es.map (·.2)
theorem RdH.same {CR C : Addr} {K : PySem.W.Frag} {rd dx tk lv : Addr} {H H' : Hp} {s : RS} {es : List (Addr × Addr)} (e : Same H H') (h : RdH CR C K rd dx tk lv H s es) : RdH CR C K rd dx tk lv H' s es :=
  ⟨e _ _ h.hR, e _ _ h.hT, e _ _ h.hV, LvL.mono (KP.of e) (fun _ _ _ h => e _ _ h) h.hL, h.nd⟩
/-- what the reader's step keeps: all but its own lists; new lists are new -/
def StepR (CR C : Addr) (K : PySem.W.Frag) (rd dx tk lv : Addr) (H : Hp) (es : List (Addr × Addr)) (s' : RS) (H' : Hp) : Prop :=
  ∃ es', RdH CR C K rd dx tk lv H' s' es' ∧ But (fpR tk lv es) H H' ∧ (∀ e ∈ es', e ∈ es ∨ H e.2 = none) ∧ ∀ a, H' a = none → H a = none
theorem StepR.trans {CR C : Addr} {K : PySem.W.Frag} {rd dx tk lv : Addr} {H H1 H2 : Hp} {es es1 : List (Addr × Addr)} {s2 : RS} (b : But (fpR tk lv es) H H1) (n : ∀ e ∈ es1, e ∈ es ∨ H e.2 = none) (g : ∀ a, H1 a = none → H a = none) (h : StepR CR C K rd dx tk lv H1 es1 s2 H2) : StepR CR C K rd dx tk lv H es s2 H2 := by
  obtain ⟨es2, h1, h2, h3, h4⟩ := h
  have key : ∀ a, a ∈ fpR tk lv es1 → a ∈ fpR tk lv es ∨ H a = none := by
    intro a ha
    unfold fpR at ha ⊢
    rcases List.mem_cons.mp ha with e | ha
    · exact .inl (by simp [e])
    rcases List.mem_cons.mp ha with e | ha
    · exact .inl (by simp [e])
    · obtain ⟨e, he, rfl⟩ := List.mem_map.mp ha
      rcases n e he with q | q
      · exact .inl (List.mem_cons_of_mem _ (List.mem_cons_of_mem _ (List.mem_map_of_mem q)))
      · exact .inr q
  refine ⟨es2, h1, fun a o na e => ?_, fun e he => ?_, fun a ha => g a (h4 a ha)⟩
  · have e1 := b a o na e
    refine h2 a o (fun z => ?_) e1
    rcases key a z with q | q
    · exact na q
    · rw [q] at e
      cases e
  · rcases h3 e he with q | q
    · exact n e q
    · exact .inr (g _ q)
theorem StepR.of {CR C : Addr} {K : PySem.W.Frag} {rd dx tk lv : Addr} {H H1 H2 : Hp} {es : List (Addr × Addr)} {s2 : RS} (b : Same H H1) (h : StepR CR C K rd dx tk lv H1 es s2 H2) : StepR CR C K rd dx tk lv H es s2 H2 :=
  .trans (.of b) (fun _ he => .inl he) (fun _ n => none_same b n) h
theorem RdH.ne {CR C : Addr} {K : PySem.W.Frag} {rd dx tk lv : Addr} {H : Hp} {s : RS} {es : List (Addr × Addr)} (h : RdH CR C K rd dx tk lv H s es) : rd ≠ tk ∧ rd ≠ lv ∧ tk ≠ lv ∧ (∀ e ∈ es, e.2 ≠ tk ∧ e.2 ≠ lv ∧ e.2 ≠ rd) := by
  have n := List.nodup_cons.mp h.nd
  have n2 := List.nodup_cons.mp n.2
  refine ⟨?_, ?_, ?_, fun e he => ⟨?_, ?_, ?_⟩⟩
  · rintro rfl
    have := h.hR.symm.trans h.hT
    cases this
  · rintro rfl
    have := h.hR.symm.trans h.hV
    cases this
  · rintro rfl
    exact n.1 (by simp)
  · rintro rfl
    exact n.1 (List.mem_cons_of_mem _ (List.mem_map_of_mem he))
  · rintro rfl
    exact n2.1 (List.mem_map_of_mem he)
  · rintro rfl
    obtain ⟨vs, q⟩ := h.hL.lst e he
    have := h.hR.symm.trans q
    cases this
theorem step_begin {CR C : Addr} {K : PySem.W.Frag} {rd dx tk lv t l : Addr} {H : Hp} {S : List (Str × List Sx)} {tak : List Str} {es : List (Addr × Addr)} {s : Str} (R : RdH CR C K rd dx tk lv H ⟨S, false, tak⟩ es) (hl : (upd H tk (.lst (tak.map V.str ++ [V.str s]))) l = none)
    (ht : (upd (upd H tk (.lst (tak.map V.str ++ [V.str s]))) l (.lst [])) t = none) :
    StepR CR C K rd dx tk lv H es ⟨(s, []) :: S, false, tak ++ [s]⟩ (upd (upd (upd (upd H tk (.lst (tak.map V.str ++ [V.str s]))) l (.lst [])) t (.tup [.str s, .ref l])) lv (.lst ((es.reverse.map fun e => V.ref e.1) ++ [] ++ [.ref t]))) := by
  obtain ⟨n1, n2, n3, n4⟩ := R.ne
  have lt : l ≠ tk := by
    rintro rfl
    rw [upd_same] at hl
    cases hl
  rw [upd_ne lt] at hl
  have tl0 : t ≠ l := by
    rintro rfl
    rw [upd_same] at ht
    cases ht
  rw [upd_ne tl0] at ht
  have tt : t ≠ tk := by
    rintro rfl
    rw [upd_same] at ht
    cases ht
  rw [upd_ne tt] at ht
  have l1 : l ≠ lv := by rintro rfl; rw [R.hV] at hl; cases hl
  have l2 : l ≠ rd := by rintro rfl; rw [R.hR] at hl; cases hl
  have t1 : t ≠ lv := by rintro rfl; rw [R.hV] at ht; cases ht
  have t2 : t ≠ rd := by rintro rfl; rw [R.hR] at ht; cases ht
  have b : But (fpR tk lv es) H (upd (upd (upd (upd H tk (.lst (tak.map V.str ++ [V.str s]))) l (.lst [])) t (.tup [.str s, .ref l])) lv (.lst ((es.reverse.map fun e => V.ref e.1) ++ [] ++ [.ref t]))) :=
    (((But.upd (by simp [fpR])).updN hl).updN ht).trans (.upd (by simp [fpR]))
  have kp : KP C H (upd (upd (upd (upd H tk (.lst (tak.map V.str ++ [V.str s]))) l (.lst [])) t (.tup [.str s, .ref l])) lv (.lst ((es.reverse.map fun e => V.ref e.1) ++ [] ++ [.ref t]))) := by
    refine b.kp ?_
    intro a ha o ho
    unfold fpR at ha
    rcases List.mem_cons.mp ha with e | ha
    · rw [e, R.hT] at ho; cases ho; exact id
    rcases List.mem_cons.mp ha with e | ha
    · rw [e, R.hV] at ho; cases ho; exact id
    · obtain ⟨e, he, rfl⟩ := List.mem_map.mp ha
      obtain ⟨vs, q⟩ := R.hL.lst e he
      rw [q] at ho; cases ho; exact id
  refine ⟨(t, l) :: es, ⟨?_, ?_, ?_, ?_, ?_⟩, b, ?_, ?_⟩
  · rw [upd_ne n2, upd_ne t2.symm, upd_ne l2.symm, upd_ne n1]; exact R.hR
  · rw [upd_ne n3, upd_ne tt.symm, upd_ne lt.symm, upd_same, List.map_append]; rfl
  · rw [upd_same, List.reverse_cons, List.map_append, List.append_nil]
    simp
  · refine ⟨t, l, es, rfl, SqT.of (by rw [upd_ne t1, upd_same]), ⟨[], by rw [upd_ne l1, upd_ne tl0.symm, upd_same], by rw [RwP]⟩, LvL.mono kp ?_ R.hL⟩
    intro e he vs q
    obtain ⟨m1, m2, m3⟩ := n4 e he
    rw [upd_ne m2, upd_ne (by rintro z; rw [z, ht] at q; cases q), upd_ne (by rintro z; rw [z, hl] at q; cases q), upd_ne m1]
    exact q
  · have nd := R.nd
    show (tk :: lv :: l :: es.map (·.2)).Nodup
    have h1 := List.nodup_cons.mp nd
    have h2 := List.nodup_cons.mp h1.2
    refine List.nodup_cons.mpr ⟨?_, List.nodup_cons.mpr ⟨?_, List.nodup_cons.mpr ⟨?_, h2.2⟩⟩⟩
    · intro z
      rcases List.mem_cons.mp z with z | z
      · exact n3 z
      rcases List.mem_cons.mp z with z | z
      · exact lt z.symm
      · exact h1.1 (List.mem_cons_of_mem _ z)
    · intro z
      rcases List.mem_cons.mp z with z | z
      · exact l1 z.symm
      · exact h2.1 z
    · intro z
      obtain ⟨e, he, z⟩ := List.mem_map.mp z
      obtain ⟨vs, q⟩ := R.hL.lst e he
      rw [z, hl] at q
      cases q
  · intro e he
    rcases List.mem_cons.mp he with z | z
    · rw [z]; exact .inr hl
    · exact .inl z
  · intro a ha
    by_cases z1 : a = lv
    · rw [z1, upd_same] at ha; cases ha
    rw [upd_ne z1] at ha
    by_cases z2 : a = t
    · rw [z2]; exact ht
    rw [upd_ne z2] at ha
    by_cases z3 : a = l
    · rw [z3]; exact hl
    rw [upd_ne z3] at ha
    by_cases z4 : a = tk
    · rw [z4, upd_same] at ha; cases ha
    rw [upd_ne z4] at ha
    exact ha
theorem fp_kp {CR C : Addr} {K : PySem.W.Frag} {rd dx tk lv : Addr} {H H' : Hp} {s : RS} {es : List (Addr × Addr)} (R : RdH CR C K rd dx tk lv H s es) (b : But (fpR tk lv es) H H') : KP C H H' := b.kp (by
  intro a ha o ho
  unfold fpR at ha
  rcases List.mem_cons.mp ha with e | ha
  · rw [e, R.hT] at ho; cases ho; exact id
  rcases List.mem_cons.mp ha with e | ha
  · rw [e, R.hV] at ho; cases ho; exact id
  · obtain ⟨e, he, rfl⟩ := List.mem_map.mp ha
    obtain ⟨vs, q⟩ := R.hL.lst e he
    rw [q] at ho; cases ho; exact id)
/-- the levels' list changes, and the stages of the innermost level that stays -/
theorem step_top {CR C : Addr} {K : PySem.W.Frag} {rd dx tk lv t l : Addr} {H H1 : Hp} {st S : List (Str × List Sx)} {pend pend' : Bool} {tak : List Str} {es es1 es2 : List (Addr × Addr)} {x : Str} {r r' : List Sx} {vs : List V} (R : RdH CR C K rd dx tk lv H ⟨st ++ (x, r) :: S, pend, tak⟩ (es1 ++ (t, l) :: es2))
    (hst : st.length = es1.length) (he : es = es1 ++ (t, l) :: es2) (b : But (lv :: l :: []) H H1) (nv : ∀ a, H1 a = none → H a = none) (h1 : H1 lv = some (.lst ((((t, l) :: es2).reverse.map fun e => V.ref e.1) ++ if pend' then [.non] else []))) (h2 : H1 l = some (.lst vs)) (h3 : RwP C K H1 r' vs) :
    StepR CR C K rd dx tk lv H es ⟨(x, r') :: S, pend', tak⟩ H1 := by
  subst he
  obtain ⟨n1, n2, n3, n4⟩ := R.ne
  have hl := n4 (t, l) (by simp)
  have b2 : But (fpR tk lv (es1 ++ (t, l) :: es2)) H H1 := b.mono (by
    intro a ha
    unfold fpR
    rcases List.mem_cons.mp ha with e | ha
    · simp [e]
    · have e := List.mem_singleton.mp ha
      simp [e])
  have kp := fp_kp R b2
  have hD : ∀ {st : List (Str × List Sx)} {es1 : List (Addr × Addr)}, st.length = es1.length → LvL C K H (st ++ (x, r) :: S) (es1 ++ (t, l) :: es2) → LvL C K H ((x, r) :: S) ((t, l) :: es2) := by
    intro st
    induction st with
    | nil =>
      intro es1 h g
      match es1, h with
      | [], _ => exact g
    | cons a st ih =>
      intro es1 h g
      match es1, h with
      | e :: es1, h =>
        obtain ⟨_, _, _, e2, _, _, g2⟩ := g
        cases e2
        exact ih (by simpa using h) g2
  obtain ⟨t', l', es', e, g1, _, g3⟩ := hD hst R.hL
  cases e
  have nd := R.nd
  have ndl : (l :: es2.map (·.2)).Nodup := by
    have h1 := (List.nodup_cons.mp (List.nodup_cons.mp nd).2).2
    rw [List.map_append] at h1
    exact (List.nodup_append.mp h1).2.1
  refine ⟨(t, l) :: es2, ⟨?_, ?_, h1, ⟨t, l, es2, rfl, sqT_kp kp g1, ⟨vs, h2, h3⟩, LvL.mono kp ?_ g3⟩, ?_⟩, b2, fun e he => .inl (by simp [List.mem_append, List.mem_cons.mp he]), nv⟩
  · exact b _ _ (by simp [n2]; exact fun z => hl.2.2 z.symm) R.hR
  · exact b _ _ (by simp [n3]; exact fun z => hl.1 z.symm) R.hT
  · intro e he vs' q
    have m := n4 e (by simp [he])
    refine b _ _ ?_ q
    have nl : e.2 ≠ l := by
      intro z
      exact (List.nodup_cons.mp ndl).1 (by rw [← z]; exact List.mem_map_of_mem he)
    simp [m.2.1, nl]
  · show (tk :: lv :: l :: es2.map (·.2)).Nodup
    have q1 := List.nodup_cons.mp nd
    have q2 := List.nodup_cons.mp q1.2
    refine List.nodup_cons.mpr ⟨fun z => ?_, List.nodup_cons.mpr ⟨fun z => ?_, ndl⟩⟩
    · rcases List.mem_cons.mp z with z | z
      · exact n3 z
      · exact q1.1 (List.mem_cons_of_mem _ (by rw [List.map_append]; exact List.mem_append_right _ z))
    · exact q2.1 (by rw [List.map_append]; exact List.mem_append_right _ z)
/-- the levels' list gets its end changed -/
theorem step_pend {CR C : Addr} {K : PySem.W.Frag} {rd dx tk lv : Addr} {H : Hp} {S : List (Str × List Sx)} {p p' : Bool} {tak : List Str} {es : List (Addr × Addr)} {ys : List V} (R : RdH CR C K rd dx tk lv H ⟨S, p, tak⟩ es) (hy : ys = (es.reverse.map fun e => V.ref e.1) ++ if p' then [.non] else []) :
    RdH CR C K rd dx tk lv (upd H lv (.lst ys)) ⟨S, p', tak⟩ es ∧ But (fpR tk lv es) H (upd H lv (.lst ys)) ∧ ∀ a, (upd H lv (.lst ys)) a = none → H a = none := by
  obtain ⟨n1, n2, n3, n4⟩ := R.ne
  have b : But (fpR tk lv es) H (upd H lv (.lst ys)) := .upd (by simp [fpR])
  refine ⟨⟨?_, ?_, ?_, LvL.mono (fp_kp R b) (fun e he vs q => ?_) R.hL, R.nd⟩, b, fun a ha => ?_⟩
  · rw [upd_ne n2]; exact R.hR
  · rw [upd_ne n3]; exact R.hT
  · rw [upd_same, hy]
  · rw [upd_ne (n4 e he).2.1]; exact q
  · by_cases z : a = lv
    · rw [z, upd_same] at ha; cases ha
    · rw [upd_ne z] at ha; exact ha
end Lw
namespace Lw
open PySem PySem.Spec PyProof.Rows L2
/-! ### a function at any address that the head's look finds (a property's getter) -/
def fnWA (K : PySem.W.Frag) (a : Addr) : He.FnW := match K.lookup a with
  | some ⟨_, _, .func fd, _⟩ => some (fd.name, fd.qualname, fd.params, fd.body, fd.scope, fd.globals, fd.closure, fd.builtins)
  | _ => none
def okA (K : PySem.W.Frag) (a : Addr) (d : He.DefD) : Bool := PySem.W.keepIn K (.ref a) && (match K.lookup a with
  | some ⟨_, _, .func fd, _⟩ => PySem.W.codeIn K fd.code d.qual && (He.dflB K fd.defaults (d.dvs K) && He.kwdB K fd.kwdefaults (d.kws K))
  | _ => false)
theorem funA {K : PySem.W.Frag} {a : Addr} {d : He.DefD} (e : fnWA K a = d.val) (c : okA K a d = true) : ∃ fd, FunD K d.name d.qual d.params d.body d.scope (d.dvs K) (d.kws K) a fd := by
  unfold okA at c
  unfold fnWA at e
  obtain ⟨kp, c⟩ := Bool.and_eq_true_iff.mp c
  rcases q : K.lookup a with _ | ⟨oc, od, dt, sl⟩
  · rw [q] at c
    cases c
  · rw [q] at c e
    cases dt with
    | func fd =>
      obtain ⟨n1, n2, n3, n4, n5, n6, n7, n8, n9, n10, n11, n12, n13, n14, n15⟩ := fd
      dsimp only at c e
      unfold He.DefD.val at e
      injection e with e
      simp only [Prod.mk.injEq] at e
      obtain ⟨h1, h2, h3, h4, h5, h6, h7, h8⟩ := e
      subst h1 h2 h3 h4 h5 h6 h7 h8
      obtain ⟨k1, k2⟩ := Bool.and_eq_true_iff.mp c
      obtain ⟨k3, k4⟩ := Bool.and_eq_true_iff.mp k2
      exact ⟨_, ⟨oc, od, n8, n9, n10, n11, n12, n13, n14, sl, rfl, q, k1, He.dflB_ok k3, He.kwdB_ok k4⟩, kp⟩
    | _ => cases c
/-- the property f of the class at C: the object, its getter -/
def pobA (K : PySem.W.Frag) (C : Addr) (f : Str) : Addr := match PySem.W.findIn K (.ref C) f with
  | some (some (.ref p)) => p
  | _ => 0
def pgA (K : PySem.W.Frag) (C : Addr) (f : Str) : Addr := match PySem.W.recIn K (pobA K C f) "property" with
  | some (.ref g :: _) => g
  | _ => 0
def propB (K : PySem.W.Frag) (C : Addr) (f : Str) : Bool := decide (PySem.W.findIn K (.ref C) f = some (some (.ref (pobA K C f)))) && (decide (PySem.W.specialIn K (.ref (pobA K C f)) "__get__" = some (some (.builtin "property.__get__"))) &&
  (decide (PySem.W.takesIn K (.ref (pobA K C f)) = some true) && match PySem.W.recIn K (pobA K C f) "property" with
    | some (.ref g :: _) => decide (g = pgA K C f)
    | _ => false))
theorem propB_ok {K : PySem.W.Frag} {C : Addr} {f : Str} (h : propB K C f = true) : PropOf K C f (pobA K C f) (pgA K C f) := by
  unfold propB at h
  obtain ⟨h1, h⟩ := Bool.and_eq_true_iff.mp h
  obtain ⟨h2, h⟩ := Bool.and_eq_true_iff.mp h
  obtain ⟨h3, h⟩ := Bool.and_eq_true_iff.mp h
  refine ⟨of_decide_eq_true h1, of_decide_eq_true h2, of_decide_eq_true h3, ?_⟩
  rcases q : PySem.W.recIn K (pobA K C f) "property" with _ | l
  · rw [q] at h
    cases h
  · rw [q] at h
    match l, h with
    | .ref g :: rest, h =>
      have e : g = pgA K C f := of_decide_eq_true h
      exact ⟨rest, by rw [e]⟩
/-- a property of a class of the module: class, name, and its getter as a def -/
structure PgD where
  cls : Str
  d : He.DefD
def PgD.ad (K : PySem.W.Frag) (p : PgD) : Addr := pgA K (He.ga K p.cls) p.d.name
def PgD.ok (K : PySem.W.Frag) (p : PgD) : Bool := propB K (He.ga K p.cls) p.d.name && okA K (p.ad K) p.d
abbrev AlP : Type := AlZ × List He.FnW
def obP (n : Nat) (fa : List He.Fa) (fn : List He.DefD) (pg : List PgD) (ex : PySem.W.Frag → Bool) (g : Addr → Option Obj) : AlP :=
  ((He.obsD fa fn (kz n g), ex (kz n g) && (He.dictB (kz n g) sysModules && pg.all fun p => p.ok (kz n g))), pg.map fun p => fnWA (kz n g) (p.ad (kz n g)))
structure SaysP (fa : List He.Fa) (fn : List He.DefD) (pg : List PgD) (ex : PySem.W.Frag → Bool) (K : PySem.W.Frag) : Prop where
  d : He.SaysD fa fn K
  more : ex K = true
  sm : He.dictB K sysModules = true
  pok : (pg.all fun p => p.ok K) = true
  pval : (pg.map fun p => fnWA K (p.ad K)) = pg.map fun p => p.d.val
def hookP (n : Nat) (fa : List He.Fa) (fn : List He.DefD) (pg : List PgD) (ex : PySem.W.Frag → Bool) : PySem.W.Hook where
  α := AlP
  obs := fun s => obP n fa fn pg ex s.heap.get?
  val := fun _ => ((He.valD fn, true), pg.map fun p => p.d.val)
  says := fun _ h => ∃ K : PySem.W.Frag, K.In h ∧ SaysP fa fn pg ex K
  of := fun _ s e => by
    have e1 := congrArg (fun z : AlP => z.1.2) e
    obtain ⟨q1, q2⟩ := Bool.and_eq_true_iff.mp (show (ex (kz n s.heap.get?) && (He.dictB (kz n s.heap.get?) sysModules && pg.all fun p => p.ok (kz n s.heap.get?))) = true from e1)
    obtain ⟨q3, q4⟩ := Bool.and_eq_true_iff.mp q2
    exact ⟨kz n s.heap.get?, He.frT_in, congrArg (fun z : AlP => z.1.1) e, q1, q3, q4, congrArg Prod.snd e⟩
  keeps := fun _ _ _ ⟨K, hK, c⟩ k => ⟨K, PySem.W.Frag.In.keeps hK k, c⟩
theorem obP_eq {n : Nat} {fa : List He.Fa} {fn : List He.DefD} {pg : List PgD} {ex : PySem.W.Frag → Bool} {g : Addr → Option Obj} {s : Shared} (h : ∀ a, g a = s.heap.get? a) : obP n fa fn pg ex g = (hookP n fa fn pg ex).obs s := by
  have e : g = s.heap.get? := funext h
  subst e
  rfl
theorem SaysP.prop {fa : List He.Fa} {fn : List He.DefD} {pg : List PgD} {ex : PySem.W.Frag → Bool} {K : PySem.W.Frag} (c : SaysP fa fn pg ex K) (i : Nat) {p : PgD} (h : pg[i]? = some p := by rfl) :
    PropOf K (He.ga K p.cls) p.d.name (pobA K (He.ga K p.cls) p.d.name) (p.ad K) ∧ ∃ fd, FunD K p.d.name p.d.qual p.d.params p.d.body p.d.scope (p.d.dvs K) (p.d.kws K) (p.ad K) fd := by
  have h1 := List.all_eq_true.mp c.pok p (List.mem_of_getElem? h)
  obtain ⟨h2, h3⟩ := Bool.and_eq_true_iff.mp (show (propB K (He.ga K p.cls) p.d.name && okA K (p.ad K) p.d) = true from h1)
  have e : (pg.map fun p => fnWA K (p.ad K))[i]? = (pg.map fun p => p.d.val)[i]? := by rw [c.pval]
  rw [List.getElem?_map, List.getElem?_map, h] at e
  exact ⟨propB_ok h2, funA (Option.some.inj e) h3⟩
end Lw
namespace Lw
open PySem PySem.Spec PyProof.Rows L2

/-! ### data: what stands for good is data, what may still change is an address -/
inductive Dt where
  | non | bl (b : Bool) | int (i : Int) | str (x : Str)
  | tup (l : List Dt) | lst (l : List Dt)
  /-- an instance that is whole: its class, its attributes -/
  | obj (c : Str) (l : List Dt)
  | dic (k v : List Dt)
  | ptr (a : Addr) | ty (n : String)
  /-- the script -/
  | scr (l : List Int)
inductive Mo where
  | lst (l : List Dt)
  | dic (k v : List Dt)
  | ins (c : Str) (fs : List Str) (l : List Dt)
abbrev Mh := Addr → Option Mo
def updM (M : Mh) (a : Addr) (m : Mo) : Mh := fun b => if b = a then some m else M b
def delM (M : Mh) (a : Addr) : Mh := fun b => if b = a then none else M b
theorem updM_same {M : Mh} {a : Addr} {m : Mo} : updM M a m a = some m := if_pos rfl
theorem updM_ne {M : Mh} {a b : Addr} {m : Mo} (h : b ≠ a) : updM M a m b = M b := if_neg h
theorem delM_same {M : Mh} {a : Addr} : delM M a a = none := if_pos rfl
theorem delM_ne {M : Mh} {a b : Addr} (h : b ≠ a) : delM M a b = M b := if_neg h
theorem updM_upd {M : Mh} {a : Addr} {m m' : Mo} : updM (updM M a m) a m' = updM M a m' := by
  funext b; unfold updM; split <;> rfl
theorem delM_upd {M : Mh} {a : Addr} {m : Mo} (h : M a = none) : delM (updM M a m) a = M := by
  funext b
  unfold delM updM
  split
  · rename_i e; rw [e, h]
  · rfl
/-- the classes whose instances never change, once whole: their attributes in order -/
abbrev Tab := Str → Option (List Str)
structure Ev where
  K : PySem.W.Frag
  T : Tab
/-- what never changes -/
def Pm (U : Ev) : HO → Prop
  | .tup _ => True
  | .frz _ _ => True
  | .ins C _ fs => ∃ c, He.ga U.K c = C ∧ U.T c = some (fs.map (·.1))
  | _ => False
def SqS (K : PySem.W.Frag) (H : Hp) (a : Addr) (l : List Int) : Prop := (∃ o, H a = some (.frz o (.lst (l.map V.int)))) ∨
  ∃ (o : Obj) (its : Array Value) (n : Nat), K.lookup a = some o ∧ o.cls = .type "list" ∧ o.dict = none ∧ o.data = .seq its n ∧ its.size ≤ sizeLine ∧ Vals (l.map V.int) its.toList
theorem SqS.sql {K : PySem.W.Frag} {H : Hp} {a : Addr} {l : List Int} (h : SqS K H a l) : SqL K H a (l.map V.int) := by
  rcases h with ⟨o, h⟩ | h
  · exact .inl (.inr ⟨o, h⟩)
  · exact .inr h
mutual
inductive Rp (U : Ev) (H : Hp) : V → Dt → Prop
  | non : Rp U H .non .non
  | bl {b : Bool} : Rp U H (.bl b) (.bl b)
  | int {i : Int} : Rp U H (.int i) (.int i)
  | str {x : Str} : PyData.strOk x = true → x.length ≤ sizeLine → Rp U H (.str x) (.str x)
  | tup {a : Addr} {vs : List V} {l : List Dt} : SqT U.K H a vs → l.length ≤ sizeLine → Rps U H vs l → Rp U H (.ref a) (.tup l)
  | lst {a : Addr} {vs : List V} {l : List Dt} {o : Obj} : H a = some (.frz o (.lst vs)) → l.length ≤ sizeLine → Rps U H vs l → Rp U H (.ref a) (.lst l)
  | obj {a C dx : Addr} {fs : List (Str × V)} {c : Str} {l : List Dt} : H a = some (.ins C dx fs) → He.ga U.K c = C → U.T c = some (fs.map (·.1)) → Rps U H (fs.map (·.2)) l → Rp U H (.ref a) (.obj c l)
  | ptr {a : Addr} : Rp U H (.ref a) (.ptr a)
  | ty {n : String} : Rp U H (.ty n) (.ty n)
  | scr {a : Addr} {l : List Int} : SqS U.K H a l → l.length ≤ sizeLine → Rp U H (.ref a) (.scr l)
inductive Rps (U : Ev) (H : Hp) : List V → List Dt → Prop
  | nil : Rps U H [] []
  | cons {v : V} {vs : List V} {d : Dt} {ds : List Dt} : Rp U H v d → Rps U H vs ds → Rps U H (v :: vs) (d :: ds)
end
/-- what stands at an address that may change -/
def RpM (U : Ev) (H : Hp) (a : Addr) : Mo → Prop
  | .lst l => ∃ vs, H a = some (.lst vs) ∧ l.length ≤ sizeLine ∧ Rps U H vs l
  | .ins c ns l => ∃ dx fs, H a = some (.ins (He.ga U.K c) dx fs) ∧ fs.map (·.1) = ns ∧ (∀ c', He.ga U.K c' = He.ga U.K c → U.T c' ≠ some ns) ∧ Rps U H (fs.map (·.2)) l
  | .dic k v => k = [] ∧ v = [] ∧ H a = some (.dK [])
def MOk (U : Ev) (H : Hp) (M : Mh) : Prop := ∀ a m, M a = some m → RpM U H a m
theorem RpM.npm {U : Ev} {H : Hp} {a : Addr} {m : Mo} (h : RpM U H a m) : ∃ o, H a = some o ∧ ¬ Pm U o ∧ Mut (some o) := by
  cases m with
  | lst l => obtain ⟨vs, h, _⟩ := h; exact ⟨_, h, id, trivial⟩
  | ins c ns l =>
    obtain ⟨dx, fs, h, e, n, _⟩ := h
    refine ⟨_, h, ?_, trivial⟩
    rintro ⟨c', e', h'⟩
    exact n c' e' (by rw [h', e])
  | dic _ _ => exact ⟨_, h.2.2, id, trivial⟩
/-- what a step may do: all that is not to be changed stays; what is new was nowhere before -/
structure Go (M : Mh) (H : Hp) (M' : Mh) (H' : Hp) : Prop where
  keep : ∀ b o, H b = some o → M b = none → H' b = some o
  ext : ∀ b, M' b ≠ none → M b ≠ none ∨ H b = none
theorem Go.refl {M : Mh} {H : Hp} : Go M H M H := ⟨fun _ _ h _ => h, fun _ h => .inl h⟩
theorem Go.trans {M1 M2 M3 : Mh} {H1 H2 H3 : Hp} (a : Go M1 H1 M2 H2) (b : Go M2 H2 M3 H3) : Go M1 H1 M3 H3 := by
  refine ⟨fun c o h n => b.keep c o (a.keep c o h n) ?_, fun c h => ?_⟩
  · rcases q : M2 c with _ | m
    · rfl
    · rcases a.ext c (by rw [q]; exact Option.some_ne_none m) with z | z
      · exact absurd n z
      · rw [z] at h; cases h
  · rcases b.ext c h with z | z
    · exact a.ext c z
    · rcases q : M1 c with _ | m
      · rcases r : H1 c with _ | o
        · exact .inr rfl
        · rw [a.keep c o r q] at z; cases z
      · exact .inl (Option.some_ne_none m)
theorem Go.same {M : Mh} {H H' : Hp} (s : Same H H') : Go M H M H' := ⟨fun b o h _ => s b o h, fun _ h => .inl h⟩
theorem Go.new {M : Mh} {H : Hp} {p : Addr} {o : HO} (h : H p = none) : Go M H M (upd H p o) := .same (same_upd h)
theorem Go.newM {M : Mh} {H : Hp} {p : Addr} {o : HO} {m : Mo} (h : H p = none) : Go M H (updM M p m) (upd H p o) := ⟨fun b u e _ => same_upd h b u e, fun b e => by
  by_cases z : b = p
  · subst z; exact .inr h
  · rw [updM_ne z] at e; exact .inl e⟩
theorem Go.set {M : Mh} {H : Hp} {p : Addr} {o : HO} {m : Mo} (h : M p ≠ none) : Go M H (updM M p m) (upd H p o) := ⟨fun b u e n => by
  rw [upd_ne (by rintro rfl; exact h n)]; exact e, fun b e => by
  by_cases z : b = p
  · subst z; exact .inl h
  · rw [updM_ne z] at e; exact .inl e⟩
theorem Go.fz {M : Mh} {H : Hp} {p : Addr} {o : HO} (h : M p ≠ none) : Go M H (delM M p) (upd H p o) := ⟨fun b u e n => by
  rw [upd_ne (by rintro rfl; exact h n)]; exact e, fun b e => by
  by_cases z : b = p
  · subst z; exact .inl h
  · rw [delM_ne z] at e; exact .inl e⟩
theorem Go.pm {U : Ev} {M M' : Mh} {H H' : Hp} (g : Go M H M' H') (k : MOk U H M) {b : Addr} {o : HO} (h : H b = some o) (p : Pm U o) : H' b = some o := by
  refine g.keep b o h ?_
  rcases q : M b with _ | m
  · rfl
  · obtain ⟨u, e, n, _⟩ := (k b m q).npm
    rw [h] at e
    cases e
    exact absurd p n
def KPm (U : Ev) (H H' : Hp) : Prop := ∀ b o, H b = some o → Pm U o → H' b = some o
theorem Go.kp {U : Ev} {M M' : Mh} {H H' : Hp} (g : Go M H M' H') (k : MOk U H M) : KPm U H H' := fun _ _ h p => g.pm k h p
theorem sqT_k {U : Ev} {H H' : Hp} (s : KPm U H H') {a : Addr} {xs : List V} (h : SqT U.K H a xs) : SqT U.K H' a xs := by
  rcases h with (h | ⟨o, h⟩) | h
  · exact .inl (.inl (s _ _ h trivial))
  · exact .inl (.inr ⟨o, s _ _ h trivial⟩)
  · exact .inr h
mutual
theorem Rp.k {U : Ev} {H H' : Hp} (s : KPm U H H') : ∀ {v : V} {d : Dt}, Rp U H v d → Rp U H' v d
  | _, _, .non => .non
  | _, _, .bl => .bl
  | _, _, .int => .int
  | _, _, .str a b => .str a b
  | _, _, .tup a b c => .tup (sqT_k s a) b (Rps.k s c)
  | _, _, .lst a b c => .lst (s _ _ a trivial) b (Rps.k s c)
  | _, _, .obj a b c d => .obj (s _ _ a ⟨_, b, c⟩) b c (Rps.k s d)
  | _, _, .ptr => .ptr
  | _, _, .ty => .ty
  | _, _, .scr a b => .scr (by
    rcases a with ⟨o, a⟩ | a
    · exact .inl ⟨o, s _ _ a trivial⟩
    · exact .inr a) b
theorem Rps.k {U : Ev} {H H' : Hp} (s : KPm U H H') : ∀ {vs : List V} {ds : List Dt}, Rps U H vs ds → Rps U H' vs ds
  | _, _, .nil => .nil
  | _, _, .cons a b => .cons (Rp.k s a) (Rps.k s b)
end
theorem Rps.len {U : Ev} {H : Hp} : ∀ {vs : List V} {ds : List Dt}, Rps U H vs ds → vs.length = ds.length
  | _, _, .nil => rfl
  | _, _, .cons _ b => by rw [List.length_cons, List.length_cons, Rps.len b]
theorem Rps.get {U : Ev} {H : Hp} : ∀ {vs : List V} {ds : List Dt} {i : Nat} {d : Dt}, Rps U H vs ds → ds[i]? = some d → ∃ v, vs[i]? = some v ∧ Rp U H v d
  | _, _, _, _, .nil, h => by simp at h
  | _, _, 0, _, .cons a _, h => by cases h; exact ⟨_, rfl, a⟩
  | _, _, i + 1, _, .cons _ b, h => Rps.get (i := i) b h
theorem Rps.get' {U : Ev} {H : Hp} : ∀ {vs : List V} {ds : List Dt} {i : Nat} {v : V}, Rps U H vs ds → vs[i]? = some v → ∃ d, ds[i]? = some d ∧ Rp U H v d
  | _, _, _, _, .nil, h => by simp at h
  | _, _, 0, _, .cons a _, h => by cases h; exact ⟨_, rfl, a⟩
  | _, _, i + 1, _, .cons _ b, h => Rps.get' (i := i) b h
theorem Rps.app {U : Ev} {H : Hp} : ∀ {vs ws : List V} {ds es : List Dt}, Rps U H vs ds → Rps U H ws es → Rps U H (vs ++ ws) (ds ++ es)
  | _, _, _, _, .nil, q => q
  | _, _, _, _, .cons a b, q => .cons a (Rps.app b q)
theorem Rps.drop {U : Ev} {H : Hp} : ∀ (n : Nat) {vs : List V} {ds : List Dt}, Rps U H vs ds → Rps U H (vs.drop n) (ds.drop n)
  | 0, _, _, h => h
  | _ + 1, _, _, .nil => .nil
  | n + 1, _, _, .cons _ b => Rps.drop n b
theorem Rps.take {U : Ev} {H : Hp} : ∀ (n : Nat) {vs : List V} {ds : List Dt}, Rps U H vs ds → Rps U H (vs.take n) (ds.take n)
  | 0, _, _, h => .nil
  | _ + 1, _, _, .nil => .nil
  | n + 1, _, _, .cons a b => .cons a (Rps.take n b)
theorem Rps.set {U : Ev} {H : Hp} {v : V} {d : Dt} (r : Rp U H v d) : ∀ (n : Nat) {vs : List V} {ds : List Dt}, Rps U H vs ds → Rps U H (vs.set n v) (ds.set n d)
  | _, _, _, .nil => .nil
  | 0, _, _, .cons _ b => .cons r b
  | n + 1, _, _, .cons a b => .cons a (Rps.set r n b)
theorem Rps.del {U : Ev} {H : Hp} : ∀ (n : Nat) {vs : List V} {ds : List Dt}, Rps U H vs ds → Rps U H (vs.eraseIdx n) (ds.eraseIdx n)
  | _, _, _, .nil => .nil
  | 0, _, _, .cons _ b => b
  | n + 1, _, _, .cons a b => .cons a (Rps.del n b)
theorem MOk.step {U : Ev} {H H' : Hp} {M : Mh} (k : MOk U H M) (s : KPm U H H') (e : ∀ b m, M b = some m → H' b = H b) : MOk U H' M := by
  intro a m h
  have q := k a m h
  have e := e a m h
  cases m with
  | lst l => obtain ⟨vs, h1, h2, h3⟩ := q; exact ⟨vs, by rw [e]; exact h1, h2, h3.k s⟩
  | ins c ns l => obtain ⟨dx, fs, h1, h2, h3, h4⟩ := q; exact ⟨dx, fs, by rw [e]; exact h1, h2, h3, h4.k s⟩
  | dic _ _ => exact ⟨q.1, q.2.1, by rw [e]; exact q.2.2⟩
theorem MOk.new {U : Ev} {H : Hp} {M : Mh} {p : Addr} {o : HO} (k : MOk U H M) (h : H p = none) : MOk U (upd H p o) M :=
  k.step (fun b u e _ => same_upd h b u e) fun b m e => by
    obtain ⟨u, h1, _⟩ := (k b m e).npm
    exact upd_ne (ne_of_none h1 h)
theorem MOk.nw {U : Ev} {H : Hp} {M : Mh} {p : Addr} (k : MOk U H M) (h : H p = none) : M p = none := by
  rcases q : M p with _ | m
  · rfl
  · obtain ⟨u, h1, _⟩ := (k p m q).npm
    rw [h] at h1
    cases h1
theorem KPm.upd {U : Ev} {H : Hp} {M : Mh} {p : Addr} {o : HO} (k : MOk U H M) (h : M p ≠ none ∨ H p = none) : KPm U H (L2.upd H p o) := by
  rcases h with h | h
  · rcases q : M p with _ | m
    · exact absurd q h
    · obtain ⟨u, h1, n, _⟩ := (k p m q).npm
      intro b u' e pm
      rw [upd_ne]
      · exact e
      · rintro rfl
        rw [h1] at e
        cases e
        exact n pm
  · intro b u e _
    exact same_upd h b u e
/-- an object that may change is written anew -/
theorem MOk.put {U : Ev} {H : Hp} {M : Mh} {p : Addr} {o : HO} {m : Mo} (k : MOk U H M) (h : M p ≠ none ∨ H p = none) (new : RpM U (upd H p o) p m) : MOk U (upd H p o) (updM M p m) := by
  have s : KPm U H (upd H p o) := .upd k h
  intro a m' e
  by_cases z : a = p
  · subst z
    rw [updM_same] at e
    cases e
    exact new
  · rw [updM_ne z] at e
    have q := k a m' e
    have eh : upd H p o a = H a := upd_ne z
    cases m' with
    | lst l => obtain ⟨vs, h1, h2, h3⟩ := q; exact ⟨vs, by rw [eh]; exact h1, h2, h3.k s⟩
    | ins c ns l => obtain ⟨dx, fs, h1, h2, h3, h4⟩ := q; exact ⟨dx, fs, by rw [eh]; exact h1, h2, h3, h4.k s⟩
    | dic _ _ => exact ⟨q.1, q.2.1, by rw [eh]; exact q.2.2⟩
theorem MOk.del {U : Ev} {H : Hp} {M : Mh} {p : Addr} {o : HO} (k : MOk U H M) (h : M p ≠ none) : MOk U (upd H p o) (delM M p) := by
  have s : KPm U H (upd H p o) := .upd k (.inl h)
  intro a m' e
  by_cases z : a = p
  · subst z
    rw [delM_same] at e
    cases e
  · rw [delM_ne z] at e
    have q := k a m' e
    have eh : upd H p o a = H a := upd_ne z
    cases m' with
    | lst l => obtain ⟨vs, h1, h2, h3⟩ := q; exact ⟨vs, by rw [eh]; exact h1, h2, h3.k s⟩
    | ins c ns l => obtain ⟨dx, fs, h1, h2, h3, h4⟩ := q; exact ⟨dx, fs, by rw [eh]; exact h1, h2, h3, h4.k s⟩
    | dic _ _ => exact ⟨q.1, q.2.1, by rw [eh]; exact q.2.2⟩
theorem MOk.sub {U : Ev} {H : Hp} {M M' : Mh} (k : MOk U H M) (s : ∀ b m, M' b = some m → M b = some m) : MOk U H M' := fun a m e => k a m (s a m e)

/-! ### slots -/
abbrev Sl := List (Option Dt)
structure DEnv (U : Ev) (σ : L2.St) (H : Hp) (δ : Sl) (M : Mh) : Prop where
  len : σ.length = δ.length
  get : ∀ (i : Nat) (d : Dt), δ[i]? = some (some d) → ∃ v, σ[i]? = some (some v) ∧ Rp U H v d
  mem : MOk U H M
theorem DEnv.go {U : Ev} {σ : L2.St} {H H' : Hp} {δ : Sl} {M M' : Mh} (e : DEnv U σ H δ M) (g : Go M H M' H') (k : MOk U H' M') : DEnv U σ H' δ M' :=
  ⟨e.len, fun i d h => by obtain ⟨v, h1, h2⟩ := e.get i d h; exact ⟨v, h1, h2.k (g.kp e.mem)⟩, k⟩
theorem DEnv.set {U : Ev} {σ : L2.St} {H : Hp} {δ : Sl} {M : Mh} (e : DEnv U σ H δ M) (i : Nat) {v : V} {d : Dt} (r : Rp U H v d) : DEnv U (σ.set i (some v)) H (δ.set i (some d)) M := by
  refine ⟨by simp [e.len], fun j d' h => ?_, e.mem⟩
  by_cases z : i = j
  · subst z
    by_cases hl : i < δ.length
    · rw [List.getElem?_set_self hl] at h
      cases h
      exact ⟨v, List.getElem?_set_self (by rw [e.len]; exact hl), r⟩
    · rw [List.getElem?_eq_none (by simpa using hl)] at h
      cases h
  · rw [List.getElem?_set_ne z] at h
    rw [List.getElem?_set_ne z]
    exact e.get j d' h
/-! ### the judgements over data -/
abbrev WE := Sl → Mh → (Dt → Mh → Prop) → Prop
abbrev WT := Sl → Mh → (Bool → Mh → Prop) → Prop
abbrev WA := Sl → Mh → (List Dt → Mh → Prop) → Prop
structure De where
  nx : Sl → Mh → Prop
  rt : Dt → Mh → Prop
  bk : Sl → Mh → Prop := fun _ _ => False
  ct : Sl → Mh → Prop := fun _ _ => False
  /-- an error: its class, its attribute, the value -/
  ex : Str → Str → Dt → Mh → Prop := fun _ _ _ _ => False
abbrev WS := Sl → Mh → De → Prop
/-- how a wish about data makes one about values -/
def Lv (U : Ev) (M : Mh) (H : Hp) (R : Dt → Mh → Prop) (Q : VK) : Prop := ∀ v d M' H', Go M H M' H' → MOk U H' M' → Rp U H' v d → R d M' → Q v H'
def Lb (U : Ev) (M : Mh) (H : Hp) (R : Bool → Mh → Prop) (Q : Bool → Hp → Prop) : Prop := ∀ b M' H', Go M H M' H' → MOk U H' M' → R b M' → Q b H'
def La (U : Ev) (M : Mh) (H : Hp) (R : List Dt → Mh → Prop) (Q : List V → Hp → Prop) : Prop := ∀ vs ds M' H', Go M H M' H' → MOk U H' M' → Rps U H' vs ds → R ds M' → Q vs H'
structure Ls (U : Ev) (EX : XK) (M : Mh) (H : Hp) (R : De) (D : Ends) : Prop where
  nx : ∀ σ' H' δ' M', Go M H M' H' → DEnv U σ' H' δ' M' → R.nx δ' M' → D.nx σ' H'
  rt : ∀ v d M' H', Go M H M' H' → MOk U H' M' → Rp U H' v d → R.rt d M' → D.rt v H'
  bk : ∀ σ' H' δ' M', Go M H M' H' → DEnv U σ' H' δ' M' → R.bk δ' M' → D.bk σ' H'
  ct : ∀ σ' H' δ' M', Go M H M' H' → DEnv U σ' H' δ' M' → R.ct δ' M' → D.ct σ' H'
  ex : ∀ c f x v d M' H', Go M H M' H' → MOk U H' M' → H' d = some (.xd [(f, v)]) → Rp U H' v x → R.ex c f x M' → EX (.ref (He.ga U.K c)) (some d) H'
theorem Lv.go {U : Ev} {M M1 : Mh} {H H1 : Hp} {R : Dt → Mh → Prop} {Q : VK} (l : Lv U M H R Q) (g : Go M H M1 H1) : Lv U M1 H1 R Q := fun v d M' H' g' => l v d M' H' (g.trans g')
theorem Lb.go {U : Ev} {M M1 : Mh} {H H1 : Hp} {R : Bool → Mh → Prop} {Q : Bool → Hp → Prop} (l : Lb U M H R Q) (g : Go M H M1 H1) : Lb U M1 H1 R Q := fun v M' H' g' => l v M' H' (g.trans g')
theorem La.go {U : Ev} {M M1 : Mh} {H H1 : Hp} {R : List Dt → Mh → Prop} {Q : List V → Hp → Prop} (l : La U M H R Q) (g : Go M H M1 H1) : La U M1 H1 R Q := fun v d M' H' g' => l v d M' H' (g.trans g')
theorem Ls.go {U : Ev} {EX : XK} {M M1 : Mh} {H H1 : Hp} {R : De} {D : Ends} (l : Ls U EX M H R D) (g : Go M H M1 H1) : Ls U EX M1 H1 R D :=
  ⟨fun a b c d g' => l.nx a b c d (g.trans g'), fun a b c d g' => l.rt a b c d (g.trans g'), fun a b c d g' => l.bk a b c d (g.trans g'), fun a b c d g' => l.ct a b c d (g.trans g'), fun a b c d e f h g' => l.ex a b c d e f h (g.trans g')⟩
def tW (U : Ev) (W : WE) : TE := fun σ H Q => ∃ δ M R, DEnv U σ H δ M ∧ W δ M R ∧ Lv U M H R Q
def bW (U : Ev) (W : WT) : TT := fun σ H Q => ∃ δ M R, DEnv U σ H δ M ∧ W δ M R ∧ Lb U M H R Q
def aW (U : Ev) (W : WA) : TA := fun σ H Q => ∃ δ M R, DEnv U σ H δ M ∧ W δ M R ∧ La U M H R Q
def sW (U : Ev) (EX : XK) (W : WS) : TS := fun D σ H => ∃ δ M R, DEnv U σ H δ M ∧ W δ M R ∧ Ls U EX M H R D
abbrev DE (X : Cx) (U : Ev) (e : Expr) (W : WE) : Prop := PE X e (tW U W)
abbrev DT (X : Cx) (U : Ev) (e : Expr) (W : WT) : Prop := PT X e (bW U W)
abbrev DW (X : Cx) (U : Ev) (e : Expr) (W : WT) : Prop := PW X e (bW U W)
abbrev DA (X : Cx) (U : Ev) (es : List Expr) (W : WA) : Prop := PA X es (aW U W)
abbrev DS (X : Cx) (U : Ev) (EX : XK) (s : Stmt) (W : WS) : Prop := PS X s (sW U EX W)
abbrev DSs (X : Cx) (U : Ev) (EX : XK) (s : List Stmt) (W : WS) : Prop := PSs X s (sW U EX W)
theorem PE.mono {X : Cx} {e : Expr} {t t' : TE} (h : PE X e t) (m : ∀ σ H Q, t' σ H Q → t σ H Q) : PE X e t' := ⟨fun pins s σ H Q I z => h.run pins s σ H Q I (m _ _ _ z)⟩
theorem PT.mono {X : Cx} {e : Expr} {t t' : TT} (h : PT X e t) (m : ∀ σ H Q, t' σ H Q → t σ H Q) : PT X e t' := ⟨fun pins s σ H Q I z => h.run pins s σ H Q I (m _ _ _ z)⟩
theorem PW.mono {X : Cx} {e : Expr} {t t' : TT} (h : PW X e t) (m : ∀ σ H Q, t' σ H Q → t σ H Q) : PW X e t' := ⟨fun wh pins s σ H Q I z => h.run wh pins s σ H Q I (m _ _ _ z)⟩
theorem PA.mono {X : Cx} {e : List Expr} {t t' : TA} (h : PA X e t) (m : ∀ σ H Q, t' σ H Q → t σ H Q) : PA X e t' := ⟨fun pos pins s σ H Q I z => h.run pos pins s σ H Q I (m _ _ _ z)⟩
theorem PS.mono {X : Cx} {e : Stmt} {t t' : TS} (h : PS X e t) (m : ∀ D σ H, t' D σ H → t D σ H) : PS X e t' := ⟨fun pins s σ H D I z => h.run pins s σ H D I (m _ _ _ z)⟩
theorem PSs.mono {X : Cx} {e : List Stmt} {t t' : TS} (h : PSs X e t) (m : ∀ D σ H, t' D σ H → t D σ H) : PSs X e t' := ⟨fun pins s σ H D I z => h.run pins s σ H D I (m _ _ _ z)⟩
section
variable {X : Cx} {U : Ev} {EX : XK} {a b c e : Expr} {es : List Expr} {pos pos' : Pos}
/-! names, constants -/
def wVar (i : Nat) : WE := fun δ M R => match δ[i]? with
  | some (some d) => R d M
  | _ => False
def wC (d : Dt) : WE := fun _ M R => R d M
theorem d_var {i : Nat} {x : Str} (h : PE X (.Name x pos) (tVar i)) : DE X U (.Name x pos) (wVar i) := PE.mono h fun σ H Q ⟨δ, M, R, E, w, l⟩ => by
  unfold wVar at w
  rcases q : δ[i]? with _ | (_ | d)
  · rw [q] at w; cases w
  · rw [q] at w; cases w
  · rw [q] at w
    obtain ⟨v, h1, h2⟩ := E.get i d q
    exact ⟨v, h1, l v d M H .refl E.mem h2 w⟩
theorem d_c {v : V} {d : Dt} (h : PE X e (tC v)) (r : ∀ H, Rp U H v d) : DE X U e (wC d) := PE.mono h fun σ H Q ⟨δ, M, R, E, w, l⟩ => l v d M H .refl E.mem (r H) w
theorem d_non {j} : DE X U (.Constant .none j pos) (wC .non) := d_c pe_non fun _ => .non
theorem d_bl {b : Bool} {j} : DE X U (.Constant (.bool b) j pos) (wC (.bl b)) := d_c pe_bl fun _ => .bl
theorem d_int {i : Int} {j} : DE X U (.Constant (.int i) j pos) (wC (.int i)) := d_c pe_int fun _ => .int
theorem d_str {x : Str} {j} (h1 : PyData.strOk x = true := by decide +kernel) (h2 : x.length ≤ sizeLine := by decide +kernel) : DE X U (.Constant (.str x) j pos) (wC (.str x)) := d_c pe_str fun _ => .str h1 h2
/-! two-place operations -/
abbrev W2 := Dt → Dt → Mh → (Dt → Mh → Prop) → Prop
def oW (U : Ev) (g : W2) : R2 := fun x y H Q => ∃ a b M R, MOk U H M ∧ Rp U H x a ∧ Rp U H y b ∧ g a b M R ∧ Lv U M H R Q
theorem OpR.mono {f : Value → Value → Sem Value} {r r' : R2} (h : OpR X f r) (m : ∀ x y H Q, r' x y H Q → r x y H Q) : OpR X f r' := fun pins s σ H x y v u Q I rx ry q => h pins s σ H x y v u Q I rx ry (m _ _ _ _ q)
theorem OpR.or {f : Value → Value → Sem Value} {r r' : R2} (h : OpR X f r) (h' : OpR X f r') : OpR X f fun x y H Q => r x y H Q ∨ r' x y H Q := fun pins s σ H x y v u Q I rx ry q => q.elim (h pins s σ H x y v u Q I rx ry) (h' pins s σ H x y v u Q I rx ry)
def wOp (g : W2) (wa wb : WE) : WE := fun δ M R => wa δ M fun x M1 => wb δ M1 fun y M2 => g x y M2 R
theorem op_ok {g : W2} {wa wb : WE} {σ : L2.St} {H : Hp} {Q : VK} (h : tW U (wOp g wa wb) σ H Q) : tOp (oW U g) (tW U wa) (tW U wb) σ H Q := by
  obtain ⟨δ, M, R, E, w, l⟩ := h
  refine ⟨δ, M, _, E, w, fun x da M1 H1 g1 k1 r1 w1 => ⟨δ, M1, _, E.go g1 k1, w1, fun y db M2 H2 g2 k2 r2 w2 => ?_⟩⟩
  exact ⟨da, db, M2, R, k2, r1.k (g2.kp k1), r2, w2, l.go (g1.trans g2)⟩
theorem d_op {op : Operator} {g : W2} {wa wb : WE} (ho : OpR X (binaryOp op) (oW U g)) (ha : DE X U a wa) (hb : DE X U b wb) : DE X U (.BinOp a op b pos) (wOp g wa wb) := PE.mono (pe_op ho ha hb) fun _ _ _ h => op_ok h
theorem d_cmp {op : CmpOp} {g : W2} {wa wb : WE} (ho : OpR X (compareOp op) (oW U g)) (ha : DE X U a wa) (hb : DE X U b wb) (hm : behindInMarks op b = false) : DE X U (.Compare a [op] [b] pos) (wOp g wa wb) := PE.mono (pe_cmpR ho ha hb hm) fun _ _ _ h => op_ok h
def wB (w : WE) : WT := fun δ M R => w δ M fun x M1 => match x with
  | .bl b => R b M1
  | _ => False
theorem bW_of {w : WE} {σ : L2.St} {H : Hp} {Q : Bool → Hp → Prop} (h : bW U (wB w) σ H Q) : tB (tW U w) σ H Q := by
  obtain ⟨δ, M, R, E, w, l⟩ := h
  refine ⟨δ, M, _, E, w, fun x d M1 H1 g1 k1 r1 w1 => ?_⟩
  cases d <;> first | exact w1.elim | skip
  cases r1
  exact ⟨_, rfl, l _ M1 H1 g1 k1 w1⟩
theorem d_tcmp {op : CmpOp} {g : W2} {wa wb : WE} (ho : OpR X (compareOp op) (oW U g)) (ha : DE X U a wa) (hb : DE X U b wb) (hm : behindInMarks op b = false) : DT X U (.Compare a [op] [b] pos) (wB (wOp g wa wb)) :=
  PT.mono (pt_cmpR ho ha hb hm) fun _ _ _ h => by
    obtain ⟨δ, M, R, E, w, l⟩ := h
    refine ⟨δ, M, _, E, w, fun x da M1 H1 g1 k1 r1 w1 => ⟨δ, M1, _, E.go g1 k1, w1, fun y db M2 H2 g2 k2 r2 w2 => ?_⟩⟩
    refine ⟨da, db, M2, _, k2, r1.k (g2.kp k1), r2, w2, fun v d M3 H3 g3 k3 r3 w3 => ?_⟩
    cases d <;> first | exact w3.elim | skip
    cases r3
    exact ⟨_, rfl, l _ M3 H3 ((g1.trans g2).trans g3) k3 w3⟩
theorem d_val {w : WE} (h : DE X U e w) (he : ∀ whole, isTrue e X.env whole = (do let v ← whole; standAt e.pos; holding [v] (truthy v)) := by intro _; rfl) : DT X U e (wB w) := PT.mono (pt_val h he) fun _ _ _ h => bW_of h
/-! and, or, not, if -/
def wNotT (w : WT) : WT := fun δ M R => w δ M fun b => R (!b)
def wAndT (wa wb : WT) : WT := fun δ M R => wa δ M fun b M1 => match b with
  | true => wb δ M1 R
  | false => R false M1
def wOrT (wa wb : WT) : WT := fun δ M R => wa δ M fun b M1 => match b with
  | true => R true M1
  | false => wb δ M1 R
variable {wa wb : WE} {ta tb : WT} {rest : List Expr}
theorem d_notT (h : DT X U a ta) : DT X U (.UnaryOp .Not a pos) (wNotT ta) := PT.mono (pt_not h) fun _ _ _ ⟨δ, M, R, E, w, l⟩ => ⟨δ, M, _, E, w, fun b M1 H1 g k r => l _ M1 H1 g k r⟩
theorem d_and1 (h : DT X U a ta) : DW X U (.BoolOp .And [a] pos) ta := pw_and1 h
theorem d_or1 (h : DT X U a ta) : DW X U (.BoolOp .Or [a] pos) ta := pw_or1 h
theorem d_andT (ha : DT X U a ta) (hb : DW X U (.BoolOp .And (b :: rest) pos) tb) : DW X U (.BoolOp .And (a :: b :: rest) pos) (wAndT ta tb) := PW.mono (pw_and ha hb) fun _ _ _ ⟨δ, M, R, E, w, l⟩ => by
  refine ⟨δ, M, _, E, w, fun c M1 H1 g k r => ?_⟩
  cases c with
  | true => exact ⟨δ, M1, R, E.go g k, r, l.go g⟩
  | false => exact l _ M1 H1 g k r
theorem d_orT (ha : DT X U a ta) (hb : DW X U (.BoolOp .Or (b :: rest) pos) tb) : DW X U (.BoolOp .Or (a :: b :: rest) pos) (wOrT ta tb) := PW.mono (pw_or ha hb) fun _ _ _ ⟨δ, M, R, E, w, l⟩ => by
  refine ⟨δ, M, _, E, w, fun c M1 H1 g k r => ?_⟩
  cases c with
  | false => exact ⟨δ, M1, R, E.go g k, r, l.go g⟩
  | true => exact l _ M1 H1 g k r
theorem d_pt (h : DW X U a ta) : DT X U a ta := PW.pt h
def wNot (w : WE) : WE := fun δ M R => w δ M fun x M1 => match x with
  | .bl b => R (.bl (!b)) M1
  | _ => False
def wAnd (wa wb : WE) : WE := fun δ M R => wa δ M fun x M1 => match x with
  | .bl true => wb δ M1 R
  | .bl false => R (.bl false) M1
  | _ => False
def wOr (wa wb : WE) : WE := fun δ M R => wa δ M fun x M1 => match x with
  | .bl true => R (.bl true) M1
  | .bl false => wb δ M1 R
  | _ => False
theorem d_not (h : DE X U a wa) : DE X U (.UnaryOp .Not a pos) (wNot wa) := PE.mono (pe_not h) fun _ _ _ ⟨δ, M, R, E, w, l⟩ => by
  refine ⟨δ, M, _, E, w, fun x d M1 H1 g k r w1 => ?_⟩
  cases d <;> first | exact w1.elim | skip
  cases r
  exact ⟨_, rfl, l _ _ M1 H1 g k .bl w1⟩
theorem d_one {op} (h : DE X U a wa) : DE X U (.BoolOp op [a] pos) wa := pe_one h
theorem d_and (ha : DE X U a wa) (hb : DE X U (.BoolOp .And (b :: rest) pos) wb) : DE X U (.BoolOp .And (a :: b :: rest) pos) (wAnd wa wb) := PE.mono (pe_and ha hb) fun _ _ _ ⟨δ, M, R, E, w, l⟩ => by
  refine ⟨δ, M, _, E, w, fun x d M1 H1 g k r w1 => ?_⟩
  cases d <;> first | exact w1.elim | skip
  rename_i c
  cases r
  cases c with
  | true => exact ⟨_, rfl, δ, M1, R, E.go g k, w1, l.go g⟩
  | false => exact ⟨_, rfl, l _ _ M1 H1 g k .bl w1⟩
theorem d_or (ha : DE X U a wa) (hb : DE X U (.BoolOp .Or (b :: rest) pos) wb) : DE X U (.BoolOp .Or (a :: b :: rest) pos) (wOr wa wb) := PE.mono (pe_or ha hb) fun _ _ _ ⟨δ, M, R, E, w, l⟩ => by
  refine ⟨δ, M, _, E, w, fun x d M1 H1 g k r w1 => ?_⟩
  cases d <;> first | exact w1.elim | skip
  rename_i c
  cases r
  cases c with
  | false => exact ⟨_, rfl, δ, M1, R, E.go g k, w1, l.go g⟩
  | true => exact ⟨_, rfl, l _ _ M1 H1 g k .bl w1⟩
def wIfE (t : WT) (wa wb : WE) : WE := fun δ M R => t δ M fun c M1 => match c with
  | true => wa δ M1 R
  | false => wb δ M1 R
theorem d_ifExp (ht : DT X U c ta) (ha : DE X U a wa) (hb : DE X U b wb) : DE X U (.IfExp c a b pos) (wIfE ta wa wb) := PE.mono (pe_ifExp ht ha hb) fun _ _ _ ⟨δ, M, R, E, w, l⟩ => by
  refine ⟨δ, M, _, E, w, fun c M1 H1 g k r => ?_⟩
  cases c with
  | true => exact ⟨δ, M1, R, E.go g k, r, l.go g⟩
  | false => exact ⟨δ, M1, R, E.go g k, r, l.go g⟩
/-! argument lists, displays -/
def wNil : WA := fun _ M R => R [] M
def wCons (we : WE) (wr : WA) : WA := fun δ M R => we δ M fun x M1 => wr δ M1 fun xs M2 => R (x :: xs) M2
theorem d_nil : DA X U [] wNil := PA.mono pa_nil fun _ _ _ ⟨δ, M, R, E, w, l⟩ => l [] [] M _ .refl E.mem .nil w
theorem d_cons {we : WE} {wr : WA} (ha : DE X U e we) (hr : DA X U es wr) (hs : starEach (e :: es) X.env = (false, eval e X.env) :: starEach es X.env := by rfl) : DA X U (e :: es) (wCons we wr) := PA.mono (pa_cons ha hr hs) fun _ _ _ ⟨δ, M, R, E, w, l⟩ => by
  refine ⟨δ, M, _, E, w, fun x d M1 H1 g k r w1 => ⟨δ, M1, _, E.go g k, w1, fun xs ds M2 H2 g2 k2 r2 w2 => ?_⟩⟩
  exact l _ _ M2 H2 (g.trans g2) k2 (.cons (r.k (g2.kp k)) r2) w2
/-- a list, a tuple as it may be read -/
def sq (M : Mh) : Dt → Option (List Dt)
  | .tup l => some l
  | .lst l => some l
  | .ptr a => match M a with
    | some (.lst l) => some l
    | _ => none
  | .scr l => some (l.map .int)
  | _ => none
theorem ints_rps {U : Ev} {H : Hp} : ∀ l : List Int, Rps U H (l.map V.int) (l.map Dt.int)
  | [] => .nil
  | _ :: l => .cons .int (ints_rps l)
theorem sq_ok {H : Hp} {M : Mh} {v : V} {d : Dt} {l : List Dt} (k : MOk U H M) (r : Rp U H v d) (h : sq M d = some l) : ∃ a vs, v = .ref a ∧ (SqL U.K H a vs ∨ SqT U.K H a vs) ∧ Rps U H vs l ∧ l.length ≤ sizeLine := by
  cases d with
  | tup l' =>
    cases h
    cases r with
    | tup a b c => exact ⟨_, _, rfl, .inr a, c, b⟩
  | lst l' =>
    cases h
    cases r with
    | lst a b c => exact ⟨_, _, rfl, .inl (.inl (.inr ⟨_, a⟩)), c, b⟩
  | ptr p =>
    cases r
    unfold sq at h
    rcases q : M p with _ | m
    · simp [q] at h
    · cases m with
      | lst l' =>
        simp only [q] at h
        cases h
        obtain ⟨vs, h1, h2, h3⟩ := k p _ q
        exact ⟨p, vs, rfl, .inl (SqL.of h1), h3, h2⟩
      | _ => simp [q] at h
  | scr l' =>
    cases h
    cases r with
    | scr a b => exact ⟨_, _, rfl, .inl a.sql, ints_rps _, by rw [List.length_map]; exact b⟩
  | _ => cases h
def wStar (we : WE) (wr : WA) : WA := fun δ M R => we δ M fun x M1 => match sq M1 x with
  | some l => wr δ M1 fun xs M2 => R (l ++ xs) M2
  | none => False
theorem d_star {we : WE} {wr : WA} {p : Pos} (hK : X.K = U.K) (ha : DE X U e we) (hr : DA X U es wr) : DA X U (.Starred e p :: es) (wStar we wr) := PA.mono (StX.pa_star ha hr) fun _ _ _ ⟨δ, M, R, E, w, l⟩ => by
  refine ⟨δ, M, _, E, w, fun x d M1 H1 g k r w1 => ?_⟩
  rcases q : sq M1 d with _ | ls
  · simp [q] at w1
  · simp only [q] at w1
    obtain ⟨a, vs, rfl, hs, rs, _⟩ := sq_ok k r q
    rw [hK]
    refine ⟨a, vs, rfl, hs.symm, δ, M1, _, E.go g k, w1, fun xs ds M2 H2 g2 k2 r2 w2 => ?_⟩
    exact l _ _ M2 H2 (g.trans g2) k2 ((rs.k (g2.kp k)).app r2) w2
/-- a tuple of so many items that are written -/
def wTup (w : WA) : WE := fun δ M R => w δ M fun l M1 => l.length ≤ 1000 ∧ R (.tup l) M1
theorem d_tup {w : WA} {x1} (h : DA X U es w) : DE X U (.Tuple es x1 pos) (wTup w) := PE.mono (pe_tup h) fun _ _ _ ⟨δ, M, R, E, w, l⟩ => by
  refine ⟨δ, M, _, E, w, fun vs ds M1 H1 g k r w1 => ⟨by rw [r.len]; exact szle w1.1, fun p hp => ?_⟩⟩
  have s := same_upd (o := .tup vs) hp
  exact l _ _ M1 _ (g.trans (.same s)) (k.new hp) (.tup (SqT.of upd_same) (szle w1.1) (r.k (fun b o e _ => s b o e))) w1.2
end
end Lw
namespace Lw
open PySem PySem.Spec PyProof.Rows L2
section
variable {X : Cx} {U : Ev} {EX : XK} {a b c e : Expr} {es : List Expr} {pos pos' : Pos} {wa wb we : WE} {g : W2}
/-! ### ghost steps: a list that was just made is from here on only read -/
/-- the value's list is locked -/
def tLock (t : TE) : TE := fun σ H Q => t σ H fun v H1 => ∃ p u, v = .ref p ∧ H1 p = some u ∧ Mut (some u) ∧ ∀ od, Q v (upd H1 p (.frz od u))
theorem pe_lock {t : TE} (h : PE X e t) : PE X e (tLock t) := ⟨fun pins s σ H Q I z => thn (h.run pins s σ H _ I z) fun u s' ⟨v, H', I', r, p, uo, ev, hp, mu, q⟩ => by
  obtain ⟨od, J⟩ := I'.lock hp mu
  exact ⟨v, _, J, r, q od⟩⟩
/-- a value that may be locked, or not -/
def tLockO (t : TE) : TE := fun σ H Q => t σ H fun v H1 => Q v H1 ∨ ∃ p u, v = .ref p ∧ H1 p = some u ∧ Mut (some u) ∧ ∀ od, Q v (upd H1 p (.frz od u))
theorem pe_lockO {t : TE} (h : PE X e t) : PE X e (tLockO t) := ⟨fun pins s σ H Q I z => thn (h.run pins s σ H _ I z) fun u s' ⟨v, H', I', r, q⟩ => by
  rcases q with q | ⟨p, uo, ev, hp, mu, q⟩
  · exact ⟨v, _, I', r, q⟩
  · obtain ⟨od, J⟩ := I'.lock hp mu
    exact ⟨v, _, J, r, q od⟩⟩
/-- a list display, from here on only read -/
def wLst (w : WA) : WE := fun δ M R => w δ M fun l M1 => l.length ≤ sizeLine ∧ R (.lst l) M1
theorem lock_new {p : Addr} {vs : List V} {l : List Dt} {M : Mh} {H : Hp} (k : MOk U H M) (hp : H p = none) (hl : l.length ≤ sizeLine) (r : Rps U H vs l) (od : Obj) :
    Go M H M (upd (upd H p (.lst vs)) p (.frz od (.lst vs))) ∧ MOk U (upd (upd H p (.lst vs)) p (.frz od (.lst vs))) M ∧ Rp U (upd (upd H p (.lst vs)) p (.frz od (.lst vs))) (.ref p) (.lst l) := by
  rw [upd_upd]
  exact ⟨.new hp, k.new hp, .lst upd_same hl (r.k fun b o e _ => same_upd hp b o e)⟩
theorem d_lst {w : WA} (h : DA X U es w) : DE X U (.List es pos) (wLst w) := PE.mono (pe_lock (pe_lst h)) fun _ _ _ ⟨δ, M, R, E, w, l⟩ => by
  refine ⟨δ, M, _, E, w, fun vs ds M1 H1 g k r w1 => ⟨by rw [r.len]; exact w1.1, fun p hp => ⟨p, _, rfl, upd_same, trivial, fun od => ?_⟩⟩⟩
  obtain ⟨g2, k2, r2⟩ := lock_new k hp w1.1 r od
  exact l _ _ M1 _ (g.trans g2) k2 r2 w1.2
/-- a new list that may change -/
def wLstM (w : WA) : WE := fun δ M R => w δ M fun l M1 => l.length ≤ sizeLine ∧ ∀ p, M1 p = none → R (.ptr p) (updM M1 p (.lst l))
theorem d_lstM {w : WA} (h : DA X U es w) : DE X U (.List es pos) (wLstM w) := PE.mono (pe_lst h) fun _ _ _ ⟨δ, M, R, E, w, l⟩ => by
  refine ⟨δ, M, _, E, w, fun vs ds M1 H1 g k r w1 => ⟨by rw [r.len]; exact w1.1, fun p hp => ?_⟩⟩
  exact l _ _ _ _ (g.trans (.newM hp)) (k.put (m := .lst ds) (.inr hp) ⟨vs, upd_same, w1.1, r.k fun b o e _ => same_upd hp b o e⟩) .ptr (w1.2 p (k.nw hp))
/-! ### arithmetic, order -/
def gAdd : W2 := fun x y M R => match x, y with
  | .int i, .int j => R (.int (i + j)) M
  | .str x, .str y => x.length + y.length ≤ sizeLine ∧ R (.str (x ++ y)) M
  | .tup x, .tup y => x.length + y.length ≤ sizeLine ∧ R (.tup (x ++ y)) M
  | _, _ => False
theorem strOk_app {x y : Str} (h1 : PyData.strOk x = true) (h2 : PyData.strOk y = true) : PyData.strOk (x ++ y) = true := by
  unfold PyData.strOk at *
  show (x.cps ++ y.cps).all _ = true
  rw [Array.all_append, h1, h2]
  rfl
theorem op_gAdd (hK : X.K = U.K) : OpR X (binaryOp .Add) (oW U gAdd) := by
  refine OpR.mono (OpR.or op_add (OpR.or op_add_str op_catA)) fun x y H Q ⟨a, b, M, R, k, ra, rb, w, l⟩ => ?_
  unfold gAdd at w
  split at w
  · cases ra; cases rb
    exact .inl ⟨_, _, rfl, rfl, l _ _ M H .refl k .int w⟩
  · cases ra with | str a1 a2 => cases rb with | str b1 b2 =>
    exact .inr (.inl ⟨_, _, rfl, rfl, w.1, l _ _ M H .refl k (.str (strOk_app a1 b1) (by rw [str_len_app]; exact w.1)) w.2⟩)
  · rename_i xs ys
    cases ra with | tup a1 a2 a3 => cases rb with | tup b1 b2 b3 =>
    rw [hK]
    refine .inr (.inr ⟨_, _, _, _, rfl, rfl, a1, b1, by rw [a3.len, b3.len]; exact w.1, fun e => ?_, fun _ e => ?_, fun _ _ p hp => ?_⟩)
    · have : xs = [] := by
        have q := a3.len
        rw [e] at q
        exact List.length_eq_zero_iff.mp q.symm
      subst this
      exact l _ _ M H .refl k (.tup b1 b2 b3) w.2
    · have : ys = [] := by
        have q := b3.len
        rw [e] at q
        exact List.length_eq_zero_iff.mp q.symm
      subst this
      refine l _ _ M H .refl k (.tup a1 a2 a3) ?_
      have z := w.2
      rw [List.append_nil] at z
      exact z
    · refine l _ _ M _ (.new hp) (k.new hp) (.tup (SqT.of upd_same) (by rw [List.length_append]; exact w.1) ?_) w.2
      exact (a3.app b3).k fun b o e _ => same_upd hp b o e
  · exact w.elim
def gSub : W2 := fun x y M R => match x, y with
  | .int i, .int j => R (.int (i - j)) M
  | _, _ => False
theorem op_gSub : OpR X (binaryOp .Sub) (oW U gSub) := OpR.mono op_sub fun x y H Q ⟨a, b, M, R, k, ra, rb, w, l⟩ => by
  unfold gSub at w
  split at w
  · cases ra; cases rb
    exact ⟨_, _, rfl, rfl, l _ _ M H .refl k .int w⟩
  · exact w.elim
def gMul : W2 := fun x y M R => match x, y with
  | .int i, .int j => CMul i j ∧ R (.int (i * j)) M
  | _, _ => False
theorem op_gMul : OpR X (binaryOp .Mult) (oW U gMul) := OpR.mono op_mul fun x y H Q ⟨a, b, M, R, k, ra, rb, w, l⟩ => by
  unfold gMul at w
  split at w
  · cases ra; cases rb
    exact ⟨_, _, rfl, rfl, w.1, l _ _ M H .refl k .int w.2⟩
  · exact w.elim
/-- a comparison of two ints -/
def gInt (f : Int → Int → Bool) : W2 := fun x y M R => match x, y with
  | .int i, .int j => R (.bl (f i j)) M
  | _, _ => False
theorem op_gInt {op : CmpOp} {f : Int → Int → Bool} (h : OpR X (compareOp op) (rI0 fun i j => .bl (f i j))) : OpR X (compareOp op) (oW U (gInt f)) := OpR.mono h fun x y H Q ⟨a, b, M, R, k, ra, rb, w, l⟩ => by
  unfold gInt at w
  split at w
  · cases ra; cases rb
    exact ⟨_, _, rfl, rfl, l _ _ M H .refl k .bl w⟩
  · exact w.elim
abbrev gLt : W2 := gInt fun i j => decide (i < j)
abbrev gLe : W2 := gInt fun i j => decide (i ≤ j)
abbrev gGt : W2 := gInt fun i j => decide (j < i)
abbrev gGe : W2 := gInt fun i j => decide (j ≤ i)
theorem op_gLt : OpR X (compareOp .Lt) (oW U gLt) := op_gInt op_lt
theorem op_gLe : OpR X (compareOp .LtE) (oW U gLe) := op_gInt op_le
theorem op_gGt : OpR X (compareOp .Gt) (oW U gGt) := op_gInt op_gt
theorem op_gGe : OpR X (compareOp .GtE) (oW U gGe) := op_gInt op_ge
/-! ### equality -/
mutual
def py : Dt → Option PyData
  | .non => some .none
  | .bl b => some (.bool b)
  | .int i => some (.int i)
  | .str x => some (.str x)
  | .tup l => (pys l).map .tuple
  | .lst l => (pys l).map .list
  | _ => none
def pys : List Dt → Option (List PyData)
  | [] => some []
  | d :: r => match py d, pys r with
    | some p, some q => some (p :: q)
    | _, _ => none
end
mutual
theorem py_ok {H : Hp} : ∀ (d : Dt) {v : V} {p : PyData}, Rp U H v d → py d = some p → Dp U.K H v p ∧ p.canLay0 = true
  | .non, _, _, r, e => by cases r; simp [py] at e; subst e; exact ⟨.non, rfl⟩
  | .bl b, _, _, r, e => by cases r; simp [py] at e; subst e; exact ⟨.bl _, rfl⟩
  | .int i, _, _, r, e => by cases r; simp [py] at e; subst e; exact ⟨.int _, rfl⟩
  | .str x, _, _, r, e => by cases r with | str a b => simp [py] at e; subst e; exact ⟨.str _, by simpa [PyData.canLay0] using a⟩
  | .tup l, _, _, r, e => by
    cases r with | tup a b c =>
    rw [py] at e
    obtain ⟨q, h1, rfl⟩ := Option.map_eq_some_iff.mp e
    obtain ⟨h2, h3⟩ := pys_ok l c h1
    exact ⟨.tup a h2, by rw [PyData.canLay0]; exact h3⟩
  | .lst l, _, _, r, e => by
    cases r with | lst a b c =>
    rw [py] at e
    obtain ⟨q, h1, rfl⟩ := Option.map_eq_some_iff.mp e
    obtain ⟨h2, h3⟩ := pys_ok l c h1
    exact ⟨.lst (.inl (.inr ⟨_, a⟩)) h2, by rw [PyData.canLay0]; exact h3⟩
  | .obj _ _, _, _, _, e => by simp [py] at e
  | .dic _ _, _, _, _, e => by simp [py] at e
  | .ptr _, _, _, _, e => by simp [py] at e
  | .ty _, _, _, _, e => by simp [py] at e
  | .scr _, _, _, _, e => by simp [py] at e
theorem pys_ok {H : Hp} : ∀ (l : List Dt) {vs : List V} {ps : List PyData}, Rps U H vs l → pys l = some ps → DpAll U.K H vs ps ∧ PyData.canLayAll0 ps = true
  | [], _, _, r, e => by cases r; simp [pys] at e; subst e; exact ⟨.nil, rfl⟩
  | d :: l, _, _, r, e => by
    cases r with | cons r rr =>
    rw [pys] at e
    rcases q1 : py d with _ | p
    · simp [q1] at e
    · rcases q2 : pys l with _ | ps
      · simp [q1, q2] at e
      · simp only [q1, q2] at e
        cases e
        obtain ⟨h1, h2⟩ := py_ok d r q1
        obtain ⟨h3, h4⟩ := pys_ok l rr q2
        exact ⟨.cons h1 h3, by rw [PyData.canLayAll0, h2, h4]; rfl⟩
end
/-- .. or a list that may change -/
def pyM (M : Mh) : Dt → Option PyData
  | .ptr a => match M a with
    | some (.lst l) => (pys l).map .list
    | _ => none
  | d => py d
theorem pyM_ok {H : Hp} {M : Mh} (k : MOk U H M) {d : Dt} {v : V} {p : PyData} (r : Rp U H v d) (e : pyM M d = some p) : Dp U.K H v p ∧ p.canLay0 = true := by
  unfold pyM at e
  split at e
  · rename_i a
    cases r
    split at e
    · rename_i l q
      obtain ⟨vs, h1, h2, h3⟩ := k _ _ q
      obtain ⟨ps, e1, rfl⟩ := Option.map_eq_some_iff.mp e
      obtain ⟨h4, h5⟩ := pys_ok l h3 e1
      exact ⟨.lst (SqL.of h1) h4, by rw [PyData.canLay0]; exact h5⟩
    · cases e
  · exact py_ok _ r e
/-- scalars at once; lists and tuples as data; a list beside an empty one -/
def eqD (M : Mh) (R : Bool → Prop) : Dt → Dt → Prop
  | .non, .non => R true
  | .bl x, .bl y => R (decide (x = y))
  | .int x, .int y => R (decide (x = y))
  | .str x, .str y => R (decide (x = y))
  | .str _, .non => R false
  | .non, .str _ => R false
  | .lst x, .lst [] => R x.isEmpty
  | .tup x, .tup [] => R x.isEmpty
  | .ptr a, .lst [] => match M a with
    | some (.lst l) => R l.isEmpty
    | _ => False
  | x, y => match pyM M x, pyM M y with
    | some p, some q => p.depth ≤ 64 ∧ q.depth ≤ 64 ∧ R (PyData.eqv p q)
    | _, _ => False
def gEq : W2 := fun x y M R => eqD M (fun b => R (.bl b) M) x y
def gNe : W2 := fun x y M R => eqD M (fun b => R (.bl (!b)) M) x y
/-- what an equality's rule needs -/
def eqPre (K : PySem.W.Frag) (x y : V) (H : Hp) (R : Bool → Prop) : Prop := (scal x y = true ∧ R (decide (x = y))) ∨ (∃ a b xs, x = .ref a ∧ y = .ref b ∧ ((SqL K H a xs ∧ SqL K H b []) ∨ (SqT K H a xs ∧ SqT K H b [])) ∧ R xs.isEmpty) ∨
  ∃ d e, Dp K H x d ∧ Dp K H y e ∧ SeqAt.shaped d = true ∧ SeqAt.shaped e = true ∧ R (PyData.eqv d e)
theorem eqD_ok {H : Hp} {M : Mh} (k : MOk U H M) {x y : V} {a b : Dt} (ra : Rp U H x a) (rb : Rp U H y b) {R : Bool → Prop} (h : eqD M R a b) : eqPre U.K x y H R := by
  unfold eqD at h
  split at h
  · cases ra; cases rb; exact .inl ⟨rfl, h⟩
  · cases ra; cases rb; exact .inl ⟨rfl, by simpa using h⟩
  · cases ra; cases rb; exact .inl ⟨rfl, by simpa using h⟩
  · cases ra; cases rb; exact .inl ⟨rfl, by simpa using h⟩
  · cases ra; cases rb; exact .inl ⟨rfl, by simpa using h⟩
  · cases ra; cases rb; exact .inl ⟨rfl, by simpa using h⟩
  · rename_i l
    cases ra with | lst a1 a2 a3 => cases rb with | lst b1 b2 b3 =>
    cases b3
    refine .inr (.inl ⟨_, _, _, rfl, rfl, .inl ⟨.inl (.inr ⟨_, a1⟩), .inl (.inr ⟨_, b1⟩)⟩, ?_⟩)
    cases a3 <;> exact h
  · rename_i l
    cases ra with | tup a1 a2 a3 => cases rb with | tup b1 b2 b3 =>
    cases b3
    refine .inr (.inl ⟨_, _, _, rfl, rfl, .inr ⟨a1, b1⟩, ?_⟩)
    cases a3 <;> exact h
  · rename_i a
    split at h
    · rename_i l q
      obtain ⟨vs, h1, h2, h3⟩ := k _ _ q
      cases ra
      cases rb with | lst b1 b2 b3 =>
      cases b3
      refine .inr (.inl ⟨_, _, _, rfl, rfl, .inl ⟨SqL.of h1, .inl (.inr ⟨_, b1⟩)⟩, ?_⟩)
      cases h3 <;> exact h
    · exact h.elim
  · split at h
    · rename_i p q e1 e2
      obtain ⟨h1, h2⟩ := pyM_ok k ra e1
      obtain ⟨h3, h4⟩ := pyM_ok k rb e2
      refine .inr (.inr ⟨p, q, h1, h3, ?_, ?_, h.2.2⟩)
      · unfold SeqAt.shaped; rw [h2, decide_eq_true h.1]; rfl
      · unfold SeqAt.shaped; rw [h4, decide_eq_true h.2.1]; rfl
    · exact h.elim
/-- a list beside an empty list, a tuple beside an empty tuple -/
def rEqS (K : PySem.W.Frag) (f : Bool → Bool) : R2 := fun x y H Q => ∃ a b xs, x = .ref a ∧ y = .ref b ∧ ((SqL K H a xs ∧ SqL K H b []) ∨ (SqT K H a xs ∧ SqT K H b [])) ∧ Q (.bl (f xs.isEmpty)) H
theorem op_eqS (hu : X.A.units < cLine) : OpR X (compareOp .Eq) (rEqS X.K id) := by
  intro pins s σ H x y v u Q I rx ry h
  obtain ⟨a, b, xs, rfl, rfl, h, q⟩ := h
  cases (show v = Value.ref a from rx)
  cases (show u = Value.ref b from ry)
  show wpAny (model X.prog X.w) X.A (richCompare .Eq (.ref a) (.ref b)) (EP X pins σ Q) X.xe s
  rcases h with ⟨h1, h2⟩ | ⟨h1, h2⟩
  · obtain ⟨its, r1, p1, _⟩ := I.list h1
    obtain ⟨it2, r2, p2, _⟩ := I.list h2
    cases r2
    cases r1 with
    | nil =>
      refine PySem.SeqAt.RcAt.lists (e := fun _ => true) p1.isList p2.isList rfl hu (fun j h1 _ => absurd h1 (by simp)) X.prog X.w X.xe _ ?_
      exact ⟨.bl true, H, I, rfl, q⟩
    | cons r rr =>
      refine PySem.SeqAt.RcAt.lists_lengths p1.isList p2.isList (by simp) hu X.prog X.w X.xe _ ?_
      exact ⟨.bl false, H, I, rfl, q⟩
  · obtain ⟨its, r1, p1, _⟩ := I.tuple h1
    obtain ⟨it2, r2, p2, _⟩ := I.tuple h2
    cases r2
    refine PySem.SeqAt.RcAt.tuples (e := fun _ => true) p1 p2 hu (fun j _ h2 => absurd h2 (by simp)) X.prog X.w X.xe _ ?_
    cases r1 with
    | nil => exact ⟨.bl true, H, I, rfl, q⟩
    | cons r rr => exact ⟨.bl false, H, I, by simp [L2.RelV], q⟩
theorem op_neS (hu : X.A.units < cLine) : OpR X (compareOp .NotEq) (rEqS X.K not) := by
  intro pins s σ H x y v u Q I rx ry h
  obtain ⟨a, b, xs, rfl, rfl, h, q⟩ := h
  cases (show v = Value.ref a from rx)
  cases (show u = Value.ref b from ry)
  show wpAny (model X.prog X.w) X.A (richCompare .NotEq (.ref a) (.ref b)) (EP X pins σ Q) X.xe s
  rcases h with ⟨h1, h2⟩ | ⟨h1, h2⟩
  · obtain ⟨its, r1, p1, _⟩ := I.list h1
    obtain ⟨it2, r2, p2, _⟩ := I.list h2
    cases r2
    cases r1 with
    | nil =>
      refine PySem.SeqAt.RcNeAt.lists (e := fun _ => true) p1.isList p2.isList rfl hu (fun j h1 _ => absurd h1 (by simp)) X.prog X.w X.xe _ ?_
      exact ⟨.bl false, H, I, rfl, q⟩
    | cons r rr =>
      refine PySem.SeqAt.RcNeAt.lists_lengths p1.isList p2.isList (by simp) hu X.prog X.w X.xe _ ?_
      exact ⟨.bl true, H, I, rfl, q⟩
  · obtain ⟨its, r1, p1, _⟩ := I.tuple h1
    obtain ⟨it2, r2, p2, _⟩ := I.tuple h2
    cases r2
    refine PySem.SeqAt.RcNeAt.tuples (e := fun _ => true) p1 p2 hu (fun j _ h2 => absurd h2 (by simp)) X.prog X.w X.xe _ ?_
    cases r1 with
    | nil => exact ⟨.bl false, H, I, rfl, q⟩
    | cons r rr => exact ⟨.bl true, H, I, by simp [L2.RelV], q⟩
theorem op_gEq (hK : X.K = U.K) (hu : X.A.units + 64 < cLine) : OpR X (compareOp .Eq) (oW U gEq) := by
  refine OpR.mono (OpR.or op_eq (OpR.or (op_eqS (by omega)) (op_eqD hu))) fun x y H Q ⟨a, b, M, R, k, ra, rb, w, l⟩ => ?_
  have fin : ∀ c, R (.bl c) M → Q (.bl c) H := fun c h => l _ _ M H .refl k .bl h
  rw [hK]
  rcases eqD_ok k ra rb w with ⟨h1, h2⟩ | ⟨p, q, xs, h1, h2, h3, h4⟩ | ⟨d, e, h1, h2, h3, h4, h5⟩
  · exact .inl ⟨h1, fin _ h2⟩
  · exact .inr (.inl ⟨p, q, xs, h1, h2, h3, fin _ h4⟩)
  · exact .inr (.inr ⟨d, e, h1, h2, h3, h4, fin _ h5⟩)
theorem op_gNe (hK : X.K = U.K) (hu : X.A.units + 64 < cLine) : OpR X (compareOp .NotEq) (oW U gNe) := by
  refine OpR.mono (OpR.or op_ne (OpR.or (op_neS (by omega)) (op_neD hu))) fun x y H Q ⟨a, b, M, R, k, ra, rb, w, l⟩ => ?_
  have fin : ∀ c, R (.bl c) M → Q (.bl c) H := fun c h => l _ _ M H .refl k .bl h
  rw [hK]
  rcases eqD_ok k ra rb w with ⟨h1, h2⟩ | ⟨p, q, xs, h1, h2, h3, h4⟩ | ⟨d, e, h1, h2, h3, h4, h5⟩
  · exact .inl ⟨h1, fin _ h2⟩
  · exact .inr (.inl ⟨p, q, xs, h1, h2, h3, fin _ h4⟩)
  · exact .inr (.inr ⟨d, e, h1, h2, h3, h4, fin _ h5⟩)
/-- is None, is not None -/
def gIsN : W2 := fun x y M R => match y with
  | .non => match x with
    | .non => R (.bl true) M
    | _ => R (.bl false) M
  | _ => False
def gNotN : W2 := fun x y M R => match y with
  | .non => match x with
    | .non => R (.bl false) M
    | _ => R (.bl true) M
  | _ => False
theorem op_gIsN : OpR X (compareOp .Is) (oW U gIsN) := OpR.mono op_isN fun x y H Q ⟨a, b, M, R, k, ra, rb, w, l⟩ => by
  cases b <;> first | exact w.elim | skip
  cases rb
  refine ⟨rfl, ?_⟩
  cases ra <;> exact l _ _ M H .refl k (by simp; exact .bl) w
theorem op_gNotN : OpR X (compareOp .IsNot) (oW U gNotN) := OpR.mono op_notN fun x y H Q ⟨a, b, M, R, k, ra, rb, w, l⟩ => by
  cases b <;> first | exact w.elim | skip
  cases rb
  refine ⟨rfl, ?_⟩
  cases ra <;> exact l _ _ M H .refl k (by simp; exact .bl) w
/-! ### in, not in -/
def tv : Dt → V
  | .bl b => .bl b
  | .int i => .int i
  | .str x => .str x
  | _ => .non
/-- flat things: scalars -/
def fl : Dt → Bool
  | .non | .bl _ | .int _ | .str _ => true
  | _ => false
theorem fl_ok {H : Hp} {v : V} {d : Dt} (r : Rp U H v d) (h : fl d = true) : v = tv d ∧ flatV v = true := by
  cases r <;> first | exact ⟨rfl, rfl⟩ | cases h
theorem fls_ok {H : Hp} : ∀ {vs : List V} {l : List Dt}, Rps U H vs l → l.all fl = true → vs = l.map tv ∧ vs.all flatV = true
  | _, _, .nil, _ => ⟨rfl, rfl⟩
  | _, _, .cons r rr, h => by
    rw [List.all_cons, Bool.and_eq_true] at h
    obtain ⟨h1, h2⟩ := fl_ok r h.1
    obtain ⟨h3, h4⟩ := fls_ok rr h.2
    exact ⟨by rw [List.map_cons, h1, h3], by rw [List.all_cons, h2, h4]; rfl⟩
def gInB (f : Bool → Bool) : W2 := fun x y M R => match y with
  | .str z => match x with
    | .str c => c.length = 1 ∧ R (.bl (f (decide (c.cps.toList.headD 0 ∈ z.cps.toList)))) M
    | _ => False
  | y => match sq M y with
    | some l => fl x = true ∧ l.all fl = true ∧ R (.bl (f (inV (tv x) (l.map tv)))) M
    | none => False
theorem one_sign {c : Str} (h : c.length = 1) : c = ⟨#[c.cps.toList.headD 0]⟩ := by
  obtain ⟨⟨l⟩⟩ := c
  match l, h with
  | [x], _ => rfl
abbrev gIn : W2 := gInB id
abbrev gNotIn : W2 := gInB not
theorem op_gIn (hK : X.K = U.K) : OpR X (compareOp .In) (oW U gIn) := by
  refine OpR.mono (OpR.or op_in_sign op_in_seq) fun x y H Q ⟨a, b, M, R, k, ra, rb, w, l⟩ => ?_
  unfold gIn gInB at w
  split at w
  · split at w
    · cases ra with | str a1 a2 => cases rb with | str b1 b2 =>
      refine .inl ⟨_, _, by rw [one_sign w.1], rfl, l _ _ M H .refl k .bl ?_⟩
      exact w.2
    · exact w.elim
  · split at w
    · rename_i l' q
      obtain ⟨w1, w2, w3⟩ := w
      obtain ⟨p, vs, rfl, hs, rs, _⟩ := sq_ok k rb q
      obtain ⟨e1, e2⟩ := fl_ok ra w1
      obtain ⟨e3, e4⟩ := fls_ok rs w2
      subst e1 e3
      rw [hK]
      exact .inr ⟨p, _, rfl, hs, e2, e4, l _ _ M H .refl k .bl w3⟩
    · exact w.elim
theorem op_gNotIn (hK : X.K = U.K) : OpR X (compareOp .NotIn) (oW U gNotIn) := by
  refine OpR.mono (OpR.or op_notIn_sign op_notIn_seq) fun x y H Q ⟨a, b, M, R, k, ra, rb, w, l⟩ => ?_
  unfold gNotIn gInB at w
  split at w
  · split at w
    · cases ra with | str a1 a2 => cases rb with | str b1 b2 =>
      refine .inl ⟨_, _, by rw [one_sign w.1], rfl, l _ _ M H .refl k .bl ?_⟩
      exact w.2
    · exact w.elim
  · split at w
    · rename_i l' q
      obtain ⟨w1, w2, w3⟩ := w
      obtain ⟨p, vs, rfl, hs, rs, _⟩ := sq_ok k rb q
      obtain ⟨e1, e2⟩ := fl_ok ra w1
      obtain ⟨e3, e4⟩ := fls_ok rs w2
      subst e1 e3
      rw [hK]
      exact .inr ⟨p, _, rfl, hs, e2, e4, l _ _ M H .refl k .bl w3⟩
    · exact w.elim
/-! ### places and slices -/
def gIx : W2 := fun x y M R => match y with
  | .int i => match x with
    | .str z => match atI z.cps.toList i with
      | some c => R (.str ⟨#[c]⟩) M
      | none => False
    | x => match sq M x with
      | some l => match atI l i with
        | some d => R d M
        | none => False
      | none => False
  | _ => False
theorem atI_rps {H : Hp} {vs : List V} {l : List Dt} {i : Int} {d : Dt} (r : Rps U H vs l) (h : atI l i = some d) : ∃ v, atI vs i = some v ∧ Rp U H v d := by
  unfold atI at *
  rw [r.len]
  obtain ⟨j, h1, h2⟩ := Option.bind_eq_some_iff.mp h
  obtain ⟨v, h3, h4⟩ := r.get h2
  exact ⟨v, by rw [h1]; exact h3, h4⟩
theorem strOk_one {z : Str} {c : Nat} (h : PyData.strOk z = true) (m : c ∈ z.cps.toList) : PyData.strOk ⟨#[c]⟩ = true := by
  unfold PyData.strOk at *
  have q := Array.all_eq_true'.mp h c (by simpa using m)
  simpa using q
theorem atI_mem {α : Type} {l : List α} {i : Int} {c : α} (h : atI l i = some c) : c ∈ l := by
  unfold atI at h
  obtain ⟨j, _, h2⟩ := Option.bind_eq_some_iff.mp h
  exact List.mem_of_getElem? h2
theorem ix_gIx (hK : X.K = U.K) : IxR X (oW U gIx) := by
  intro value slice pins s σ H x y v u Q I rx ry ⟨a, b, M, R, k, ra, rb, w, l⟩ hsub
  refine ix_seq value slice pins s σ H x y v u Q I rx ry ?_ hsub
  unfold gIx at w
  split at w
  · cases rb
    split at w
    · split at w
      · rename_i c q
        cases ra with | str a1 a2 =>
        exact .inr (.inr ⟨_, _, _, rfl, rfl, a2, q, l _ _ M H .refl k (.str (strOk_one a1 (atI_mem q)) (by show 1 ≤ sizeLine; decide)) w⟩)
      · exact w.elim
    · split at w
      · rename_i l' q
        split at w
        · rename_i d q2
          obtain ⟨p, vs, rfl, hs, rs, _⟩ := sq_ok k ra q
          obtain ⟨v', h1, h2⟩ := atI_rps rs q2
          rw [hK]
          rcases hs with hs | hs
          · exact .inl ⟨_, _, _, _, rfl, rfl, hs, h1, l _ _ M H .refl k h2 w⟩
          · exact .inr (.inl ⟨_, _, _, _, rfl, rfl, hs, h1, l _ _ M H .refl k h2 w⟩)
        · exact w.elim
      · exact w.elim
  · exact w.elim
theorem d_ix (hK : X.K = U.K) (ha : DE X U a wa) (hb : DE X U b wb) (hs : PlainIx b) : DE X U (.Subscript a b pos) (wOp gIx wa wb) := PE.mono (pe_ix (ix_gIx hK) ha hb hs) fun _ _ _ h => op_ok h
end
end Lw
namespace Lw
open PySem PySem.Spec PyProof.Rows L2
section
variable {X : Cx} {U : Ev} {EX : XK} {a b c e : Expr} {es : List Expr} {pos pos' : Pos} {wa wb we : WE} {g : W2}
/-! ### slices -/
abbrev WO := Sl → Mh → (Option Int → Mh → Prop) → Prop
def pW (U : Ev) (W : WO) : TO := fun σ H Q => ∃ δ M R, DEnv U σ H δ M ∧ W δ M R ∧ ∀ o M' H', Go M H M' H' → MOk U H' M' → R o M' → Q o H'
abbrev DO (X : Cx) (U : Ev) (e : Option Expr) (W : WO) : Prop := PO X e (pW U W)
def wNo : WO := fun _ M R => R none M
def wPart (w : WE) : WO := fun δ M R => w δ M fun x M1 => match x with
  | .int i => R (some i) M1
  | _ => False
theorem PO.mono {e : Option Expr} {t t' : TO} (h : PO X e t) (m : ∀ σ H Q, t' σ H Q → t σ H Q) : PO X e t' := ⟨fun pins s σ H Q I z => h.run pins s σ H Q I (m _ _ _ z)⟩
theorem d_no : DO X U none wNo := PO.mono po_none fun _ _ _ ⟨δ, M, R, E, w, l⟩ => l _ M _ .refl E.mem w
theorem d_part (h : DE X U e we) : DO X U (some e) (wPart we) := PO.mono (po_some h) fun _ _ _ ⟨δ, M, R, E, w, l⟩ => by
  refine ⟨δ, M, _, E, w, fun x d M1 H1 g k r w1 => ?_⟩
  cases d <;> first | exact w1.elim | skip
  cases r
  exact ⟨_, rfl, l _ M1 H1 g k w1⟩
def cutD (xs : List Dt) (lo hi : Option Int) : List Dt := (xs.drop (HT.sIx xs.length 0 lo)).take (HT.sIx xs.length xs.length hi - HT.sIx xs.length 0 lo)
theorem cutD_len {xs : List Dt} {lo hi : Option Int} : (cutD xs lo hi).length ≤ xs.length := by
  unfold cutD
  rw [List.length_take, List.length_drop]
  omega
theorem cut_rps {H : Hp} {vs : List V} {l : List Dt} {lo hi : Option Int} (r : Rps U H vs l) : Rps U H (cutV vs lo hi) (cutD l lo hi) := by
  unfold cutV cutD
  rw [r.len]
  exact (r.drop _).take _
/-- a list that may be read -/
def sql (M : Mh) : Dt → Option (List Dt)
  | .lst l => some l
  | .ptr a => match M a with
    | some (.lst l) => some l
    | _ => none
  | _ => none
theorem sql_ok {H : Hp} {M : Mh} {v : V} {d : Dt} {l : List Dt} (k : MOk U H M) (r : Rp U H v d) (h : sql M d = some l) : ∃ a vs, v = .ref a ∧ SqL U.K H a vs ∧ Rps U H vs l ∧ l.length ≤ sizeLine := by
  cases d with
  | lst l' =>
    cases h
    cases r with
    | lst a b c => exact ⟨_, _, rfl, .inl (.inr ⟨_, a⟩), c, b⟩
  | ptr p =>
    cases r
    unfold sql at h
    rcases q : M p with _ | m
    · simp [q] at h
    · cases m with
      | lst l' =>
        simp only [q] at h
        cases h
        obtain ⟨vs, h1, h2, h3⟩ := k _ _ q
        exact ⟨p, vs, rfl, SqL.of h1, h3, h2⟩
      | _ => simp [q] at h
  | _ => cases h
def wSl (we : WE) (wl wh : WO) : WE := fun δ M R => we δ M fun x M1 => wl δ M1 fun lo M2 => wh δ M2 fun hi M3 => match x with
  | .tup l => R (.tup (cutD l lo hi)) M3
  | .str z => R (.str (cutS z lo hi)) M3
  | x => match sql M3 x with
    | some l => R (.lst (cutD l lo hi)) M3
    | none => False
theorem strOk_sub {z y : Str} (h : PyData.strOk z = true) (m : ∀ c ∈ y.cps.toList, c ∈ z.cps.toList) : PyData.strOk y = true := by
  unfold PyData.strOk at *
  rw [Array.all_eq_true']
  intro c hc
  exact Array.all_eq_true'.mp h c (by simpa using m c (by simpa using hc))
theorem strOk_cut {z : Str} {lo hi : Option Int} (h : PyData.strOk z = true) : PyData.strOk (cutS z lo hi) = true ∧ (cutS z lo hi).length ≤ z.length := by
  refine ⟨strOk_sub h fun c hc => ?_, ?_⟩
  · unfold cutS at hc
    simp only at hc
    exact List.mem_of_mem_drop (List.mem_of_mem_take hc)
  · unfold cutS
    show (List.toArray _).size ≤ _
    rw [List.size_toArray, List.length_take, List.length_drop]
    have : z.cps.toList.length = z.length := by rw [Array.length_toList]; rfl
    omega
variable {lo hi : Option Expr} {wl wh : WO} {p2 : Pos}
theorem d_sl (hK : X.K = U.K) (he : DE X U e we) (hl : DO X U lo wl) (hu : DO X U hi wh) : DE X U (.Subscript e (.Slice lo hi none p2) pos) (wSl we wl wh) :=
  PE.mono (pe_lockO (pe_slice (SlR.or sl_list (SlR.or sl_tupA sl_str)) he hl hu)) fun _ _ _ ⟨δ, M, R, E, w, l⟩ => by
    refine ⟨δ, M, _, E, w, fun x d M1 H1 g1 k1 r1 w1 => ⟨δ, M1, _, E.go g1 k1, w1, fun lo M2 H2 g2 k2 w2 => ⟨δ, M2, _, E.go (g1.trans g2) k2, w2, fun hi M3 H3 g3 k3 w3 => ?_⟩⟩⟩
    have r3 := r1.k ((g2.trans g3).kp k1)
    have g := (g1.trans g2).trans g3
    rw [hK]
    split at w3
    · cases r3 with | tup a1 a2 a3 =>
      refine .inr (.inl ⟨_, _, rfl, a1, fun hw => ?_, fun _ p hp => ?_⟩)
      · refine .inl (l _ _ M3 H3 g k3 (.tup a1 ?_ ?_) w3)
        · exact Nat.le_trans cutD_len a2
        · have q := cut_rps (lo := lo) (hi := hi) a3
          have e : cutV _ lo hi = _ := show cutV _ lo hi = _ from by
            unfold cutV
            rw [hw.1, hw.2, List.drop_zero, Nat.sub_zero, List.take_length]
          rw [e] at q
          exact q
      · refine .inl (l _ _ M3 _ (g.trans (.new hp)) (k3.new hp) (.tup (SqT.of upd_same) (Nat.le_trans cutD_len a2) ?_) w3)
        exact (cut_rps a3).k fun b o e _ => same_upd hp b o e
    · cases r3 with | str a1 a2 =>
      obtain ⟨h1, h2⟩ := strOk_cut (lo := lo) (hi := hi) a1
      exact .inr (.inr ⟨_, rfl, a2, .inl (l _ _ M3 H3 g k3 (.str h1 (Nat.le_trans h2 a2)) w3)⟩)
    · rename_i d nt ns
      split at w3
      · rename_i ls q
        obtain ⟨p, vs, rfl, hs, rs, hl⟩ := sql_ok k3 r3 q
        refine .inl ⟨_, _, rfl, hs, fun q hq => .inr ⟨q, _, rfl, upd_same, trivial, fun od => ?_⟩⟩
        obtain ⟨g4, k4, r4⟩ := lock_new k3 hq (Nat.le_trans cutD_len hl) (cut_rps (lo := lo) (hi := hi) rs) od
        exact l _ _ M3 _ (g.trans g4) k4 r4 w3
      · exact w3.elim
/-! ### calls of built-ins -/
abbrev WC := List Dt → Mh → (Dt → Mh → Prop) → Prop
def cW (U : Ev) (g : WC) : List V → Hp → VK → Prop := fun xs H Q => ∃ ds M R, MOk U H M ∧ Rps U H xs ds ∧ g ds M R ∧ Lv U M H R Q
theorem CallR.mono {f : Value} {r r' : List V → Hp → VK → Prop} (h : CallR X f r) (m : ∀ x H Q, r' x H Q → r x H Q) : CallR X f r' := fun pins s σ H xs us Q I rs q => h pins s σ H xs us Q I rs (m _ _ _ q)
def wCall (g : WC) (wa : WA) : WE := fun δ M R => wa δ M fun ds M1 => g ds M1 R
variable {x : Str} {p cpos apos : Pos} {id T name : String} {wr : WA} {gc : WC}
theorem call_ok {t : TA} {r : List V → Hp → VK → Prop} {σ : L2.St} {H : Hp} {Q : VK} (h : tW U (wCall gc wr) σ H Q) : tCB (cW U gc) (aW U wr) σ H Q := by
  obtain ⟨δ, M, R, E, w, l⟩ := h
  exact ⟨δ, M, _, E, w, fun vs ds M1 H1 g k r w1 => ⟨ds, M1, R, k, r, w1, l.go g⟩⟩
theorem d_callB (hc : CallR X (.builtin id) (cW U gc)) (hg : Gl X x) (hm : X.mg x = none) (hv : bootBuiltins x = some (.builtin id)) (ha : DA X U (e :: es) wr) (hn : x ≠ "__name__" := by decide) (hdb : (x == ("__debug__" : Str)) = false := by decide)
    (he : starEach (e :: es) X.env = (false, eval e X.env) :: starEach es X.env := by rfl) (hpl : (backTo pos (starEach es X.env)).any (·.1) = false := by rfl) : DE X U (.Call (.Name x p) (e :: es) [] pos) (wCall gc wr) :=
  PE.mono (pe_callB hc hg hm hv ha hn hdb he hpl) fun _ _ _ h => call_ok (t := aW U wr) (r := cW U gc) h
theorem d_callTy (hc : CallR X (.type T) (cW U gc)) (hg : Gl X x) (hm : X.mg x = none) (hv : bootBuiltins x = some (.type T)) (ha : DA X U (e :: es) wr) (hn : x ≠ "__name__" := by decide) (hdb : (x == ("__debug__" : Str)) = false := by decide)
    (he : starEach (e :: es) X.env = (false, eval e X.env) :: starEach es X.env := by rfl) (hpl : (backTo pos (starEach es X.env)).any (·.1) = false := by rfl) : DE X U (.Call (.Name x p) (e :: es) [] pos) (wCall gc wr) :=
  PE.mono (pe_callTy hc hg hm hv ha hn hdb he hpl) fun _ _ _ h => call_ok (t := aW U wr) (r := cW U gc) h
/-- a call that locks its new list -/
theorem d_callTyL {r : List V → Hp → VK → Prop} (hc : CallR X (.type T) r) (m : ∀ xs H Q, cW U gc xs H Q → r xs H fun v H1 => Q v H1 ∨ ∃ p u, v = .ref p ∧ H1 p = some u ∧ Mut (some u) ∧ ∀ od, Q v (upd H1 p (.frz od u))) (hg : Gl X x) (hm : X.mg x = none) (hv : bootBuiltins x = some (.type T)) (ha : DA X U (e :: es) wr) (hn : x ≠ "__name__" := by decide) (hdb : (x == ("__debug__" : Str)) = false := by decide)
    (he : starEach (e :: es) X.env = (false, eval e X.env) :: starEach es X.env := by rfl) (hpl : (backTo pos (starEach es X.env)).any (·.1) = false := by rfl) : DE X U (.Call (.Name x p) (e :: es) [] pos) (wCall gc wr) :=
  PE.mono (pe_lockO (pe_callTy hc hg hm hv ha hn hdb he hpl)) fun _ _ _ ⟨δ, M, R, E, w, l⟩ =>
    ⟨δ, M, _, E, w, fun vs ds M1 H1 g k r w1 => m _ _ _ ⟨ds, M1, R, k, r, w1, l.go g⟩⟩
theorem d_callBL {r : List V → Hp → VK → Prop} (hc : CallR X (.builtin id) r) (m : ∀ xs H Q, cW U gc xs H Q → r xs H fun v H1 => Q v H1 ∨ ∃ p u, v = .ref p ∧ H1 p = some u ∧ Mut (some u) ∧ ∀ od, Q v (upd H1 p (.frz od u))) (hg : Gl X x) (hm : X.mg x = none) (hv : bootBuiltins x = some (.builtin id)) (ha : DA X U (e :: es) wr) (hn : x ≠ "__name__" := by decide) (hdb : (x == ("__debug__" : Str)) = false := by decide)
    (he : starEach (e :: es) X.env = (false, eval e X.env) :: starEach es X.env := by rfl) (hpl : (backTo pos (starEach es X.env)).any (·.1) = false := by rfl) : DE X U (.Call (.Name x p) (e :: es) [] pos) (wCall gc wr) :=
  PE.mono (pe_lockO (pe_callB hc hg hm hv ha hn hdb he hpl)) fun _ _ _ ⟨δ, M, R, E, w, l⟩ =>
    ⟨δ, M, _, E, w, fun vs ds M1 H1 g k r w1 => m _ _ _ ⟨ds, M1, R, k, r, w1, l.go g⟩⟩
def gLen : WC := fun ds M R => match ds with
  | [.str z] => R (.int (z.length : Nat)) M
  | [x] => match sq M x with
    | some l => R (.int (l.length : Nat)) M
    | none => False
  | _ => False
theorem one_rps {H : Hp} {vs : List V} {d : Dt} (r : Rps U H vs [d]) : ∃ v, vs = [v] ∧ Rp U H v d := by
  cases r with | cons a b => cases b; exact ⟨_, rfl, a⟩
theorem two_rps {H : Hp} {vs : List V} {d e : Dt} (r : Rps U H vs [d, e]) : ∃ v w, vs = [v, w] ∧ Rp U H v d ∧ Rp U H w e := by
  cases r with | cons a b => obtain ⟨w, rfl, h⟩ := one_rps b; exact ⟨_, _, rfl, a, h⟩
theorem c_len (hK : X.K = U.K) : CallR X (.builtin "len") (cW U gLen) := CallR.mono call_len fun xs H Q ⟨ds, M, R, k, rs, w, l⟩ => by
  unfold gLen at w
  split at w
  · obtain ⟨v, rfl, r⟩ := one_rps rs
    cases r with | str a b =>
    exact ⟨_, _, rfl, ⟨b, rfl⟩, l _ _ M H .refl k .int w⟩
  · obtain ⟨v, rfl, r⟩ := one_rps rs
    split at w
    · rename_i ls q
      obtain ⟨p, vs, rfl, hs, rs, hl⟩ := sq_ok k r q
      rw [hK]
      rcases hs with hs | hs
      · exact ⟨_, _, rfl, .inl ⟨_, hs, rs.len.symm⟩, l _ _ M H .refl k .int w⟩
      · exact ⟨_, _, rfl, .inr ⟨_, hs, rs.len.symm⟩, l _ _ M H .refl k .int w⟩
    · exact w.elim
  · exact w.elim
/-- list(x): a new list, from here on only read; a new list that may change -/
def gList : WC := fun ds M R => match ds with
  | [x] => match sq M x with
    | some l => R (.lst l) M
    | none => False
  | _ => False
theorem m_list (hK : X.K = U.K) : ∀ xs H Q, cW U gList xs H Q → (fun xs H Q => ∃ p ys, xs = [.ref p] ∧ (SqL X.K H p ys ∨ SqT X.K H p ys) ∧ ∀ l, H l = none → Q (.ref l) (upd H l (.lst ys)) : List V → Hp → VK → Prop) xs H fun v H1 => Q v H1 ∨ ∃ p u, v = .ref p ∧ H1 p = some u ∧ Mut (some u) ∧ ∀ od, Q v (upd H1 p (.frz od u)) := fun xs H Q ⟨ds, M, R, k, rs, w, l⟩ => by
  unfold gList at w
  split at w
  · obtain ⟨v, rfl, r⟩ := one_rps rs
    split at w
    · rename_i ls q
      obtain ⟨p, vs, rfl, hs, rs, hl⟩ := sq_ok k r q
      rw [hK]
      refine ⟨p, vs, rfl, hs, fun q hq => .inr ⟨q, _, rfl, upd_same, trivial, fun od => ?_⟩⟩
      obtain ⟨g4, k4, r4⟩ := lock_new k hq hl rs od
      exact l _ _ M _ g4 k4 r4 w
    · exact w.elim
  · exact w.elim
def gListM : WC := fun ds M R => match ds with
  | [x] => match sq M x with
    | some l => ∀ p, M p = none → R (.ptr p) (updM M p (.lst l))
    | none => False
  | _ => False
theorem c_listM (hK : X.K = U.K) : CallR X (.type "list") (cW U gListM) := CallR.mono call_list_of fun xs H Q ⟨ds, M, R, k, rs, w, l⟩ => by
  unfold gListM at w
  split at w
  · obtain ⟨v, rfl, r⟩ := one_rps rs
    split at w
    · rename_i ls q
      obtain ⟨p, vs, rfl, hs, rs, hl⟩ := sq_ok k r q
      rw [hK]
      refine ⟨p, vs, rfl, hs, fun q hq => ?_⟩
      exact l _ _ _ _ (.newM hq) (k.put (m := .lst ls) (.inr hq) ⟨vs, upd_same, hl, rs.k fun b o e _ => same_upd hq b o e⟩) .ptr (w q (k.nw hq))
    · exact w.elim
  · exact w.elim
def gTuple : WC := fun ds M R => match ds with
  | [x] => match sq M x with
    | some l => R (.tup l) M
    | none => False
  | _ => False
theorem c_tuple (hK : X.K = U.K) : CallR X (.type "tuple") (cW U gTuple) := CallR.mono call_list_or fun xs H Q ⟨ds, M, R, k, rs, w, l⟩ => by
  unfold gTuple at w
  split at w
  · obtain ⟨v, rfl, r⟩ := one_rps rs
    split at w
    · rename_i ls q
      obtain ⟨p, vs, rfl, hs, rs, hl⟩ := sq_ok k r q
      rw [hK]
      refine ⟨p, vs, rfl, ?_⟩
      rcases hs with hs | hs
      · exact .inl ⟨hs, fun q hq => l _ _ M _ (.new hq) (k.new hq) (.tup (SqT.of upd_same) hl (rs.k fun b o e _ => same_upd hq b o e)) w⟩
      · exact .inr ⟨hs, l _ _ M H .refl k (.tup hs hl rs) w⟩
    · exact w.elim
  · exact w.elim
def gInt1 : WC := fun ds M R => match ds with
  | [.int i] => R (.int i) M
  | [.bl b] => R (.int (if b then 1 else 0)) M
  | _ => False
theorem c_int1 : CallR X (.type "int") (cW U gInt1) := CallR.mono call_int1 fun xs H Q ⟨ds, M, R, k, rs, w, l⟩ => by
  unfold gInt1 at w
  split at w
  · obtain ⟨v, rfl, r⟩ := one_rps rs
    cases r
    exact .inl ⟨_, rfl, l _ _ M H .refl k .int w⟩
  · obtain ⟨v, rfl, r⟩ := one_rps rs
    cases r
    exact .inr ⟨_, rfl, l _ _ M H .refl k .int w⟩
  · exact w.elim
def gMax2 : WC := fun ds M R => match ds with
  | [.int i, .int j] => R (.int (if j > i then j else i)) M
  | _ => False
theorem c_max2 (hc : X.calm = true) : CallR X (.builtin "max") (cW U gMax2) := CallR.mono (call_max2 hc) fun xs H Q ⟨ds, M, R, k, rs, w, l⟩ => by
  unfold gMax2 at w
  split at w
  · obtain ⟨v, u, rfl, r, r'⟩ := two_rps rs
    cases r; cases r'
    exact ⟨_, _, rfl, l _ _ M H .refl k .int w⟩
  · exact w.elim
def gMin2 : WC := fun ds M R => match ds with
  | [.int i, .int j] => R (.int (if j < i then j else i)) M
  | _ => False
theorem c_min2 (hc : X.calm = true) : CallR X (.builtin "min") (cW U gMin2) := CallR.mono (call_min2 hc) fun xs H Q ⟨ds, M, R, k, rs, w, l⟩ => by
  unfold gMin2 at w
  split at w
  · obtain ⟨v, u, rfl, r, r'⟩ := two_rps rs
    cases r; cases r'
    exact ⟨_, _, rfl, l _ _ M H .refl k .int w⟩
  · exact w.elim
/-- truth values all, any -/
def bls : List Dt → Option (List Bool)
  | [] => some []
  | .bl b :: r => (bls r).map (b :: ·)
  | _ => none
theorem bls_ok {H : Hp} : ∀ {l : List Dt} {vs : List V} {bs : List Bool}, Rps U H vs l → bls l = some bs → vs = bs.map V.bl
  | [], _, _, r, h => by cases r; cases h; rfl
  | .bl b :: l, _, _, r, h => by
    cases r with | cons a rr =>
    cases a
    rw [bls] at h
    obtain ⟨q, h1, rfl⟩ := Option.map_eq_some_iff.mp h
    rw [List.map_cons, bls_ok rr h1]
  | .non :: _, _, _, _, h => by cases h
  | .int _ :: _, _, _, _, h => by cases h
  | .str _ :: _, _, _, _, h => by cases h
  | .tup _ :: _, _, _, _, h => by cases h
  | .lst _ :: _, _, _, _, h => by cases h
  | .obj _ _ :: _, _, _, _, h => by cases h
  | .dic _ _ :: _, _, _, _, h => by cases h
  | .ptr _ :: _, _, _, _, h => by cases h
  | .ty _ :: _, _, _, _, h => by cases h
  | .scr _ :: _, _, _, _, h => by cases h
def gAll : WC := fun ds M R => match ds with
  | [.lst l] => match bls l with
    | some bs => R (.bl (bs.all (fun b => b))) M
    | none => False
  | _ => False
theorem c_all (hK : X.K = U.K) (hc : X.calm = true) : CallR X (.builtin "all") (cW U gAll) := CallR.mono (cr_all hc) fun xs H Q ⟨ds, M, R, k, rs, w, l⟩ => by
  unfold gAll at w
  split at w
  · obtain ⟨v, rfl, r⟩ := one_rps rs
    split at w
    · rename_i bs q
      cases r with | lst a1 a2 a3 =>
      have e := bls_ok a3 q
      subst e
      exact ⟨_, bs, rfl, .inl (.inr ⟨_, a1⟩), l _ _ M H .refl k .bl w⟩
    · exact w.elim
  · exact w.elim
def gAny : WC := fun ds M R => match ds with
  | [.lst l] => match bls l with
    | some bs => R (.bl (bs.any (fun b => b))) M
    | none => False
  | _ => False
theorem c_any (hK : X.K = U.K) (hc : X.calm = true) : CallR X (.builtin "any") (cW U gAny) := CallR.mono (cr_any hc) fun xs H Q ⟨ds, M, R, k, rs, w, l⟩ => by
  unfold gAny at w
  split at w
  · obtain ⟨v, rfl, r⟩ := one_rps rs
    split at w
    · rename_i bs q
      cases r with | lst a1 a2 a3 =>
      have e := bls_ok a3 q
      subst e
      exact ⟨_, bs, rfl, .inl (.inr ⟨_, a1⟩), l _ _ M H .refl k .bl w⟩
    · exact w.elim
  · exact w.elim
/-! isinstance -/
inductive Kd where
  | non | bl | int | str | tup | lst | dic
  deriving DecidableEq
def Kd.nm : Kd → String
  | .non => "NoneType" | .bl => "bool" | .int => "int" | .str => "str" | .tup => "tuple" | .lst => "list" | .dic => "dict"
def Kd.is : Kd → Kd → Bool
  | .non, .non | .bl, .bl | .int, .int | .str, .str | .tup, .tup | .lst, .lst | .dic, .dic | .bl, .int => true
  | _, _ => false
theorem Kd.kit (K : PySem.W.Frag) : ∀ a b : Kd, PySem.W.kitOne K (.type a.nm) (.type b.nm) = some (a.is b) := by
  intro a b
  refine kit_ty ?_
  cases a <;> cases b <;> decide +kernel
inductive Ky where
  | b (k : Kd) | o (c : Str)
/-- the kind of a thing -/
def ky (M : Mh) : Dt → Option Ky
  | .non => some (.b .non)
  | .bl _ => some (.b .bl)
  | .int _ => some (.b .int)
  | .str _ => some (.b .str)
  | .tup _ => some (.b .tup)
  | .lst _ => some (.b .lst)
  | .obj c _ => some (.o c)
  | .ptr a => match M a with
    | some (.lst _) => some (.b .lst)
    | some (.ins c _ _) => some (.o c)
    | some (.dic _ _) => some (.b .dic)
    | _ => none
  | _ => none
/-- what is to be known of a class whose instances are looked at -/
structure ObjTy (U : Ev) (c : Str) : Prop where
  cl : Cls U.K (He.ga U.K c)
  ha : PySem.W.findIn U.K (.ref (He.ga U.K c)) "__class__" = some (some (.builtin "object.__class__"))
  hn : PySem.W.specialIn U.K (.builtin "object.__class__") "__get__" = some (some (.builtin "getset_descriptor.__get__"))
  ht : PySem.W.takesIn U.K (.builtin "object.__class__") = some true
  hm : PySem.W.mroIn U.K (He.ga U.K c) (.type "object") = some true
  no : ∀ k : Kd, k ≠ .non → PySem.W.kitOne U.K (.ref (He.ga U.K c)) (.type k.nm) = some false
def Ky.is (t : Kd) : Ky → Bool
  | .b k => k.is t
  | .o _ => false
/-- the type of such a kind -/
def Ky.ty (U : Ev) : Ky → Value
  | .b k => .type k.nm
  | .o c => .ref (He.ga U.K c)
theorem ky_ok {H : Hp} {M : Mh} (k : MOk U H M) {v : V} {d : Dt} {y : Ky} (r : Rp U H v d) (h : ky M d = some y) (hO : ∀ c, y = .o c → ObjTy U c) : TyX U.K H v (y.ty U) := by
  unfold ky at h
  split at h
  · cases r; cases h; exact .base .non
  · cases r; cases h; exact .base (.bl _)
  · cases r; cases h; exact .base (.int _)
  · cases r; cases h; exact .base (.str _)
  · cases r with | tup a b c => cases h; exact ty_tup a
  · cases r with | lst a b c => cases h; exact .base (.frz a)
  · cases r with | obj a b c d =>
    cases h
    have T := hO _ rfl
    subst b
    exact .base (.ins a T.cl T.ha T.hn T.ht T.hm)
  · split at h
    · rename_i q
      cases r
      cases h
      obtain ⟨vs, h1, _⟩ := k _ _ q
      exact .base (.lst h1)
    · rename_i q
      cases r
      cases h
      obtain ⟨dx, fs, h1, _⟩ := k _ _ q
      have T := hO _ rfl
      exact .base (.ins h1 T.cl T.ha T.hn T.ht T.hm)
    · rename_i q
      cases r
      cases h
      exact .base (.dK (k _ _ q).2.2)
    · cases h
  · cases h
/-- isinstance(x, t), t a built-in type; cs: the classes that x may be of -/
def wIsi (cs : List Str) (t : Kd) (we : WE) : WE := fun δ M R => we δ M fun x M1 => match ky M1 x with
  | some (.b k) => R (.bl (k.is t)) M1
  | some (.o c) => c ∈ cs ∧ R (.bl false) M1
  | none => False
theorem d_isi {cs : List Str} {t : Kd} {n : Str} {p q : Pos} (hK : X.K = U.K) (hO : ∀ c ∈ cs, ObjTy U c) (hg : Gl X "isinstance") (hm : X.mg "isinstance" = none) (hgt : Gl X n) (hmt : X.mg n = none) (hvt : bootBuiltins n = some (.type t.nm)) (he : DE X U e we) (ht : t ≠ .non := by decide)
    (hn : n ≠ "__name__" := by decide) (hdb : (n == ("__debug__" : Str)) = false := by decide) (hs : starEach [e, .Name n q] X.env = (false, eval e X.env) :: starEach [.Name n q] X.env := by rfl) (hs2 : starEach [.Name n q] X.env = (false, eval (.Name n q) X.env) :: starEach [] X.env := by rfl) (hpl : (backTo pos (starEach [.Name n q] X.env)).any (·.1) = false := by rfl) :
    DE X U (.Call (.Name "isinstance" p) [e, .Name n q] [] pos) (wIsi cs t we) :=
  PE.mono (pe_callB call_isi hg hm (by decide +kernel) (pa_cons he (pa_cons (pe_bltn (v := .ty t.nm) hgt hmt hvt rfl hn hdb) pa_nil hs2) hs) (by decide) (by decide) hs hpl) fun σ H Q ⟨δ, M, R, E, w, l⟩ => by
    refine ⟨δ, M, _, E, w, fun v d M1 H1 g k r w1 => ?_⟩
    rw [hK]
    split at w1
    · rename_i kd hy
      exact ⟨_, _, _, _, _, rfl, .ty _, ky_ok k r hy (fun c e => by cases e), Kd.kit _ _ _, l _ _ M1 H1 g k .bl w1⟩
    · rename_i c hy
      exact ⟨_, _, _, _, _, rfl, .ty _, ky_ok k r hy (fun c e => by cases e; exact hO _ w1.1), (hO _ w1.1).no t ht, l _ _ M1 H1 g k .bl w1.2⟩
    · exact w1.elim
/-- isinstance(x, (t, t2)) -/
def wIsi2 (cs : List Str) (t t2 : Kd) (we : WE) : WE := fun δ M R => we δ M fun x M1 => match ky M1 x with
  | some (.b k) => R (.bl (k.is t || k.is t2)) M1
  | some (.o c) => c ∈ cs ∧ R (.bl false) M1
  | none => False
/-- isinstance(x, C), C an own class -/
def wIsC (cs : List Str) (c : Str) (we : WE) : WE := fun δ M R => we δ M fun x M1 => match ky M1 x with
  | some (.b _) => R (.bl false) M1
  | some (.o c') => c' ∈ cs ∧ R (.bl (decide (c' = c))) M1
  | none => False
structure ClsK (U : Ev) (cs : List Str) (c : Str) : Prop where
  ty : ∀ k : Kd, PySem.W.kitOne U.K (.type k.nm) (.ref (He.ga U.K c)) = some false
  ob : ∀ c' ∈ cs, PySem.W.kitOne U.K (.ref (He.ga U.K c')) (.ref (He.ga U.K c)) = some (decide (c' = c))
theorem d_isC {cs : List Str} {c : Str} {p q : Pos} (hK : X.K = U.K) (hO : ∀ c ∈ cs, ObjTy U c) (hC : ClsK U cs c) (hg : Gl X "isinstance") (hm : X.mg "isinstance" = none) (hgt : Gl X c) (hmt : X.mg c = some (.ref (He.ga U.K c))) (he : DE X U e we)
    (hdb : (c == ("__debug__" : Str)) = false := by decide) (hs : starEach [e, .Name c q] X.env = (false, eval e X.env) :: starEach [.Name c q] X.env := by rfl) (hs2 : starEach [.Name c q] X.env = (false, eval (.Name c q) X.env) :: starEach [] X.env := by rfl) (hpl : (backTo pos (starEach [.Name c q] X.env)).any (·.1) = false := by rfl) :
    DE X U (.Call (.Name "isinstance" p) [e, .Name c q] [] pos) (wIsC cs c we) :=
  PE.mono (pe_callB call_isi hg hm (by decide +kernel) (pa_cons he (pa_cons (pe_glob (v := .ref (He.ga U.K c)) hgt hmt rfl hdb) pa_nil hs2) hs) (by decide) (by decide) hs hpl) fun σ H Q ⟨δ, M, R, E, w, l⟩ => by
    refine ⟨δ, M, _, E, w, fun v d M1 H1 g k r w1 => ?_⟩
    rw [hK]
    split at w1
    · rename_i kd hy
      exact ⟨_, _, _, _, _, rfl, .own _, ky_ok k r hy (fun c e => by cases e), hC.ty _, l _ _ M1 H1 g k .bl w1⟩
    · rename_i c hy
      exact ⟨_, _, _, _, _, rfl, .own _, ky_ok k r hy (fun c e => by cases e; exact hO _ w1.1), hC.ob _ w1.1, l _ _ M1 H1 g k .bl w1.2⟩
    · exact w1.elim
/-! ### attributes -/
structure FldOk (U : Ev) (c f : Str) : Prop where
  cl : Cls U.K (He.ga U.K c)
  no : NoAttr U.K (He.ga U.K c) f
/-- x.f of an instance of c, the j-th attribute -/
def wFld (c f : Str) (j : Nat) (we : WE) : WE := fun δ M R => we δ M fun x M1 => match x with
  | .obj c' l => c' = c ∧ match l[j]? with
    | some d => R d M1
    | none => False
  | .ptr a => match M1 a with
    | some (.ins c' ns l) => c' = c ∧ ns[j]? = some f ∧ ns.idxOf f = j ∧ match l[j]? with
      | some d => R d M1
      | none => False
    | _ => False
  | _ => False
theorem lookup_at {H : Hp} : ∀ {fs : List (Str × V)} {l : List Dt} {f : Str} {j : Nat} {d : Dt}, Rps U H (fs.map (·.2)) l → (fs.map (·.1))[j]? = some f → (fs.map (·.1)).idxOf f = j → l[j]? = some d → ∃ v, fs.lookup f = some v ∧ Rp U H v d
  | [], _, _, _, _, _, h, _, _ => by simp at h
  | (g, v) :: fs, l, f, j, d, r, h, hi, hl => by
    cases r with | cons r1 r2 =>
    by_cases z : f = g
    · subst z
      have : j = 0 := by rw [← hi]; simp [List.idxOf_cons]
      subst this
      cases hl
      exact ⟨v, by simp [List.lookup], r1⟩
    · have z' : ¬ g = f := fun e => z e.symm
      rw [List.map_cons, List.idxOf_cons] at hi
      have e0 : (g == f) = false := by simpa using z'
      rw [show ((g, v).1 == f) = (g == f) from rfl, e0] at hi
      simp only [cond_false] at hi
      subst hi
      obtain ⟨w, h1, h2⟩ := lookup_at (fs := fs) (f := f) (d := d) r2 (by simpa using h) rfl (by simpa using hl)
      refine ⟨w, ?_, h2⟩
      have e1 : (f == g) = false := by simpa using z
      rw [List.lookup, e1]
      exact h1
theorem d_fld {c f : Str} {j : Nat} {ns : List Str} (hK : X.K = U.K) (F : FldOk U c f) (hT : U.T c = some ns ∨ U.T c = none) (h1 : ns[j]? = some f) (h2 : ns.idxOf f = j) (he : DE X U e we) (hb : attributeBase e f X.env (eval e X.env) = eval e X.env := by rfl) : DE X U (.Attribute e f pos) (wFld c f j we) :=
  PE.mono (pe_fld he hb) fun _ _ _ ⟨δ, M, R, E, w, l⟩ => by
    refine ⟨δ, M, _, E, w, fun v d M1 H1 g k r w1 => ?_⟩
    rw [hK]
    split at w1
    · obtain ⟨rfl, w1⟩ := w1
      split at w1
      · rename_i d q
        cases r with | @obj _ _ _ fs _ _ a b c d =>
        subst b
        have e : fs.map (·.1) = ns := by
          rcases hT with z | z
          · rw [z] at c; exact (Option.some.inj c).symm
          · rw [z] at c; cases c
        obtain ⟨v, e1, e2⟩ := lookup_at d (by rw [e]; exact h1) (by rw [e]; exact h2) q
        exact ⟨_, _, _, _, v, rfl, a, F.cl, F.no, e1, l _ _ M1 H1 g k e2 w1⟩
      · exact w1.elim
    · split at w1
      · rename_i q
        obtain ⟨rfl, n1, n2, w1⟩ := w1
        split at w1
        · rename_i d q2
          obtain ⟨dx, fs, e1, e2, e3, e4⟩ := k _ _ q
          cases r
          obtain ⟨v, e5, e6⟩ := lookup_at e4 (by rw [e2]; exact n1) (by rw [e2]; exact n2) q2
          exact ⟨_, _, _, _, v, rfl, e1, F.cl, F.no, e5, l _ _ M1 H1 g k e6 w1⟩
        · exact w1.elim
      · exact w1.elim
    · exact w1.elim
/-! ### methods of lists and texts -/
abbrev WM := Dt → List Dt → Mh → (Dt → Mh → Prop) → Prop
def mW (U : Ev) (g : WM) : V → List V → Hp → VK → Prop := fun x xs H Q => ∃ d ds M R, MOk U H M ∧ Rp U H x d ∧ Rps U H xs ds ∧ g d ds M R ∧ Lv U M H R Q
theorem MtR.mono {id : String} {r r' : V → List V → Hp → VK → Prop} (h : MtR X id r) (m : ∀ x xs H Q, r' x xs H Q → r x xs H Q) : MtR X id r' := fun pins s σ H x xs v us Q I rx rs q => h pins s σ H x xs v us Q I rx rs (m _ _ _ _ q)
def wBmL (g : WM) (wo : WE) (wa : WA) : WE := fun δ M R => wo δ M fun x M1 => match sql M1 x with
  | some _ => wa δ M1 fun ds M2 => g x ds M2 R
  | none => False
def wBmS (g : WM) (wo : WE) (wa : WA) : WE := fun δ M R => wo δ M fun x M1 => match x with
  | .str z => wa δ M1 fun ds M2 => g (.str z) ds M2 R
  | _ => False
variable {o : Expr} {wo : WE} {gm : WM}
theorem d_bmL {id : String} {name : Str} {apos cpos : Pos} (hK : X.K = U.K) (slot : Slot "list" name id) (hty : typeOf (.builtin id) = pure (.type "method_descriptor")) (hm : MtR X id (mW U gm)) (ho : DE X U o wo) (ha : DA X U (e :: es) wr)
    (hbase : attributeBase o name X.env (eval o X.env) = eval o X.env := by rfl)
    (hfew : ((backTo cpos (starEach (e :: es) X.env)).all (fun x => !x.1) && (backToKw cpos (keywordEach [] X.env)).all (fun x => x.1.isSome)
      && decide ((e :: es).length + ([] : List Keyword).length + (if ([] : List Keyword).isEmpty then 0 else 1) < 30)) = true := by rfl)
    (hline : (apos.endLine == cpos.line) = true := by rfl) (hs : starEach (e :: es) X.env = (false, eval e X.env) :: starEach es X.env := by rfl) (hplain : (backTo cpos (starEach es X.env)).any (·.1) = false := by rfl) :
    DE X U (.Call (.Attribute o name apos) (e :: es) [] cpos) (wBmL gm wo wr) :=
  PE.mono (pe_bm PySem.F.plainAttrs_list slot hty hm ho ha hbase hfew hline hs hplain) fun _ _ _ ⟨δ, M, R, E, w, l⟩ => by
    refine ⟨δ, M, _, E, w, fun v d M1 H1 g k r w1 => ?_⟩
    split at w1
    · rename_i ls q
      obtain ⟨p, vs, rfl, hs, rs, hl⟩ := sql_ok k r q
      rw [hK]
      refine ⟨.inl ⟨rfl, _, hs⟩, δ, M1, _, E.go g k, w1, fun us ds M2 H2 g2 k2 r2 w2 => ?_⟩
      exact ⟨d, ds, M2, R, k2, r.k (g2.kp k), r2, w2, l.go (g.trans g2)⟩
    · exact w1.elim
theorem d_bmL0 {id : String} {name : Str} {apos cpos : Pos} (hK : X.K = U.K) (slot : Slot "list" name id) (hty : typeOf (.builtin id) = pure (.type "method_descriptor")) (hm : MtR X id (mW U gm)) (ho : DE X U o wo)
    (hbase : attributeBase o name X.env (eval o X.env) = eval o X.env := by rfl) (hline : (apos.endLine == cpos.line) = true := by rfl) :
    DE X U (.Call (.Attribute o name apos) [] [] cpos) (wBmL gm wo wNil) :=
  PE.mono (pe_bm0 PySem.F.plainAttrs_list slot hty hm ho hbase hline) fun _ _ _ ⟨δ, M, R, E, w, l⟩ => by
    refine ⟨δ, M, _, E, w, fun v d M1 H1 g k r w1 => ?_⟩
    split at w1
    · rename_i ls q
      obtain ⟨p, vs, rfl, hs, rs, hl⟩ := sql_ok k r q
      rw [hK]
      exact ⟨.inl ⟨rfl, _, hs⟩, d, [], M1, R, k, r, .nil, w1, l.go g⟩
    · exact w1.elim
theorem nn {M : Mh} {p : Addr} {m : Mo} (q : M p = some m) : M p ≠ none := by rw [q]; exact Option.some_ne_none _
def gApp : WM := fun x ds M R => match x, ds with
  | .ptr a, [d] => match M a with
    | some (.lst l) => l.length < sizeLine ∧ R .non (updM M a (.lst (l ++ [d])))
    | _ => False
  | _, _ => False
theorem m_app : MtR X "list.append" (mW U gApp) := MtR.mono mt_append fun x xs H Q ⟨d, ds, M, R, k, r, rs, w, l⟩ => by
  unfold gApp at w
  split at w
  · obtain ⟨y, rfl, ry⟩ := one_rps rs
    cases r
    split at w
    · rename_i ls q
      obtain ⟨vs, e1, e2, e3⟩ := k _ _ q
      have hz := nn q
      refine ⟨_, vs, y, rfl, rfl, e1, by rw [e3.len]; exact w.1, ?_⟩
      have kp := KPm.upd (o := .lst (vs ++ [y])) k (.inl hz)
      exact l _ _ _ _ (.set hz) (k.put (m := .lst (ls ++ [_])) (.inl hz) ⟨_, upd_same, by rw [List.length_append]; exact w.1, ((e3.k kp).app (.cons (ry.k kp) .nil))⟩) .non w.2
    · exact w.elim
  · exact w.elim
def gPop : WM := fun x ds M R => match x, ds with
  | .ptr a, [] => match M a with
    | some (.lst l) => match l[l.length - 1]? with
      | some d => R d (updM M a (.lst l.dropLast))
      | none => False
    | _ => False
  | _, _ => False
theorem m_pop : MtR X "list.pop" (mW U gPop) := MtR.mono mt_pop fun x xs H Q ⟨d, ds, M, R, k, r, rs, w, l⟩ => by
  unfold gPop at w
  split at w
  · cases rs
    cases r
    split at w
    · rename_i ls q
      split at w
      · rename_i d q2
        obtain ⟨vs, e1, e2, e3⟩ := k _ _ q
        have hz := nn q
        obtain ⟨y, h1, h2⟩ := e3.get q2
        refine ⟨_, vs, y, rfl, rfl, e1, by rw [e3.len]; exact h1, ?_⟩
        have kp := KPm.upd (o := .lst vs.dropLast) k (.inl hz)
        refine l _ _ _ _ (.set hz) (k.put (m := .lst ls.dropLast) (.inl hz) ⟨_, upd_same, ?_, ?_⟩) (h2.k kp) w
        · rw [List.length_dropLast]; omega
        · have q3 := (e3.k kp).take (ls.length - 1)
          rw [← List.dropLast_eq_take] at q3
          rw [← e3.len, ← List.dropLast_eq_take] at q3
          exact q3
      · exact w.elim
    · exact w.elim
  · exact w.elim
def gPopAt : WM := fun x ds M R => match x, ds with
  | .ptr a, [.int i] => match M a with
    | some (.lst l) => match ixN l.length i with
      | some j => match l[j]? with
        | some d => R d (updM M a (.lst (l.eraseIdx j)))
        | none => False
      | none => False
    | _ => False
  | _, _ => False
theorem m_popAt : MtR X "list.pop" (mW U gPopAt) := MtR.mono mt_popAt fun x xs H Q ⟨d, ds, M, R, k, r, rs, w, l⟩ => by
  unfold gPopAt at w
  split at w
  · obtain ⟨y, rfl, ry⟩ := one_rps rs
    cases r
    cases ry
    split at w
    · rename_i ls q
      split at w
      · rename_i j q1
        split at w
        · rename_i d q2
          obtain ⟨vs, e1, e2, e3⟩ := k _ _ q
          have hz := nn q
          obtain ⟨y, h1, h2⟩ := e3.get q2
          obtain ⟨s1, s2, s3, s4⟩ := ixN_seq q1
          have hsl : sizeLine < 2 ^ 62 := by decide
          refine ⟨_, vs, _, j, y, rfl, rfl, e1, by omega, by omega, by rw [e3.len]; exact s1, h1, ?_⟩
          have kp := KPm.upd (o := .lst (vs.eraseIdx j)) k (.inl hz)
          refine l _ _ _ _ (.set hz) (k.put (m := .lst (ls.eraseIdx j)) (.inl hz) ⟨_, upd_same, ?_, ?_⟩) (h2.k kp) w
          · have := List.length_eraseIdx_le ls j
            omega
          · exact (e3.k kp).del j
        · exact w.elim
      · exact w.elim
    · exact w.elim
  · exact w.elim
/-- xs.extend(ys), ys a list that is only read -/
def gExt : WM := fun x ds M R => match x, ds with
  | .ptr a, [.lst l2] => match M a with
    | some (.lst l) => l.length + l2.length ≤ sizeLine ∧ R .non (updM M a (.lst (l ++ l2)))
    | _ => False
  | _, _ => False
theorem m_ext : MtR X "list.extend" (mW U gExt) := MtR.mono mt_extendR fun x xs H Q ⟨d, ds, M, R, k, r, rs, w, l⟩ => by
  unfold gExt at w
  split at w
  · obtain ⟨y, rfl, ry⟩ := one_rps rs
    cases r
    split at w
    · rename_i ls q
      obtain ⟨vs, e1, e2, e3⟩ := k _ _ q
      have hz := nn q
      cases ry with | lst b1 b2 b3 =>
      refine ⟨_, _, vs, _, rfl, rfl, e1, .inr ⟨_, b1⟩, by rw [e3.len, b3.len]; exact w.1, ?_⟩
      have kp := fun u => KPm.upd (o := u) k (.inl hz)
      exact l _ _ _ _ (.set hz) (k.put (m := .lst (ls ++ _)) (.inl hz) ⟨_, upd_same, by rw [List.length_append]; exact w.1, ((e3.k (kp _)).app (b3.k (kp _)))⟩) .non w.2
    · exact w.elim
  · exact w.elim
end
end Lw
namespace Lw
open PySem PySem.Spec PyProof.Rows L2
section
variable {X : Cx} {U : Ev} {EX : XK} {a b c e : Expr} {es : List Expr} {pos pos' : Pos} {wa wb we : WE} {g : W2} {ta tb : WT} {ws wt : WS} {st : Stmt} {rest : List Stmt}
/-! ### statements -/
theorem Ls.mapNx {M : Mh} {H : Hp} {R : De} {D : Ends} {nx : Sl → Mh → Prop} {nx' : L2.St → Hp → Prop} (l : Ls U EX M H R D) (h : ∀ σ' H' δ' M', Go M H M' H' → DEnv U σ' H' δ' M' → nx δ' M' → nx' σ' H') : Ls U EX M H { R with nx := nx } { D with nx := nx' } :=
  ⟨h, l.rt, l.bk, l.ct, l.ex⟩
def wNext : WS := fun δ M R => R.nx δ M
def wSeq (a b : WS) : WS := fun δ M R => a δ M { R with nx := fun δ' M' => b δ' M' R }
theorem ds_nil : DSs X U EX [] wNext := PSs.mono pss_nil fun _ _ _ ⟨δ, M, R, E, w, l⟩ => l.nx _ _ δ M .refl E w
theorem ds_cons (h1 : DS X U EX st ws) (h2 : DSs X U EX rest wt) : DSs X U EX (st :: rest) (wSeq ws wt) := PSs.mono (pss_cons h1 h2) fun D σ H ⟨δ, M, R, E, w, l⟩ =>
  ⟨δ, M, _, E, w, l.mapNx fun σ' H' δ' M' g E' w' => ⟨δ', M', R, E', w', l.go g⟩⟩
theorem ds_one (h1 : DS X U EX st ws) : DSs X U EX [st] ws := pss_one h1
def wBreak : WS := fun δ M R => R.bk δ M
def wCont : WS := fun δ M R => R.ct δ M
theorem ds_pass : DS X U EX (.Pass pos) wNext := PS.mono ps_pass fun _ _ _ ⟨δ, M, R, E, w, l⟩ => l.nx _ _ δ M .refl E w
theorem ds_break : DS X U EX (.Break pos) wBreak := PS.mono ps_break fun _ _ _ ⟨δ, M, R, E, w, l⟩ => l.bk _ _ δ M .refl E w
theorem ds_cont : DS X U EX (.Continue pos) wCont := PS.mono ps_continue fun _ _ _ ⟨δ, M, R, E, w, l⟩ => l.ct _ _ δ M .refl E w
def wExpr (we : WE) : WS := fun δ M R => we δ M fun _ M1 => R.nx δ M1
theorem ds_expr (he : DE X U e we) (hs : swapsWith e none pos.line X.env = pure false := by rfl) : DS X U EX (.Expr e pos) (wExpr we) := PS.mono (ps_expr he hs) fun _ _ _ ⟨δ, M, R, E, w, l⟩ =>
  ⟨δ, M, _, E, w, fun v d M1 H1 g k r w1 => l.nx _ _ δ M1 g (E.go g k) w1⟩
def wRet (we : WE) : WS := fun δ M R => we δ M R.rt
theorem ds_ret (he : DE X U e we) : DS X U EX (.Return (some e) pos) (wRet we) := PS.mono (ps_ret he) fun _ _ _ ⟨δ, M, R, E, w, l⟩ =>
  ⟨δ, M, _, E, w, fun v d M1 H1 g k r w1 => l.rt v d M1 H1 g k r w1⟩
def wRetN : WS := fun _ M R => R.rt .non M
theorem ds_retN : DS X U EX (.Return none pos) wRetN := PS.mono ps_retN fun _ _ _ ⟨δ, M, R, E, w, l⟩ => l.rt _ _ M _ .refl E.mem .non w
/-- return x, x a list that may change: locked -/
def frzV (M : Mh) : Dt → Option (Dt × Mh)
  | .ptr a => match M a with
    | some (.lst l) => some (.lst l, delM M a)
    | _ => none
  | d => some (d, M)
def wFz (we : WE) : WE := fun δ M R => we δ M fun x M1 => match frzV M1 x with
  | some (d, M2) => R d M2
  | none => False
theorem d_fz (he : DE X U e we) : DE X U e (wFz we) := PE.mono (pe_lockO he) fun σ H Q ⟨δ, M, R, E, w, l⟩ => by
  refine ⟨δ, M, _, E, w, fun v d M1 H1 g k r w1 => ?_⟩
  unfold frzV at w1
  cases d with
  | ptr p =>
    simp only at w1
    rcases q : M1 p with _ | m
    · simp [q] at w1
    · cases m with
      | lst ls =>
        simp only [q] at w1
        cases r
        obtain ⟨vs, e1, e2, e3⟩ := k p _ q
        have kp := fun o => KPm.upd (p := p) (o := o) k (.inl (nn q))
        refine .inr ⟨p, _, rfl, e1, trivial, fun od => ?_⟩
        exact l _ _ _ _ (g.trans (.fz (nn q))) (k.del (nn q)) (.lst upd_same e2 (e3.k (kp _))) w1
      | _ => simp [q] at w1
  | _ => exact .inl (l _ _ M1 H1 g k r w1)
/-! conditions -/
def wIf (t : WT) (a b : WS) : WS := fun δ M R => t δ M fun c M1 => match c with
  | true => a δ M1 R
  | false => b δ M1 R
variable {sa sb : List Stmt} {wsa wsb : WS}
theorem ds_if (hc : DT X U c ta) (ha : DSs X U EX sa wsa) (hb : DSs X U EX sb wsb) : DS X U EX (.If c sa sb pos) (wIf ta wsa wsb) := PS.mono (ps_if hc ha hb) fun _ _ _ ⟨δ, M, R, E, w, l⟩ => by
  refine ⟨δ, M, _, E, w, fun b M1 H1 g k w1 => ?_⟩
  cases b with
  | true => exact ⟨δ, M1, R, E.go g k, w1, l.go g⟩
  | false => exact ⟨δ, M1, R, E.go g k, w1, l.go g⟩
/-! targets -/
abbrev WG := Dt → Sl → Mh → (Sl → Mh → Prop) → Prop
def gW (U : Ev) (W : WG) : TG := fun v σ H Q => ∃ d δ M R, DEnv U σ H δ M ∧ Rp U H v d ∧ W d δ M R ∧ ∀ σ' H' δ' M', Go M H M' H' → DEnv U σ' H' δ' M' → R δ' M' → Q σ' H'
abbrev DG (X : Cx) (U : Ev) (e : Expr) (W : WG) : Prop := PG X e (gW U W)
theorem PG.mono {e : Expr} {t t' : TG} (h : PG X e t) (m : ∀ v σ H Q, t' v σ H Q → t v σ H Q) : PG X e t' := ⟨fun pins s σ H v u Q I r z => h.run pins s σ H v u Q I r (m _ _ _ _ z)⟩
def wgN (i : Nat) : WG := fun d δ M R => R (δ.set i (some d)) M
theorem dg_name {i : Nat} {x : Str} (h : PG X (.Name x pos) (gName i)) : DG X U (.Name x pos) (wgN i) := PG.mono h fun v σ H Q ⟨d, δ, M, R, E, r, w, l⟩ => l _ _ _ M .refl (E.set i r) w
abbrev WGs := List Dt → Sl → Mh → (Sl → Mh → Prop) → Prop
def gsW (U : Ev) (W : WGs) : TGs := fun vs σ H Q => ∃ ds δ M R, DEnv U σ H δ M ∧ Rps U H vs ds ∧ W ds δ M R ∧ ∀ σ' H' δ' M', Go M H M' H' → DEnv U σ' H' δ' M' → R δ' M' → Q σ' H'
abbrev DGs (X : Cx) (U : Ev) (es : List Expr) (W : WGs) : Prop := PGs X es (gsW U W)
theorem PGs.mono {e : List Expr} {t t' : TGs} (h : PGs X e t) (m : ∀ v σ H Q, t' v σ H Q → t v σ H Q) : PGs X e t' := ⟨fun pins s σ H v u Q I r z => h.run pins s σ H v u Q I r (m _ _ _ _ z)⟩
def wgNil : WGs := fun ds δ M R => match ds with
  | [] => R δ M
  | _ => False
def wgCons (t : WG) (u : WGs) : WGs := fun ds δ M R => match ds with
  | d :: r => t d δ M fun δ' M' => u r δ' M' R
  | [] => False
theorem dgs_nil : DGs X U [] wgNil := PGs.mono pgs_nil fun vs σ H Q ⟨ds, δ, M, R, E, r, w, l⟩ => by
  unfold wgNil at w
  split at w
  · cases r; exact ⟨rfl, l _ _ _ _ .refl E w⟩
  · exact w.elim
theorem dgs_cons {t : WG} {u : WGs} (h1 : DG X U e t) (h2 : DGs X U es u) (hs : (assignEach (e :: es) X.env).map (·.2) = assign e X.env :: (assignEach es X.env).map (·.2) := by rfl) : DGs X U (e :: es) (wgCons t u) :=
  PGs.mono (pgs_cons h1 h2 hs) fun vs σ H Q ⟨ds, δ, M, R, E, r, w, l⟩ => by
    unfold wgCons at w
    split at w
    · cases r with | cons r1 r2 =>
      exact ⟨_, _, rfl, _, δ, M, _, E, r1, w, fun σ' H' δ' M' g E' w' => ⟨_, δ', M', R, E', r2.k (g.kp E.mem), w', fun σ2 H2 δ2 M2 g2 => l σ2 H2 δ2 M2 (g.trans g2)⟩⟩
    · exact w.elim
def wgTup (n : Nat) (t : WGs) : WG := fun d δ M R => match d with
  | .tup l => l.length = n ∧ t l δ M R
  | _ => False
theorem dg_tup {k : Nat} {t : WGs} {n : Nat} (hK : X.K = U.K) (hc : X.calm = true) (h : DGs X U es t) (hn : (assignEach es X.env).length = n := by rfl) (hst : (assignEach es X.env).findIdx? (·.1) = none := by rfl) : DG X U (.Tuple es k pos) (wgTup n t) :=
  PG.mono (pg_tup hc h hn hst) fun v σ H Q ⟨d, δ, M, R, E, r, w, l⟩ => by
    unfold wgTup at w
    split at w
    · cases r with | tup a b c =>
      rw [hK]
      exact ⟨_, _, rfl, a, by rw [c.len]; exact w.1, _, δ, M, R, E, c, w.2, l⟩
    · exact w.elim
def wAsg (we : WE) (g : WG) : WS := fun δ M R => we δ M fun d M1 => g d δ M1 R.nx
variable {tg : Expr} {wg : WG}
theorem ds_asg (he : DE X U e we) (hg : DG X U tg wg) (hs : swapsWithSole [tg] e pos.line X.env = pure false := by rfl) (hw : swappedStores [tg] e X.env = pure none := by rfl)
    (h1 : (assignEach [tg] X.env).map (·.2) = [assign tg X.env] := by rfl) : DS X U EX (.Assign [tg] e pos) (wAsg we wg) := PS.mono (ps_asg he hg hs hw h1) fun _ _ _ ⟨δ, M, R, E, w, l⟩ =>
  ⟨δ, M, _, E, w, fun v d M1 H1 g k r w1 => ⟨d, δ, M1, _, E.go g k, r, w1, fun σ' H' δ' M' g' E' w' => l.nx _ _ _ _ (g.trans g') E' w'⟩⟩
theorem ds_set {i : Nat} {x : Str} (hN : X.N.Nodup) (hi : X.N[i]? = some x) (hx : Loc X.env.scope x) (he : DE X U e we) (hs : swapsWith e (some (.Name x pos')) pos.line X.env = pure false := by rfl) (hf : X.fn x = true ∨ X.env.scope.names.lookup x = some .local := by first | exact .inl rfl | exact .inr rfl | assumption) :
    DS X U EX (.Assign [.Name x pos'] e pos) (wAsg we (wgN i)) := PS.mono (ps_set hN hi hx he hs hf) fun _ _ _ ⟨δ, M, R, E, w, l⟩ =>
  ⟨δ, M, _, E, w, fun v d M1 H1 g k r w1 => l.nx _ _ _ _ g ((E.go g k).set i r) w1⟩
/-- a, b = x, y -/
def wPar (i j : Nat) (wa : WA) : WS := fun δ M R => wa δ M fun ds M1 => match ds with
  | [x, y] => R.nx ((δ.set i (some x)).set j (some y)) M1
  | _ => False
theorem ds_par {i j : Nat} {x y : Str} {px py pt : Pos} {kt k2 pt2} {wr : WA} (hc : X.calm = true) (hN : X.N.Nodup) (hi : X.N[i]? = some x) (hj : X.N[j]? = some y) (hij : i ≠ j)
    (hx : X.env.scope.names.lookup x = some .local) (hy : X.env.scope.names.lookup y = some .local) (ha : DA X U [a, b] wr)
    (hw : swappedStores [.Tuple [.Name x px, .Name y py] kt pt] (.Tuple [a, b] k2 pt2) X.env = pure (some [x, y]))
    (hs : swapsWithSole [.Tuple [.Name x px, .Name y py] kt pt] (.Tuple [a, b] k2 pt2) pos.line X.env = pure false := by rfl) :
    DS X U EX (.Assign [.Tuple [.Name x px, .Name y py] kt pt] (.Tuple [a, b] k2 pt2) pos) (wPar i j wr) := PS.mono (ps_par hc hN hi hj hij hx hy ha hw hs) fun _ _ _ ⟨δ, M, R, E, w, l⟩ => by
  refine ⟨δ, M, _, E, w, fun vs ds M1 H1 g k r w1 => ?_⟩
  split at w1
  · obtain ⟨v, u, rfl, r1, r2⟩ := two_rps r
    exact ⟨_, _, rfl, l.nx _ _ _ _ g (((E.go g k).set i r1).set j r2) w1⟩
  · exact w1.elim
/-- o[i] = e, o a list that may change -/
def wgSub (wo wi : WE) : WG := fun d δ M R => wo δ M fun x M1 => wi δ M1 fun y M2 => match x, y with
  | .ptr a, .int i => match M2 a with
    | some (.lst l) => match ixN l.length i with
      | some j => R δ (updM M2 a (.lst (l.set j d)))
      | none => False
    | _ => False
  | _, _ => False
variable {o ie : Expr} {wo wi : WE}
theorem dg_sub (ho : DE X U o wo) (hi : DE X U ie wi)
    (ha : ∀ v, assign (.Subscript o ie pos) X.env v = (do
      let ov ← holding [v] (eval o X.env)
      let iv ← holding [v, ov] (eval ie X.env)
      standAt pos
      holding [v, ov, iv] (setItem ov iv v)
      release [v, ov, iv] []) := by intro _; rfl) : DG X U (.Subscript o ie pos) (wgSub wo wi) := PG.mono (pg_sub ho hi set_list ha) fun v σ H Q ⟨d, δ, M, R, E, r, w, l⟩ => by
  refine ⟨δ, M, _, E, w, fun xo d1 M1 H1 g1 k1 r1 w1 => ⟨δ, M1, _, E.go g1 k1, w1, fun yo d2 M2 H2 g2 k2 r2 w2 => ?_⟩⟩
  split at w2
  · cases r1
    cases r2
    split at w2
    · rename_i ls q
      split at w2
      · rename_i j q2
        obtain ⟨vs, e1, e2, e3⟩ := k2 _ _ q
        have g := g1.trans g2
        have rr := r.k (g.kp E.mem)
        have kp := fun o => KPm.upd (o := o) k2 (.inl (nn q))
        refine ⟨_, vs, _, j, rfl, rfl, e1, by rw [e3.len]; exact q2, ?_⟩
        have g' := g.trans (.set (o := .lst (vs.set j v)) (m := .lst (ls.set j d)) (nn q))
        exact l _ _ δ _ g' (E.go g' (k2.put (m := .lst (ls.set j d)) (.inl (nn q)) ⟨_, upd_same, by rw [List.length_set]; exact e2, (e3.k (kp _)).set (rr.k (kp _)) j⟩)) w2
      · exact w2.elim
    · exact w2.elim
  · exact w2.elim
/-- o.f = e, o an instance that may change -/
def wSetF (wo we : WE) (c f : Str) : WS := fun δ M R => we δ M fun d M1 => wo δ M1 fun x M2 => match x with
  | .ptr a => match M2 a with
    | some (.ins c' ns l) => c' = c ∧ ns.idxOf f < ns.length ∧ R.nx δ (updM M2 a (.ins c ns (l.set (ns.idxOf f) d)))
    | _ => False
  | _ => False
/-! what is walked -/
/-- an iterator over data: what it walks never changes -/
def ItD (U : Ev) (J : It) (l : List Dt) (H : Hp) : Prop := ∃ G Y, Walk J l.length G Y ∧ (∀ H', KPm U H H' → G H') ∧ ∀ i H1 x H2 d, i < l.length → l[i]? = some d → KPm U H H1 → Y i H1 x H2 → (H2 = H1 ∧ Rp U H1 x d) ∨ ∃ T o, H1 T = none ∧ H2 = upd H1 T o ∧ Rp U H2 x d
abbrev WI := Sl → Mh → (List Dt → Mh → Prop) → Prop
def iW (U : Ev) (W : WI) : TI := fun σ H R => ∃ δ M R', DEnv U σ H δ M ∧ W δ M R' ∧ ∀ J l M' H', Go M H M' H' → MOk U H' M' → ItD U J l H' → R' l M' → R J H'
abbrev DI (X : Cx) (U : Ev) (tg iter : Expr) (W : WI) : Prop := PI X tg iter (iW U W)
theorem PI.mono {tg it : Expr} {t t' : TI} (h : PI X tg it t) (m : ∀ σ H Q, t' σ H Q → t σ H Q) : PI X tg it t' := ⟨fun pins s σ H R I z => h.run pins s σ H R I (m _ _ _ z)⟩
theorem itd_seq {J : It} {vs : List V} {l : List Dt} {H : Hp} {G : Hp → Prop} (w : Walk J vs.length G (YAt vs)) (hG : ∀ H', KPm U H H' → G H') (r : Rps U H vs l) : ItD U J l H := by
  refine ⟨G, YAt vs, by rw [← r.len]; exact w, hG, fun i H1 x H2 d hi hd kp y => .inl ⟨y.1, ?_⟩⟩
  obtain ⟨v, h1, h2⟩ := r.get hd
  rw [y.2] at h1
  cases h1
  exact h2.k kp
/-- a list or a tuple that never changes -/
def wiS (we : WE) : WI := fun δ M R => we δ M fun x M1 => match x with
  | .tup l => R l M1
  | .lst l => R l M1
  | _ => False
variable {tgt : Expr}
theorem di_lst (hK : X.K = U.K) (he : DE X U e we) : DI X U tgt e (wiS fun δ M R => we δ M fun x M1 => match x with
  | .lst l => R (.lst l) M1
  | _ => False) := PI.mono (pi_list he) fun _ _ _ ⟨δ, M, R, E, w, l⟩ => by
  refine ⟨δ, M, _, E, w, fun v d M1 H1 g k r w1 => ?_⟩
  rw [hK]
  split at w1
  · cases r with | lst a b c =>
    exact ⟨_, rfl, ⟨_, .inl (.inr ⟨_, a⟩)⟩, l _ _ _ _ g k (itd_seq walk_list (fun H' kp => .inl (.inr ⟨_, kp _ _ a trivial⟩)) c) w1⟩
  · exact w1.elim
/-- a list alone -/
def wiL (we : WE) : WI := fun δ M R => we δ M fun x M1 => match x with
  | .lst l => R l M1
  | _ => False
def wiT (we : WE) : WI := fun δ M R => we δ M fun x M1 => match x with
  | .tup l => R l M1
  | _ => False
theorem di_l (hK : X.K = U.K) (he : DE X U e we) : DI X U tgt e (wiL we) := PI.mono (pi_list he) fun _ _ _ ⟨δ, M, R, E, w, l⟩ => by
  refine ⟨δ, M, _, E, w, fun v d M1 H1 g k r w1 => ?_⟩
  rw [hK]
  split at w1
  · cases r with | lst a b c =>
    exact ⟨_, rfl, ⟨_, .inl (.inr ⟨_, a⟩)⟩, l _ _ _ _ g k (itd_seq walk_list (fun H' kp => .inl (.inr ⟨_, kp _ _ a trivial⟩)) c) w1⟩
  · exact w1.elim
theorem di_t (hK : X.K = U.K) (he : DE X U e we) : DI X U tgt e (wiT we) := PI.mono (pi_tup he) fun _ _ _ ⟨δ, M, R, E, w, l⟩ => by
  refine ⟨δ, M, _, E, w, fun v d M1 H1 g k r w1 => ?_⟩
  rw [hK]
  split at w1
  · cases r with | tup a b c =>
    exact ⟨_, rfl, ⟨_, a⟩, l _ _ _ _ g k (itd_seq walk_tup (fun H' kp => sqT_k kp a) c) w1⟩
  · exact w1.elim
/-- a text, sign by sign -/
def sgn (z : Str) : List Dt := z.cps.toList.map fun c => .str ⟨#[c]⟩
def wiC (we : WE) : WI := fun δ M R => we δ M fun x M1 => match x with
  | .str z => R (sgn z) M1
  | _ => False
theorem di_c (he : DE X U e we) : DI X U tgt e (wiC we) := PI.mono (pi_str he) fun _ _ _ ⟨δ, M, R, E, w, l⟩ => by
  refine ⟨δ, M, _, E, w, fun v d M1 H1 g k r w1 => ?_⟩
  split at w1
  · rename_i z
    cases r with | str a b =>
    refine ⟨_, rfl, l _ _ _ _ g k ⟨fun _ => True, (fun i H v H' => H' = H ∧ ∃ c, z.cps[i]? = some c ∧ v = .str ⟨#[c]⟩), ?_, fun _ _ => trivial, fun i H1 x H2 d hi hd kp y => .inl ⟨y.1, ?_⟩⟩ w1⟩
    · have e : (sgn z).length = z.cps.size := by unfold sgn; rw [List.length_map, Array.length_toList]
      rw [e]
      exact walk_str
    · obtain ⟨e1, c, hc, rfl⟩ := y
      unfold sgn at hd
      rw [List.getElem?_map, Array.getElem?_toList, hc] at hd
      cases hd
      exact .str (strOk_one a (by rw [Array.mem_toList_iff]; exact Array.mem_of_getElem? hc)) (by show 1 ≤ sizeLine; decide)
  · exact w1.elim
/-- range(n), range(i, j) -/
def rng (lo : Int) (n : Nat) : List Dt := (List.range n).map fun i => .int (lo + (i : Nat))
theorem itd_rng {lo : Int} {n : Nat} {H : Hp} : ItD U (Itr lo n) (rng lo n) H := by
  have e : (rng lo n).length = n := by unfold rng; rw [List.length_map, List.length_range]
  refine ⟨fun _ => True, YFn fun i => .int (lo + i), by rw [e]; exact walk_range, fun _ _ => trivial, fun i H1 x H2 d hi hd kp y => .inl ⟨y.1, ?_⟩⟩
  unfold rng at hd
  rw [e] at hi
  rw [List.getElem?_map, List.getElem?_range hi] at hd
  cases hd
  rw [y.2]
  exact .int
def big (i : Int) : Bool := decide (-(2 ^ 62) ≤ i) && decide (i < 2 ^ 62)
theorem big_ok {i : Int} (h : big i = true) : -(2 ^ 62) ≤ i ∧ i < 2 ^ 62 := by
  unfold big at h
  rw [Bool.and_eq_true, decide_eq_true_eq, decide_eq_true_eq] at h
  exact h
def wiR1 (wr : WA) : WI := fun δ M R => wr δ M fun ds M1 => match ds with
  | [.int j] => big j = true ∧ R (rng 0 j.toNat) M1
  | _ => False
def wiR2 (wr : WA) : WI := fun δ M R => wr δ M fun ds M1 => match ds with
  | [.int i, .int j] => big i = true ∧ big j = true ∧ R (rng i (j - i).toNat) M1
  | _ => False
variable {wr : WA} {p : Pos}
theorem di_r1 (h : ∀ {t : TA}, PA X [a] t → PI X tgt (.Call (.Name "range" p) [a] [] pos) (iRng1 t)) (ha : DA X U [a] wr) : DI X U tgt (.Call (.Name "range" p) [a] [] pos) (wiR1 wr) := PI.mono (h ha) fun _ _ _ ⟨δ, M, R, E, w, l⟩ => by
  refine ⟨δ, M, _, E, w, fun vs ds M1 H1 g k r w1 => ?_⟩
  split at w1
  · obtain ⟨v, ev, r1⟩ := one_rps r
    subst ev
    cases r1
    obtain ⟨h1, h2⟩ := big_ok w1.1
    exact ⟨_, rfl, h1, h2, l _ _ _ _ g k itd_rng w1.2⟩
  · exact w1.elim
theorem di_r2 (h : ∀ {t : TA}, PA X [a, b] t → PI X tgt (.Call (.Name "range" p) [a, b] [] pos) (iRng2 t)) (ha : DA X U [a, b] wr) : DI X U tgt (.Call (.Name "range" p) [a, b] [] pos) (wiR2 wr) := PI.mono (h ha) fun _ _ _ ⟨δ, M, R, E, w, l⟩ => by
  refine ⟨δ, M, _, E, w, fun vs ds M1 H1 g k r w1 => ?_⟩
  split at w1
  · obtain ⟨v, u, ev, r1, r2⟩ := two_rps r
    subst ev
    cases r1
    cases r2
    obtain ⟨h1, h2⟩ := big_ok w1.1
    obtain ⟨h3, h4⟩ := big_ok w1.2.1
    exact ⟨_, _, rfl, ⟨h1, h2, h3, h4⟩, l _ _ _ _ g k itd_rng w1.2.2⟩
  · exact w1.elim
/-- enumerate(x), zip(x, y) of what never changes -/
def enm : Nat → List Dt → List Dt
  | _, [] => []
  | n, d :: r => .tup [.int (n : Nat), d] :: enm (n + 1) r
theorem enm_len : ∀ (l : List Dt) (n : Nat), (enm n l).length = l.length
  | [], _ => rfl
  | _ :: r, n => by rw [enm, List.length_cons, List.length_cons, enm_len r]
theorem enm_get : ∀ (l : List Dt) (n i : Nat), (enm n l)[i]? = l[i]?.map fun d => .tup [.int ((n + i : Nat) : Int), d]
  | [], _, _ => by simp [enm]
  | _ :: _, _, 0 => rfl
  | _ :: r, n, i + 1 => by
    rw [enm, List.getElem?_cons_succ, enm_get r (n + 1) i, List.getElem?_cons_succ]
    have e : n + 1 + i = n + (i + 1) := by omega
    rw [e]
def wiE (we : WA) : WI := fun δ M R => we δ M fun ds M1 => match ds with
  | [.lst l] => R (enm 0 l) M1
  | _ => False
theorem di_e (hK : X.K = U.K) (h : ∀ {t : TA}, PA X [a] t → PI X tgt (.Call (.Name "enumerate" p) [a] [] pos) (iEnum X.K t)) (ha : DA X U [a] wr) : DI X U tgt (.Call (.Name "enumerate" p) [a] [] pos) (wiE wr) := PI.mono (h ha) fun _ _ _ ⟨δ, M, R, E, w, l⟩ => by
  refine ⟨δ, M, _, E, w, fun vs ds M1 H1 g k r w1 => ?_⟩
  split at w1
  · rename_i ls
    obtain ⟨v, ev, r1⟩ := one_rps r
    subst ev
    cases r1 with | @lst aa vs _ o a b c =>
    rw [hK]
    refine ⟨_, _, rfl, .inl (.inr ⟨_, a⟩), l _ _ _ _ g k ⟨(fun H => SqL U.K H aa vs), (YPair (fun i => some (.int (i : Nat))) (fun i => vs[i]?)), ?_, fun H' kp => .inl (.inr ⟨_, kp _ _ a trivial⟩), fun i H1 x H2 d hi hd kp y => .inr ?_⟩ w1⟩
    · rw [enm_len, ← c.len]
      exact walk_enum
    · obtain ⟨T, x1, y1, rfl, hT, rfl, e1, e2⟩ := y
      cases e1
      rw [enm_get] at hd
      obtain ⟨d', h1, rfl⟩ := Option.map_eq_some_iff.mp hd
      obtain ⟨v', h2, h3⟩ := c.get h1
      have e3 : vs[i]? = some y1 := e2
      rw [h2] at e3
      cases e3
      refine ⟨T, _, hT, rfl, .tup (SqT.of upd_same) (by show 2 ≤ sizeLine; decide) (.cons ?_ (.cons ((h3.k kp).k fun b o e _ => same_upd hT b o e) .nil))⟩
      rw [Nat.zero_add]
      exact .int
  · exact w1.elim
/-! for -/
def forL (g : WG) (wb : WS) : List Dt → Sl → Mh → De → Prop
  | [], δ, M, R => R.nx δ M
  | d :: ds, δ, M, R => g d δ M fun δ1 M1 => wb δ1 M1 { R with nx := fun δ2 M2 => forL g wb ds δ2 M2 R, ct := fun δ2 M2 => forL g wb ds δ2 M2 R, bk := R.nx }
def wFor (wi : WI) (g : WG) (wb : WS) : WS := fun δ M R => wi δ M fun l M1 => forL g wb l δ M1 R
variable {wi : WI} {body : List Stmt} {wb : WS}
theorem ds_for (hp : PassesOwn (model X.prog X.w) X.A X.env X.xe) (hc : X.calm = true) (hi : DI X U tgt e wi) (hg : DG X U tgt wg) (hb : DSs X U EX body wb) (hs : ∀ x, foldedSetIterable e X.env x = pure x := by intro _; rfl) : DS X U EX (.For tgt e body [] pos) (wFor wi wg wb) := PS.mono (ps_for hp hc hi hg hb hs) fun D σ H ⟨δ, M, R, E, w, l⟩ => by
  refine ⟨δ, M, _, E, w, fun J ls M1 H1 g k ⟨G, Y, hw, hG, hY⟩ w1 => ?_⟩
  refine for_it hw (fun i σ' H' => ∃ δ' M', DEnv U σ' H' δ' M' ∧ Go M H M' H' ∧ KPm U H1 H' ∧ forL wg wb (ls.drop i) δ' M' R) ⟨δ, M1, E.go g k, g, fun _ _ h _ => h, w1⟩ (fun i σ' H' _ ⟨_, _, _, _, kp, _⟩ => hG H' kp) ?_ ?_
  · rintro i x σ2 H2 H3 hi ⟨δ2, M2, E2, g2, kp2, w2⟩ y
    have hd := List.getElem?_eq_getElem hi
    rw [List.drop_eq_getElem_cons hi] at w2
    have go : ∀ H4, Go M2 H2 M2 H4 → MOk U H4 M2 → Rp U H4 x ls[i] → gW U wg x σ2 H4 fun σ5 H5 => sW U EX wb { D with nx := fun σ' H' => ∃ δ' M', DEnv U σ' H' δ' M' ∧ Go M H M' H' ∧ KPm U H1 H' ∧ forL wg wb (ls.drop (i + 1)) δ' M' R, ct := fun σ' H' => ∃ δ' M', DEnv U σ' H' δ' M' ∧ Go M H M' H' ∧ KPm U H1 H' ∧ forL wg wb (ls.drop (i + 1)) δ' M' R, bk := D.nx } σ5 H5 := by
      intro H4 g4 k4 r4
      have E4 := E2.go g4 k4
      refine ⟨_, δ2, M2, _, E4, r4, w2, fun σ5 H5 δ5 M5 g5 E5 w5 => ⟨δ5, M5, _, E5, w5, ?_⟩⟩
      have gg := (g2.trans g4).trans g5
      have kk : KPm U H1 H5 := fun b o h p => (g5.kp E4.mem) b o ((g4.kp E2.mem) b o (kp2 b o h p) p) p
      refine ⟨fun σ6 H6 δ6 M6 g6 E6 w6 => ⟨δ6, M6, E6, gg.trans g6, fun b o h p => (g6.kp E5.mem) b o (kk b o h p) p, w6⟩, fun v d M6 H6 g6 => l.rt v d M6 H6 (gg.trans g6), fun σ6 H6 δ6 M6 g6 => l.nx _ _ _ _ (gg.trans g6), fun σ6 H6 δ6 M6 g6 E6 w6 => ⟨δ6, M6, E6, gg.trans g6, fun b o h p => (g6.kp E5.mem) b o (kk b o h p) p, w6⟩, fun c f x v d M6 H6 g6 => l.ex c f x v d M6 H6 (gg.trans g6)⟩
    rcases hY i H2 x H3 ls[i] hi hd kp2 y with ⟨rfl, r⟩ | ⟨T, o, hT, rfl, r⟩
    · exact go _ .refl E2.mem r
    · exact go _ (.new hT) (E2.mem.new hT) r
  · rintro σ2 H2 ⟨δ2, M2, E2, g2, kp2, w2⟩
    rw [List.drop_length] at w2
    exact l.nx _ _ _ _ g2 E2 w2
/-! while: at most n turns -/
def whN (t : WT) (wb : WS) : Nat → Sl → Mh → De → Prop
  | 0, _, _, _ => False
  | n + 1, δ, M, R => t δ M fun c M1 => match c with
    | true => wb δ M1 { R with nx := fun δ2 M2 => whN t wb n δ2 M2 R, ct := fun δ2 M2 => whN t wb n δ2 M2 R, bk := R.nx }
    | false => R.nx δ M1
def wWhile (t : WT) (wb : WS) : WS := fun δ M R => ∃ n, whN t wb n δ M R
theorem ds_while (hp : PassesOwn (model X.prog X.w) X.A X.env X.xe) (hc : DT X U c ta) (hb : DSs X U EX body wb) : DS X U EX (.While c body [] pos) (wWhile ta wb) := PS.mono (ps_while hp hc hb) fun D σ H ⟨δ, M, R, E, ⟨n, w⟩, l⟩ => by
  refine ⟨fun m σ' H' => ∃ δ' M', DEnv U σ' H' δ' M' ∧ Go M H M' H' ∧ whN ta wb m δ' M' R, ⟨n, δ, M, E, .refl, w⟩, ?_⟩
  rintro m σ1 H1 ⟨δ1, M1, E1, g1, w1⟩
  cases m with
  | zero => exact w1.elim
  | succ m =>
    refine ⟨δ1, M1, _, E1, w1, fun b M2 H2 g2 k2 w2 => ?_⟩
    cases b with
    | false => exact l.nx _ _ _ _ (g1.trans g2) (E1.go g2 k2) w2
    | true =>
      refine ⟨fun σ' H' => ∃ δ' M', DEnv U σ' H' δ' M' ∧ Go M H M' H' ∧ whN ta wb m δ' M' R, fun σ' H' z => ⟨m, Nat.lt_succ_self _, z⟩, ?_⟩
      have gg := g1.trans g2
      refine ⟨δ1, M2, _, E1.go g2 k2, w2, ?_⟩
      exact ⟨fun σ6 H6 δ6 M6 g6 E6 w6 => ⟨δ6, M6, E6, gg.trans g6, w6⟩, fun v d M6 H6 g6 => l.rt v d M6 H6 (gg.trans g6), fun σ6 H6 δ6 M6 g6 => l.nx _ _ _ _ (gg.trans g6), fun σ6 H6 δ6 M6 g6 E6 w6 => ⟨δ6, M6, E6, gg.trans g6, w6⟩, fun c f x v d M6 H6 g6 => l.ex c f x v d M6 H6 (gg.trans g6)⟩
end
end Lw
namespace Lw
open PySem PySem.Spec PyProof.Rows L2
section
variable {X : Cx} {U : Ev} {EX : XK} {a b c e : Expr} {es : List Expr} {pos pos' : Pos} {wa wb we : WE} {g : W2} {ta tb : WT} {ws wt : WS} {st : Stmt} {rest : List Stmt} {wr : WA} {tgt : Expr}
/-! ### comprehensions -/
theorem wipe_get (σ : L2.St) : ∀ (vs : List Nat) (j : Nat), j < σ.length → (wipe σ vs)[j]? = if j ∈ vs then some none else σ[j]?
  | [], j, _ => by simp [wipe]
  | v :: vs, j, h => by
    rw [wipe]
    by_cases z : v = j
    · subst z
      rw [List.getElem?_set_self (by rw [wipe_length]; exact h)]
      simp
    · rw [List.getElem?_set_ne z, wipe_get σ vs j h]
      have : (j ∈ v :: vs) ↔ j ∈ vs := by
        rw [List.mem_cons]
        constructor
        · rintro (e | e)
          · exact absurd e.symm z
          · exact e
        · exact .inr
      by_cases q : j ∈ vs
      · rw [if_pos q, if_pos (this.mpr q)]
      · rw [if_neg q, if_neg fun x => q (this.mp x)]
theorem wipe_set {σ : L2.St} {vs : List Nat} {i : Nat} {x : Option V} (h : i ∈ vs) : wipe (σ.set i x) vs = wipe σ vs := by
  refine List.ext_getElem? fun j => ?_
  by_cases hj : j < σ.length
  · rw [wipe_get _ _ _ (by rw [List.length_set]; exact hj), wipe_get _ _ _ hj]
    by_cases z : i = j
    · subst z
      rw [if_pos h, if_pos h]
    · rw [List.getElem?_set_ne z]
  · rw [List.getElem?_eq_none (by rw [wipe_length, List.length_set]; omega), List.getElem?_eq_none (by rw [wipe_length]; omega)]
theorem wipe_wipe {σ : L2.St} {vs : List Nat} : wipe (wipe σ vs) vs = wipe σ vs := by
  refine List.ext_getElem? fun j => ?_
  by_cases hj : j < σ.length
  · rw [wipe_get _ _ _ (by rw [wipe_length]; exact hj), wipe_get _ _ _ hj]
    by_cases z : j ∈ vs
    · rw [if_pos z, if_pos z]
    · rw [if_neg z, if_neg z]
  · rw [List.getElem?_eq_none (by rw [wipe_length, wipe_length]; omega), List.getElem?_eq_none (by rw [wipe_length]; omega)]
/-- the slots without some -/
def wipD (δ : Sl) : List Nat → Sl
  | [] => δ
  | v :: vs => (wipD δ vs).set v none
theorem wipD_length (δ : Sl) : ∀ vs : List Nat, (wipD δ vs).length = δ.length
  | [] => rfl
  | v :: vs => by unfold wipD; rw [List.length_set, wipD_length δ vs]
theorem wipD_some {δ : Sl} {i : Nat} {x : Dt} : ∀ {vs : List Nat}, (wipD δ vs)[i]? = some (some x) → δ[i]? = some (some x) ∧ i ∉ vs
  | [], h => ⟨h, by simp⟩
  | v :: vs, h => by
    unfold wipD at h
    by_cases z : v = i
    · subst z
      by_cases hl : v < (wipD δ vs).length
      · rw [List.getElem?_set_self hl] at h
        cases h
      · rw [List.getElem?_eq_none (by rw [List.length_set]; omega)] at h
        cases h
    · rw [List.getElem?_set_ne z] at h
      obtain ⟨h1, h2⟩ := wipD_some (vs := vs) h
      exact ⟨h1, by simp [h2, Ne.symm z]⟩
theorem DEnv.wip {σ : L2.St} {H : Hp} {δ : Sl} {M : Mh} (E : DEnv U σ H δ M) (vs : List Nat) : DEnv U (wipe σ vs) H (wipD δ vs) M := by
  refine ⟨by rw [wipe_length, wipD_length, E.len], fun i d h => ?_, E.mem⟩
  obtain ⟨h1, h2⟩ := wipD_some h
  obtain ⟨v, h3, h4⟩ := E.get i d h1
  refine ⟨v, ?_, h4⟩
  rw [wipe_get _ _ _ (by rw [E.len]; exact (List.getElem?_eq_some_iff.mp h1).1), if_neg h2]
  exact h3
/-- a target within a block: its own slots alone are set -/
def gWo (U : Ev) (own : List Nat) (W : WG) : TG := fun v σ H Q => ∃ d δ M R, DEnv U σ H δ M ∧ Rp U H v d ∧ W d δ M R ∧ ∀ σ' δ', wipe σ' own = wipe σ own → DEnv U σ' H δ' M → R δ' M → Q σ' H
abbrev DGo (X : Cx) (U : Ev) (own : List Nat) (e : Expr) (W : WG) : Prop := PG X e (gWo U own W)
theorem dgo_name {own : List Nat} {i : Nat} {x : Str} (h : PG X (.Name x pos) (gName i)) (hi : i ∈ own) : DGo X U own (.Name x pos) (wgN i) := PG.mono h fun v σ H Q ⟨d, δ, M, R, E, r, w, l⟩ => l _ _ (wipe_set hi) (E.set i r) w
def gsWo (U : Ev) (own : List Nat) (W : WGs) : TGs := fun vs σ H Q => ∃ ds δ M R, DEnv U σ H δ M ∧ Rps U H vs ds ∧ W ds δ M R ∧ ∀ σ' δ', wipe σ' own = wipe σ own → DEnv U σ' H δ' M → R δ' M → Q σ' H
abbrev DGso (X : Cx) (U : Ev) (own : List Nat) (es : List Expr) (W : WGs) : Prop := PGs X es (gsWo U own W)
theorem dgso_nil {own : List Nat} : DGso X U own [] wgNil := PGs.mono pgs_nil fun vs σ H Q ⟨ds, δ, M, R, E, r, w, l⟩ => by
  unfold wgNil at w
  split at w
  · cases r; exact ⟨rfl, l _ _ rfl E w⟩
  · exact w.elim
theorem dgso_cons {own : List Nat} {t : WG} {u : WGs} (h1 : DGo X U own e t) (h2 : DGso X U own es u) (hs : (assignEach (e :: es) X.env).map (·.2) = assign e X.env :: (assignEach es X.env).map (·.2) := by rfl) : DGso X U own (e :: es) (wgCons t u) :=
  PGs.mono (pgs_cons h1 h2 hs) fun vs σ H Q ⟨ds, δ, M, R, E, r, w, l⟩ => by
    unfold wgCons at w
    split at w
    · cases r with | cons r1 r2 =>
      exact ⟨_, _, rfl, _, δ, M, _, E, r1, w, fun σ' δ' e1 E' w' => ⟨_, δ', M, R, E', r2, w', fun σ2 δ2 e2 => l σ2 δ2 (e2.trans e1)⟩⟩
    · exact w.elim
theorem dgo_tup {own : List Nat} {k : Nat} {t : WGs} {n : Nat} (hK : X.K = U.K) (hc : X.calm = true) (h : DGso X U own es t) (hn : (assignEach es X.env).length = n := by rfl) (hst : (assignEach es X.env).findIdx? (·.1) = none := by rfl) : DGo X U own (.Tuple es k pos) (wgTup n t) :=
  PG.mono (pg_tup hc h hn hst) fun v σ H Q ⟨d, δ, M, R, E, r, w, l⟩ => by
    unfold wgTup at w
    split at w
    · cases r with | tup a b c =>
      rw [hK]
      exact ⟨_, _, rfl, a, by rw [c.len]; exact w.1, _, δ, M, R, E, c, w.2, l⟩
    · exact w.elim
def tsW (U : Ev) (W : WT) : TT := bW U W
abbrev DTs (X : Cx) (U : Ev) (ifs : List Expr) (W : WT) : Prop := PTs X ifs (bW U W)
def wYes : WT := fun _ M R => R true M
theorem PTs.mono {e : List Expr} {t t' : TT} (h : PTs X e t) (m : ∀ σ H Q, t' σ H Q → t σ H Q) : PTs X e t' := ⟨fun pins s σ H Q I z => h.run pins s σ H Q I (m _ _ _ z)⟩
theorem dts_nil : DTs X U [] wYes := PTs.mono pts_nil fun _ _ _ ⟨δ, M, R, E, w, l⟩ => l _ _ _ .refl E.mem w
theorem dts_one (h : DT X U c ta) : DTs X U [c] ta := pts_one h
def lcL (g : WG) (tt : WT) (te : WE) (δ : Sl) : List Dt → List Dt → Mh → (List Dt → Mh → Prop) → Prop
  | [], acc, M, R => R acc M
  | d :: ds, acc, M, R => g d δ M fun δ1 M1 => tt δ1 M1 fun b M2 => match b with
    | true => te δ1 M2 fun y M3 => lcL g tt te δ ds (acc ++ [y]) M3 R
    | false => lcL g tt te δ ds acc M2 R
/-- the new list is from here on only read -/
def wLc (wi : WI) (own : List Nat) (g : WG) (tt : WT) (te : WE) : WE := fun δ M R => wi δ M fun l M1 => l.length ≤ sizeLine ∧ lcL g tt te (wipD δ own) l [] M1 fun acc M2 => R (.lst acc) M2
/-- the new list may change -/
def wLcM (wi : WI) (own : List Nat) (g : WG) (tt : WT) (te : WE) : WE := fun δ M R => wi δ M fun l M1 => l.length ≤ sizeLine ∧ lcL g tt te (wipD δ own) l [] M1 fun acc M2 => ∀ p, M2 p = none → R (.ptr p) (updM M2 p (.lst acc))
theorem kpm_at {H : Hp} {p : Addr} {o : HO} {vs : List V} (h : H p = some (.lst vs)) : KPm U H (upd H p o) := fun b u e pm => by
  rw [upd_ne]
  · exact e
  · rintro rfl
    rw [h] at e
    cases e
    exact pm
theorem MOk.at {H : Hp} {M : Mh} {p : Addr} {o : HO} {vs : List V} (k : MOk U H M) (h : H p = some (.lst vs)) (n : M p = none) : MOk U (upd H p o) M := k.step (kpm_at h) fun b m e => upd_ne (by rintro rfl; rw [n] at e; cases e)
theorem lc_ok {wi : WI} {own : List Nat} {wg : WG} {tt : WT} {te : WE} {σ : L2.St} {H : Hp} {Q : VK} {δ : Sl} {M : Mh} {R : List Dt → Mh → Prop} (E : DEnv U σ H δ M) (w : wi δ M fun l M1 => l.length ≤ sizeLine ∧ lcL wg tt te (wipD δ own) l [] M1 R)
    (fin : ∀ D acc vs M' H', Go M H M' H' → MOk U H' M' → M' D = none → H' D = some (.lst vs) → Rps U H' vs acc → acc.length ≤ sizeLine → (M D ≠ none ∨ H D = none) → R acc M' → Q (.ref D) H') :
    tLc (iW U wi) (gWo U own wg) (bW U tt) (tW U te) own σ H Q := by
  refine ⟨δ, M, _, E, w, fun J ls M1 H1 g k ⟨G, Y, hw, hG, hY⟩ ⟨hls, w1⟩ D hD => ?_⟩
  have hDM : M D ≠ none ∨ H D = none := by
    rcases q2 : M D with _ | m
    · rcases q : H D with _ | o
      · exact .inr rfl
      · rw [g.keep D o q q2] at hD; cases hD
    · exact .inl (Option.some_ne_none m)
  have n1 : M1 D = none := k.nw hD
  have E1 := E.go g k
  refine lc_it hw (fun i H' => ∃ acc vs M', H' D = some (.lst vs) ∧ M' D = none ∧ Rps U H' vs acc ∧ acc.length ≤ i ∧ DEnv U (wipe σ own) H' (wipD δ own) M' ∧ Go M1 H1 M' H' ∧ lcL wg tt te (wipD δ own) (ls.drop i) acc M' R)
    ⟨[], [], M1, upd_same, n1, .nil, Nat.le_refl _, (E1.go (.new hD) (k.new hD)).wip own, .new hD, w1⟩ (fun i H' _ ⟨_, _, _, _, _, _, _, _, g', _⟩ => hG H' (g'.kp k)) ?_ ?_
  · rintro i x H2 H3 hi ⟨acc, vs, M2, h1, n2, r2, l2, E2, g2, w2⟩ y
    have hd := List.getElem?_eq_getElem hi
    rw [List.drop_eq_getElem_cons hi] at w2
    have go : ∀ H4, Go M2 H2 M2 H4 → MOk U H4 M2 → Rp U H4 x ls[i] → H4 D = some (.lst vs) → gWo U own wg x (wipe σ own) H4 fun σ2 H2 => wipe σ2 own = wipe σ own ∧ bW U tt σ2 H2 fun b H3 => if b = true then tW U te σ2 H3 fun y H4 => ∃ acc, H4 D = some (.lst acc) ∧ acc.length < sizeLine ∧ (∃ acc2 vs M', (upd H4 D (.lst (acc ++ [y]))) D = some (.lst vs) ∧ M' D = none ∧ Rps U (upd H4 D (.lst (acc ++ [y]))) vs acc2 ∧ acc2.length ≤ i + 1 ∧ DEnv U (wipe σ own) (upd H4 D (.lst (acc ++ [y]))) (wipD δ own) M' ∧ Go M1 H1 M' (upd H4 D (.lst (acc ++ [y]))) ∧ lcL wg tt te (wipD δ own) (ls.drop (i + 1)) acc2 M' R) else (∃ acc vs M', H3 D = some (.lst vs) ∧ M' D = none ∧ Rps U H3 vs acc ∧ acc.length ≤ i + 1 ∧ DEnv U (wipe σ own) H3 (wipD δ own) M' ∧ Go M1 H1 M' H3 ∧ lcL wg tt te (wipD δ own) (ls.drop (i + 1)) acc M' R) := by
      intro H4 g4 k4 r4 h4
      have E4 := E2.go g4 k4
      refine ⟨_, _, M2, _, E4, r4, w2, fun σ5 δ5 e5 E5 w5 => ⟨e5.trans wipe_wipe, δ5, M2, _, E5, w5, fun b M6 H6 g6 k6 w6 => ?_⟩⟩
      have h6 : H6 D = some (.lst vs) := g6.keep D _ h4 n2
      have n6 : M6 D = none := by
        rcases q : M6 D with _ | m
        · rfl
        · rcases g6.ext D (by rw [q]; exact Option.some_ne_none m) with z | z
          · exact absurd n2 z
          · rw [h4] at z; cases z
      have G6 := (g2.trans g4).trans g6
      cases b with
      | false =>
        exact ⟨acc, vs, M6, h6, n6, (r2.k (g4.kp E2.mem)).k (g6.kp k4), Nat.le_succ_of_le l2, E4.go g6 k6, G6, w6⟩
      | true =>
        refine ⟨δ5, M6, _, E5.go g6 k6, w6, fun v d M7 H7 g7 k7 r7 w7 => ?_⟩
        have h7 : H7 D = some (.lst vs) := g7.keep D _ h6 n6
        have n7 : M7 D = none := by
          rcases q : M7 D with _ | m
          · rfl
          · rcases g7.ext D (by rw [q]; exact Option.some_ne_none m) with z | z
            · exact absurd n6 z
            · rw [h6] at z; cases z
        have rr := ((r2.k (g4.kp E2.mem)).k (g6.kp k4)).k (g7.kp k6)
        have G7 := G6.trans g7
        refine ⟨vs, h7, by rw [rr.len]; exact Nat.lt_of_le_of_lt l2 (Nat.lt_of_lt_of_le hi hls), acc ++ [d], vs ++ [v], M7, upd_same, n7, ?_, ?_, ?_, ?_, w7⟩
        · exact (rr.app (.cons r7 .nil)).k (kpm_at h7)
        · rw [List.length_append]
          exact Nat.succ_le_succ l2
        · have E7 := (E4.go g6 k6).go g7 k7
          exact ⟨E7.len, fun i d h => by obtain ⟨v, a1, a2⟩ := E7.get i d h; exact ⟨v, a1, a2.k (kpm_at h7)⟩, k7.at h7 n7⟩
        · refine ⟨fun b o h n => ?_, G7.ext⟩
          rw [upd_ne (by rintro rfl; rw [hD] at h; cases h)]
          exact G7.keep b o h n
    rcases hY i H2 x H3 ls[i] hi hd (g2.kp k) y with ⟨rfl, r⟩ | ⟨T, o, hT, rfl, r⟩
    · exact go _ .refl E2.mem r h1
    · exact go _ (.new hT) (E2.mem.new hT) r (same_upd hT _ _ h1)
  · rintro H2 ⟨acc, vs, M2, h1, n2, r2, l2, E2, g2, w2⟩
    rw [List.drop_length] at w2
    exact fin D acc vs M2 H2 (g.trans g2) E2.mem n2 h1 r2 (Nat.le_trans l2 hls) hDM w2
variable {own : List (Str × Nat)} {elt iter : Expr} {ifs : List Expr} {scope : Scope} {wi : WI} {wg : WG} {tt : WT} {te : WE}
theorem d_lc (hc : X.calm = true) (hN : X.N.Nodup) (hi : DI X U tgt iter wi) (ok : BlkOk X.N X.env.scope scope own)
    (hg : ∀ (s : Shared) (H : Hp) (C : Addr) (cl : List (Str × Addr)) (fp : List Addr), DGo (X.blk s H scope (compEnvC scope cl C X.env) fp) U (own.map (·.2)) tgt wg) (ht : ∀ (s : Shared) (H : Hp) (C : Addr) (cl : List (Str × Addr)) (fp : List Addr), DTs (X.blk s H scope (compEnvC scope cl C X.env) fp) U ifs tt)
    (he : ∀ (s : Shared) (H : Hp) (C : Addr) (cl : List (Str × Addr)) (fp : List Addr), DE (X.blk s H scope (compEnvC scope cl C X.env) fp) U elt te) (hs : ∀ x, foldedSetIterable iter X.env x = pure x := by intro _; rfl) : DE X U (.ListComp elt [⟨tgt, iter, ifs, 0⟩] scope pos) (wLc wi (own.map (·.2)) wg tt te) :=
  PE.mono (pe_lock (pe_lc hc hN hi ok hg ht he hs)) fun σ H Q ⟨δ, M, R, E, w, l⟩ => lc_ok E w fun D acc vs M' H' g k n h r hl hDM w' => by
    refine ⟨D, _, rfl, h, trivial, fun od => ?_⟩
    refine l _ _ M' _ ?_ (k.at h n) (.lst upd_same hl (r.k (kpm_at h))) w'
    refine ⟨fun b o hb nb => ?_, g.ext⟩
    rw [upd_ne]
    · exact g.keep b o hb nb
    · rintro rfl
      rcases hDM with z | z
      · exact z nb
      · rw [z] at hb; cases hb
end
end Lw
namespace Lw
open PySem PySem.Spec PyProof.Rows L2
section
variable {X : Cx} {U : Ev} {EX : XK} {a b c e : Expr} {es : List Expr} {pos pos' : Pos} {wa wb we : WE} {g : W2} {ta tb : WT} {ws wt : WS} {st : Stmt} {rest : List Stmt} {wr : WA} {tgt : Expr}
/-! ### y = [..] -/
def tLockS (t : TS) : TS := fun D σ H => ∃ F : L2.St → Hp → Prop, t { D with nx := F } σ H ∧ ∀ σ' H', F σ' H' → D.nx σ' H' ∨ ∃ d u, H' d = some u ∧ Mut (some u) ∧ ∀ od, D.nx σ' (upd H' d (.frz od u))
theorem ps_lockS {st : Stmt} {t : TS} (h : PS X st t) : PS X st (tLockS t) := by
  refine ⟨fun pins s σ H D I ⟨F, h0, hi⟩ => thn (h.run pins s σ H { D with nx := F } I h0) fun f s' q => ?_⟩
  cases f with
  | next =>
    obtain ⟨σ', H', I', q⟩ := q
    rcases hi σ' H' q with k | ⟨d, u, hd, mu, k⟩
    · exact ⟨σ', _, I', k⟩
    · obtain ⟨od, J⟩ := I'.lock hd mu
      exact ⟨σ', _, J, k od⟩
  | ret v => exact q
  | brk => exact q
  | cont => exact q
variable {own : List (Str × Nat)} {elt iter : Expr} {ifs : List Expr} {scope : Scope} {wi : WI} {wg : WG} {tt : WT} {te : WE}
theorem ds_setLc {i : Nat} {y : Str} {py spos : Pos} (hc : X.calm = true) (hN : X.N.Nodup) (hy : X.N[i]? = some y) (hyl : X.env.scope.names.lookup y = some .local)
    (hsw : swapsWith (.ListComp elt [⟨tgt, iter, ifs, 0⟩] scope pos) (some (.Name y py)) spos.line X.env = pure true) (hi : DI X U tgt iter wi) (ok : BlkOk X.N X.env.scope scope own)
    (hg : ∀ (s : Shared) (H : Hp) (C : Addr) (cl : List (Str × Addr)) (fp : List Addr), DGo (X.blk s H scope (compEnvC scope cl C X.env) fp) U (own.map (·.2)) tgt wg) (ht : ∀ (s : Shared) (H : Hp) (C : Addr) (cl : List (Str × Addr)) (fp : List Addr), DTs (X.blk s H scope (compEnvC scope cl C X.env) fp) U ifs tt)
    (he : ∀ (s : Shared) (H : Hp) (C : Addr) (cl : List (Str × Addr)) (fp : List Addr), DE (X.blk s H scope (compEnvC scope cl C X.env) fp) U elt te) (hs : ∀ x, foldedSetIterable iter X.env x = pure x := by intro _; rfl) :
    DS X U EX (.Assign [.Name y py] (.ListComp elt [⟨tgt, iter, ifs, 0⟩] scope pos) spos) (wAsg (wLc wi (own.map (·.2)) wg tt te) (wgN i)) :=
  PS.mono (ps_lockS (ps_setLc hc hN hy hyl hsw hi ok hg ht he hs)) fun D σ H ⟨δ, M, R, E, w, l⟩ => by
    refine ⟨fun σ' H' => ∃ D0 acc vs M', σ' = σ.set i (some (.ref D0)) ∧ Go M H M' H' ∧ MOk U H' M' ∧ M' D0 = none ∧ H' D0 = some (.lst vs) ∧ Rps U H' vs acc ∧ acc.length ≤ sizeLine ∧ (M D0 ≠ none ∨ H D0 = none) ∧ R.nx (δ.set i (some (.lst acc))) M', ?_, ?_⟩
    · exact lc_ok E w fun D0 acc vs M' H' g k n h r hl hDM w' => ⟨D0, acc, vs, M', rfl, g, k, n, h, r, hl, hDM, w'⟩
    · rintro σ' H' ⟨D0, acc, vs, M', rfl, g, k, n, h, r, hl, hDM, w'⟩
      refine .inr ⟨D0, _, h, trivial, fun od => ?_⟩
      have g2 : Go M H M' (upd H' D0 (.frz od (.lst vs))) := by
        refine ⟨fun b o hb nb => ?_, g.ext⟩
        rw [upd_ne]
        · exact g.keep b o hb nb
        · rintro rfl
          rcases hDM with z | z
          · exact z nb
          · rw [z] at hb; cases hb
      exact l.nx _ _ _ M' g2 ((E.go g2 (k.at h n)).set i (.lst upd_same hl (r.k (kpm_at h)))) w'
theorem ds_setLcM {i : Nat} {y : Str} {py spos : Pos} (hc : X.calm = true) (hN : X.N.Nodup) (hy : X.N[i]? = some y) (hyl : X.env.scope.names.lookup y = some .local)
    (hsw : swapsWith (.ListComp elt [⟨tgt, iter, ifs, 0⟩] scope pos) (some (.Name y py)) spos.line X.env = pure true) (hi : DI X U tgt iter wi) (ok : BlkOk X.N X.env.scope scope own)
    (hg : ∀ (s : Shared) (H : Hp) (C : Addr) (cl : List (Str × Addr)) (fp : List Addr), DGo (X.blk s H scope (compEnvC scope cl C X.env) fp) U (own.map (·.2)) tgt wg) (ht : ∀ (s : Shared) (H : Hp) (C : Addr) (cl : List (Str × Addr)) (fp : List Addr), DTs (X.blk s H scope (compEnvC scope cl C X.env) fp) U ifs tt)
    (he : ∀ (s : Shared) (H : Hp) (C : Addr) (cl : List (Str × Addr)) (fp : List Addr), DE (X.blk s H scope (compEnvC scope cl C X.env) fp) U elt te) (hs : ∀ x, foldedSetIterable iter X.env x = pure x := by intro _; rfl) :
    DS X U EX (.Assign [.Name y py] (.ListComp elt [⟨tgt, iter, ifs, 0⟩] scope pos) spos) (wAsg (wLcM wi (own.map (·.2)) wg tt te) (wgN i)) :=
  PS.mono (ps_setLc hc hN hy hyl hsw hi ok hg ht he hs) fun D σ H ⟨δ, M, R, E, w, l⟩ => by
    refine lc_ok E w fun D0 acc vs M' H' g k n h r hl hDM w' => ?_
    have kk : MOk U H' (updM M' D0 (.lst acc)) := by
      intro b m e
      by_cases z : b = D0
      · subst z
        rw [updM_same] at e
        cases e
        exact ⟨vs, h, hl, r⟩
      · rw [updM_ne z] at e
        exact k b m e
    have g2 : Go M H (updM M' D0 (.lst acc)) H' := ⟨g.keep, fun b e => by
      by_cases z : b = D0
      · subst z
        exact hDM
      · rw [updM_ne z] at e
        exact g.ext b e⟩
    exact l.nx _ _ _ _ g2 ((E.go g2 kk).set i .ptr) (w' D0 n)
/-! ### calls of own defs -/
abbrev DSpec := List Dt → Mh → (Dt → Mh → Prop) → (Str → Str → Dt → Mh → Prop) → Prop
def Lx (U : Ev) (M : Mh) (H : Hp) (Rx : Str → Str → Dt → Mh → Prop) (E : XK) : Prop := ∀ c f x v d M' H', Go M H M' H' → MOk U H' M' → H' d = some (.xd [(f, v)]) → Rp U H' v x → Rx c f x M' → E (.ref (He.ga U.K c)) (some d) H'
def spD (U : Ev) (S : DSpec) : Sp := fun vs H Q E => ∃ ds M R Rx, Rps U H vs ds ∧ MOk U H M ∧ S ds M R Rx ∧ Lv U M H R Q ∧ Lx U M H Rx E
def nox : Str → Str → Dt → Mh → Prop := fun _ _ _ _ => False
def wFn (S : DSpec) (wr : WA) : WE := fun δ M R => wr δ M fun ds M1 => S ds M1 R nox
variable {CX : CXT} {k : Nat} {ps : List Str} {S : DSpec} {x m : Str} {p apos : Pos} {wo : WE} {o : Expr}
theorem fn_ok {σ : L2.St} {H : Hp} {Q : VK} {E : XK} (h : tW U (wFn S wr) σ H Q) : tCall (spD U S) [] E (aW U wr) σ H Q := by
  obtain ⟨δ, M, R, E, w, l⟩ := h
  refine ⟨δ, M, _, E, w, fun vs ds M1 H1 g k r w1 => ?_⟩
  show spD U S (vs ++ []) H1 Q _
  rw [List.append_nil]
  exact ⟨ds, M1, R, nox, r, k, w1, l.go g, fun _ _ _ _ _ _ _ _ _ _ _ z => z.elim⟩
theorem d_fn {E : XK} (D : DefOk X.prog X.w X.K X.mg X.base CX k x ps [] (spD U S)) (hr : Room k X.A) (hx : Passes CX X E) (ha : DA X U (e :: es) wr) (hg : Gl X x := by rfl)
    (hdb : (x == ("__debug__" : Str)) = false := by decide) (he : starEach (e :: es) X.env = (false, eval e X.env) :: starEach es X.env := by rfl) (hpl : (backTo pos (starEach es X.env)).any (·.1) = false := by rfl) :
    DE X U (.Call (.Name x p) (e :: es) [] pos) (wFn S wr) := PE.mono (pe_d (E := E) D hr hx ha hg hdb he hpl) fun _ _ _ h => fn_ok h
/-- f(.., d): the last parameters by their defaults -/
def wFnD (dvs : List Dt) (S : DSpec) (wr : WA) : WE := fun δ M R => wr δ M fun ds M1 => S (ds ++ dvs) M1 R nox
/-! methods -/
def wMe (c m : Str) (S : DSpec) (wo : WE) (wr : WA) : WE := fun δ M R => wo δ M fun x M1 => match x with
  | .obj c' _ => c' = c ∧ wr δ M1 fun ds M2 => S (x :: ds) M2 R nox
  | .ptr a => match M1 a with
    | some (.ins c' ns _) => c' = c ∧ m ∉ ns ∧ wr δ M1 fun ds M2 => S (x :: ds) M2 R nox
    | _ => False
  | _ => False
theorem lookup_no : ∀ {fs : List (Str × V)} {m : Str}, m ∉ fs.map (·.1) → fs.lookup m = none
  | [], _, _ => rfl
  | (g, v) :: fs, m, h => by
    rw [List.map_cons, List.mem_cons, not_or] at h
    have e : (m == g) = false := by simpa using h.1
    rw [List.lookup, e]
    exact lookup_no h.2
theorem me_ok {c m : Str} {σ : L2.St} {H : Hp} {Q : VK} {E0 : XK} (hT : ∀ ns, U.T c = some ns → m ∉ ns) (h : tW U (wMe c m S wo wr) σ H Q) : tMeth (He.ga U.K c) m (spD U S) [] E0 (tW U wo) (aW U wr) σ H Q := by
  obtain ⟨δ, M, R, E, w, l⟩ := h
  refine ⟨δ, M, _, E, w, fun v d M1 H1 g k r w1 => ?_⟩
  have go : (wr δ M1 fun ds M2 => S (d :: ds) M2 R nox) → aW U wr σ H1 fun vs H2 => spD U S (v :: (vs ++ [])) H2 Q E0 := fun w2 => by
    refine ⟨δ, M1, _, E.go g k, w2, fun vs ds M2 H2 g2 k2 r2 w3 => ?_⟩
    show spD U S (v :: (vs ++ [])) H2 Q E0
    rw [List.append_nil]
    exact ⟨d :: ds, M2, R, nox, .cons (r.k (g2.kp k)) r2, k2, w3, l.go (g.trans g2), fun _ _ _ _ _ _ _ _ _ _ _ z => z.elim⟩
  split at w1
  · obtain ⟨rfl, w1⟩ := w1
    cases r with | obj a b c d =>
    subst b
    exact ⟨_, _, _, rfl, a, lookup_no (hT _ c), go w1⟩
  · split at w1
    · rename_i q
      obtain ⟨rfl, n, w1⟩ := w1
      obtain ⟨dx, fs, e1, e2, e3, e4⟩ := k _ _ q
      cases r
      exact ⟨_, _, _, rfl, e1, lookup_no (by rw [e2]; exact n), go w1⟩
    · exact w1.elim
  · exact w1.elim
theorem d_me {E : XK} {pl : Sem Bool} {c : Str} (hT : ∀ ns, U.T c = some ns → m ∉ ns) (D : MethOk X.prog X.w X.K X.mg X.base CX k (He.ga U.K c) m ps (spD U S)) (hr : Room k X.A) (hx : Passes CX X E) (ho : DE X U o wo) (ha : DA X U (e :: es) wr)
    (hst : starEach (e :: es) X.env = (false, eval e X.env) :: starEach es X.env := by rfl) (hpl : (backTo pos (starEach es X.env)).any (·.1) = false := by rfl)
    (ht : eval (.Call (.Attribute o m apos) (e :: es) [] pos) X.env = (do
      let ov ← eval o X.env
      standAt apos.atName
      let (f, first) ← holding [ov] (getMethod ov m pl)
      callWith pos f first (backTo pos (starEach (e :: es) X.env)) (backToKw pos (keywordEach [] X.env))) := by rfl) :
    DE X U (.Call (.Attribute o m apos) (e :: es) [] pos) (wMe c m S wo wr) := PE.mono (pe_mt (E := E) D hr hx ho ha hst hpl ht) fun _ _ _ h => me_ok hT h
theorem d_me0 {E : XK} {pl : Sem Bool} {c : Str} (hT : ∀ ns, U.T c = some ns → m ∉ ns) (D : MethOk X.prog X.w X.K X.mg X.base CX k (He.ga U.K c) m ps (spD U S)) (hr : Room k X.A) (hx : Passes CX X E) (ho : DE X U o wo)
    (ht : eval (.Call (.Attribute o m apos) [] [] pos) X.env = (do
      let ov ← eval o X.env
      standAt apos.atName
      let (f, first) ← holding [ov] (getMethod ov m pl)
      callWith pos f first (backTo pos (starEach [] X.env)) (backToKw pos (keywordEach [] X.env))) := by rfl) :
    DE X U (.Call (.Attribute o m apos) [] [] pos) (wMe c m S wo wNil) := PE.mono (pe_mt0 (E := E) D hr hx ho ht) fun σ H Q h => by
  have q := me_ok (E0 := E) hT h
  obtain ⟨δ, M, R, E', w, l⟩ := q
  refine ⟨δ, M, R, E', w, fun v d M' H' g k r w1 => ?_⟩
  obtain ⟨a, dx, fs, h1, h2, h3, δ2, M2, R2, E2, w2, l2⟩ := l v d M' H' g k r w1
  exact ⟨a, dx, fs, h1, h2, h3, l2 [] [] _ _ .refl E2.mem .nil w2⟩
/-! properties -/
def wPp (c : Str) (S : DSpec) (wo : WE) : WE := fun δ M R => wo δ M fun x M1 => match x with
  | .obj c' _ => c' = c ∧ S [x] M1 R nox
  | .ptr a => match M1 a with
    | some (.ins c' _ _) => c' = c ∧ S [x] M1 R nox
    | _ => False
  | _ => False
theorem d_pp {E0 : XK} {c : Str} (D : PropOk X.prog X.w X.K X.mg X.base CX k (He.ga U.K c) m (spD U S)) (hr : Room (k + 1) X.A) (hx : Passes CX X.nox E0) (ho : DE X U o wo) (hab : attributeBase o m X.env (eval o X.env) = eval o X.env := by rfl) :
    DE X U (.Attribute o m pos) (wPp c S wo) := PE.mono (pe_pp (E := E0) D hr hx ho hab) fun σ H Q ⟨δ, M, R, E, w, l⟩ => by
  refine ⟨δ, M, _, E, w, fun v d M1 H1 g k r w1 => ?_⟩
  have go : S [d] M1 R nox → spD U S [v] H1 Q E0 := fun w2 => ⟨[d], M1, R, nox, .cons r .nil, k, w2, l.go g, fun _ _ _ _ _ _ _ _ _ _ _ z => z.elim⟩
  split at w1
  · obtain ⟨rfl, w1⟩ := w1
    cases r with | obj a b c d =>
    subst b
    exact ⟨_, _, _, rfl, a, go w1⟩
  · split at w1
    · rename_i q
      obtain ⟨rfl, w1⟩ := w1
      obtain ⟨dx, fs, e1, _⟩ := k _ _ q
      cases r
      exact ⟨_, _, _, rfl, e1, go w1⟩
    · exact w1.elim
  · exact w1.elim
end
end Lw
namespace Lw
open PySem PySem.Spec PyProof.Rows L2
section
variable {X : Cx} {U : Ev} {EX : XK} {a b c e : Expr} {es : List Expr} {pos pos' : Pos} {wa wb we : WE} {ta tb : WT} {ws wt : WS} {st : Stmt} {wr : WA} {CX : CXT} {k : Nat} {S : DSpec} {x m : Str} {p apos : Pos} {wo : WE} {o : Expr}
/-! a def by its body -/
def bodyS (N n : Nat) (W : WS) : DSpec := fun ds M R Rx => ds.length = n ∧ W (ds.map some ++ List.replicate (N - n) none) M { nx := fun _ M' => R .non M', rt := R, ex := Rx }
theorem start_ok {σ : L2.St} {H : Hp} {N : List Str} {vs : List V} {ds : List Dt} {M : Mh} (r : Rps U H vs ds) (k : MOk U H M) (n : Nat) (h : ds.length = n) : DEnv U (L2.start N vs) H (ds.map some ++ List.replicate (N.length - n) none) M := by
  subst h
  refine ⟨by unfold L2.start; simp [r.len], fun i d h => ?_, k⟩
  unfold L2.start
  by_cases hi : i < ds.length
  · rw [List.getElem?_append_left (by simpa using hi), List.getElem?_map] at h
    obtain ⟨d', h1, h2⟩ := Option.map_eq_some_iff.mp h
    cases h2
    obtain ⟨v, h3, h4⟩ := r.get h1
    refine ⟨v, ?_, h4⟩
    rw [List.getElem?_append_left (by rw [List.length_map, r.len]; exact hi), List.getElem?_map, h3]
    rfl
  · rw [List.getElem?_append_right (by simpa using hi), List.getElem?_replicate] at h
    split at h
    · cases h
    · cases h
theorem body_ok {N ps : List Str} {W : WS} {vs : List V} {H : Hp} {Q : VK} {E : XK} {n : Nat} (h : spD U (bodyS N.length n W) vs H Q E) : sW U E W { nx := fun _ H' => Q .non H', rt := Q } (L2.start N vs) H := by
  obtain ⟨ds, M, R, Rx, r, k, ⟨hn, w⟩, l, lx⟩ := h
  refine ⟨_, M, _, start_ok (σ := []) r k n hn, w, ?_⟩
  exact ⟨fun σ' H' δ' M' g E' w' => l _ _ _ _ g E'.mem .non w', fun v d M' H' g k r w' => l _ _ _ _ g k r w', fun _ _ _ _ _ _ z => z.elim, fun _ _ _ _ _ _ z => z.elim, lx⟩
theorem body_len {N n : Nat} {W : WS} {vs : List V} {H : Hp} {Q : VK} {E : XK} (h : spD U (bodyS N n W) vs H Q E) : vs.length = n := by
  obtain ⟨ds, M, R, Rx, r, k, ⟨hn, w⟩, l, lx⟩ := h
  rw [r.len, hn]
/-! ### errors raised -/
def wRaise (c f : Str) (we : WE) : WS := fun δ M R => we δ M fun d M1 => R.ex c f d M1
theorem ds_raise {f : Str} (tk : Takes X (fun cls d _ H => EX cls d H)) (hK : X.K = U.K) (hc : X.calm = true) (E : ErrOk X.prog X.w X.K X.mg X.base x f) (hr : Room 2 X.A) (he : DE X U e we) (hg : Gl X x := by rfl) (hdb : (x == ("__debug__" : Str)) = false := by decide)
    (hs1 : starEach [e] X.env = (false, eval e X.env) :: starEach [] X.env := by rfl) (hpl : (backTo pos (starEach [] X.env)).any (·.1) = false := by rfl) : DS X U EX (.Raise (some (.Call (.Name x p) [e] [] pos)) none pos') (wRaise x f we) :=
  PS.mono (ps_raise hc tk (pmk_er E hr (pa_cons he pa_nil hs1) hg hdb hs1 hpl)) fun D σ H ⟨δ, M, R, E', w, l⟩ => by
    refine ⟨δ, M, _, E', w, fun v d M1 H1 g k r w1 => ⟨v, rfl, fun d' H' s nd e' => ?_⟩⟩
    rw [hK]
    have g2 := g.trans (Go.same (M := M1) s)
    have kp : KPm U H1 H' := fun b o h _ => s b o h
    refine l.ex x f d v d' M1 H' g2 (k.step kp fun b m e => ?_) e' (r.k kp) w1
    obtain ⟨o, h1, _⟩ := (k b m e).npm
    rw [s _ _ h1, h1]
/-! ### o.f = e -/
theorem putF_at {H : Hp} {v : V} {d : Dt} (r : Rp U H v d) : ∀ {fs : List (Str × V)} {l : List Dt} {f : Str}, Rps U H (fs.map (·.2)) l → (fs.map (·.1)).idxOf f < (fs.map (·.1)).length → (putF f v fs).map (·.1) = fs.map (·.1) ∧ Rps U H ((putF f v fs).map (·.2)) (l.set ((fs.map (·.1)).idxOf f) d)
  | [], _, _, _, h => by simp at h
  | (g, w) :: fs, l, f, rs, h => by
    cases rs with | cons r1 r2 =>
    by_cases z : f = g
    · subst z
      have e : (((f, w) :: fs).map (·.1)).idxOf f = 0 := by simp [List.idxOf_cons]
      rw [e]
      have e2 : putF f v ((f, w) :: fs) = (f, v) :: fs := by simp [putF]
      rw [e2]
      exact ⟨rfl, .cons r r2⟩
    · have z' : ¬ g = f := fun q => z q.symm
      have e0 : (g == f) = false := by simpa using z'
      have e : (((g, w) :: fs).map (·.1)).idxOf f = (fs.map (·.1)).idxOf f + 1 := by
        rw [List.map_cons, List.idxOf_cons]
        show cond (g == f) _ _ = _
        rw [e0]
        rfl
      rw [e] at h ⊢
      have h' : (fs.map (·.1)).idxOf f < (fs.map (·.1)).length := by
        rw [List.map_cons, List.length_cons] at h
        omega
      obtain ⟨q1, q2⟩ := putF_at r (fs := fs) (f := f) r2 h'
      have e2 : putF f v ((g, w) :: fs) = (g, w) :: putF f v fs := by
        simp [putF, e0, z']
      rw [e2]
      exact ⟨by rw [List.map_cons, List.map_cons, q1], .cons r1 q2⟩
theorem ds_setF {c f : Str} {o : Expr} {value : Expr} {wv : WE} (hK : X.K = U.K) (F : FldOk U c f) (hn : ∀ M H (a : Addr) ns l, MOk U H M → M a = some (.ins c ns l) → ns.length < 1000) (ho : DE X U o wo) (hv : DE X U value wv) (hs : swapsWith value (some (.Attribute o f pos')) pos.line X.env = pure false := by rfl) : DS X U EX (.Assign [.Attribute o f pos'] value pos) (wSetF wo wv c f) :=
  PS.mono (ps_fld ho hv hs) fun D σ H ⟨δ, M, R, E, w, l⟩ => by
    refine ⟨δ, M, _, E, w, fun v d M1 H1 g k r w1 => ⟨δ, M1, _, E.go g k, w1, fun v2 d2 M2 H2 g2 k2 r2 w2 => ?_⟩⟩
    rw [hK]
    split at w2
    · rename_i p
      split at w2
      · rename_i c' ns ls q
        obtain ⟨rfl, hi, w2⟩ := w2
        obtain ⟨dx, fs, e1, e2, e3, e4⟩ := k2 _ _ q
        cases r2
        subst e2
        have g3 := g.trans g2
        obtain ⟨q1, q2⟩ := putF_at (r.k (g2.kp k)) e4 hi
        have kp := fun o => KPm.upd (o := o) k2 (.inl (nn q))
        refine ⟨p, _, _, fs, rfl, e1, F.cl, F.no, by have := hn M2 H2 p _ _ k2 q; rw [List.length_map] at this; exact this, ?_⟩
        have g4 := g3.trans (.set (o := .ins (He.ga U.K c') dx (putF f v fs)) (m := .ins c' (fs.map (·.1)) (ls.set ((fs.map (·.1)).idxOf f) d)) (nn q))
        exact l.nx _ _ δ _ g4 (E.go g4 (k2.put (m := .ins c' (fs.map (·.1)) (ls.set ((fs.map (·.1)).idxOf f) d)) (.inl (nn q)) ⟨dx, putF f v fs, upd_same, q1, e3, q2.k (kp _)⟩)) w2
      · exact w2.elim
    · exact w2.elim
/-! ### match -/
def anyS (z : Str) (l : List Str) : Bool := l.any fun w => decide (z = w)
def caseL : List (Option (List Str) × WS) → Str → WS
  | [], _, δ, M, R => R.nx δ M
  | (some l, w) :: r, z, δ, M, R => match anyS z l with
    | true => w δ M R
    | false => caseL r z δ M R
  | (none, w) :: _, _, δ, M, R => w δ M R
def wMatch (we : WE) (cs : List (Option (List Str) × WS)) : WS := fun δ M R => we δ M fun x M1 => match x with
  | .str z => caseL cs z δ M1 R
  | _ => False
structure DCs (X : Cx) (U : Ev) (EX : XK) (cs : List MatchCase) (ws : List (Option (List Str) × WS)) : Prop where
  run : ∀ (pins : List (Addr × Obj)) (s : Shared) (σ : L2.St) (H : Hp) (D : Ends) (z : Str) (v : Value) (first : Bool), L2.Inv X pins σ H s → L2.RelV (.str z) v → sW U EX (caseL ws z) D σ H → wpAny (model X.prog X.w) X.A (matchCases cs X.env v first) (SP X pins D) X.xe s
theorem dcs_nil : DCs X U EX [] [] := ⟨fun pins s σ H D z v first I r ⟨δ, M, R, E, w, l⟩ => wpAny_matchCases_nil ⟨σ, H, I, l.nx _ _ _ M .refl E w⟩⟩
variable {cs : List MatchCase} {wcs : List (Option (List Str) × WS)} {body : List Stmt} {wb : WS}
theorem dcs_any {p : Pos} (hb : DSs X U EX body wb) : DCs X U EX (⟨.MatchAs none none p, none, body⟩ :: cs) ((none, wb) :: wcs) := ⟨fun pins s σ H D z v first I r h => by
  refine wpAny_matchCases_cons (wpAny_matchPattern_Capture ?_)
  exact wpAny_assignInOrder_none (hb.run pins s σ H D I h)⟩
theorem one_pat {pins : List (Addr × Obj)} {s : Shared} {σ : L2.St} {H : Hp} {z w : Str} {v : Value} {j : Nat} {p p2 : Pos} {Q : Option (List (Str × Value)) → Shared → Prop} (I : L2.Inv X pins σ H s) (r : L2.RelV (.str z) v)
    (h : ∀ s', L2.Inv X pins σ H s' → if decide (z = w) = true then Q (some []) s' else Q none s') : wpAny (model X.prog X.w) X.A (matchPattern (.MatchValue (.Constant (.str w) j p) p2) X.env v) Q X.xe s := by
  refine wpAny_matchPattern_Value (thn ((pe_str (X := X) (x := w)).run pins s σ H (fun x H' => x = .str w ∧ H' = H) I ⟨rfl, rfl⟩) fun u s1 ⟨x, H1, I1, rx, e1, e2⟩ => ?_)
  subst e1 e2
  refine thn (op_eq pins s1 σ H1 (.str z) (.str w) v u (fun x H' => x = .bl (decide (V.str z = V.str w)) ∧ H' = H1) I1 r rx ⟨rfl, rfl, rfl⟩) fun c s2 ⟨x, H2, I2, rc, e1, e2⟩ => ?_
  subst e1 e2
  cases rc
  refine wpAny_truthy_bool ?_
  rw [sc_str]
  exact h s2 I2
theorem dcs_val {w : Str} {j : Nat} {p p2 : Pos} (hb : DSs X U EX body wb) (hr : DCs X U EX cs wcs) : DCs X U EX (⟨.MatchValue (.Constant (.str w) j p) p2, none, body⟩ :: cs) ((some [w], wb) :: wcs) := ⟨fun pins s σ H D z v first I r h => by
  refine wpAny_matchCases_cons (one_pat I r fun s' I' => ?_)
  have e : anyS z [w] = decide (z = w) := by simp [anyS]
  cases q : decide (z = w) with
  | true =>
    rw [if_pos rfl]
    refine wpAny_assignInOrder_none (hb.run pins s' σ H D I' ?_)
    obtain ⟨δ, M, R, E, w', l⟩ := h
    refine ⟨δ, M, R, E, ?_, l⟩
    unfold caseL at w'
    rw [e, q] at w'
    exact w'
  | false =>
    rw [if_neg Bool.false_ne_true]
    refine hr.run pins s' σ H D z v false I' r ?_
    obtain ⟨δ, M, R, E, w', l⟩ := h
    refine ⟨δ, M, R, E, ?_, l⟩
    unfold caseL at w'
    rw [e, q] at w'
    exact w'⟩
theorem dcs_or {w w2 : Str} {j j2 : Nat} {p p2 p3 p4 po : Pos} (hb : DSs X U EX body wb) (hr : DCs X U EX cs wcs) : DCs X U EX (⟨.MatchOr [.MatchValue (.Constant (.str w) j p) p2, .MatchValue (.Constant (.str w2) j2 p3) p4] po, none, body⟩ :: cs) ((some [w, w2], wb) :: wcs) := ⟨fun pins s σ H D z v first I r h => by
  have e : anyS z [w, w2] = (decide (z = w) || decide (z = w2)) := by simp [anyS]
  have yes : (decide (z = w) || decide (z = w2)) = true → ∀ s', L2.Inv X pins σ H s' → wpAny (model X.prog X.w) X.A (execs body X.env) (SP X pins D) X.xe s' := fun q s' I' => by
    refine hb.run pins s' σ H D I' ?_
    obtain ⟨δ, M, R, E, w', l⟩ := h
    refine ⟨δ, M, R, E, ?_, l⟩
    unfold caseL at w'
    rw [e, q] at w'
    exact w'
  refine wpAny_matchCases_cons (wpAny_matchPattern_Or (wpAny_matchFirst_cons (one_pat I r fun s' I' => ?_)))
  cases q : decide (z = w) with
  | true =>
    rw [if_pos rfl]
    exact wpAny_assignInOrder_none (yes (by rw [q]; rfl) s' I')
  | false =>
    rw [if_neg Bool.false_ne_true]
    refine wpAny_matchFirst_cons (one_pat I' r fun s2 I2 => ?_)
    cases q2 : decide (z = w2) with
    | true =>
      rw [if_pos rfl]
      exact wpAny_assignInOrder_none (yes (by rw [q, q2]; rfl) s2 I2)
    | false =>
      rw [if_neg Bool.false_ne_true]
      refine wpAny_matchFirst_nil (hr.run pins s2 σ H D z v false I2 r ?_)
      obtain ⟨δ, M, R, E, w', l⟩ := h
      refine ⟨δ, M, R, E, ?_, l⟩
      unfold caseL at w'
      rw [e, q, q2] at w'
      exact w'⟩
theorem ds_match (he : DE X U e we) (hcs : DCs X U EX cs wcs) : DS X U EX (.Match e cs pos) (wMatch we wcs) := ⟨fun pins s σ H D I ⟨δ, M, R, E, w, l⟩ => by
  refine wpAny_Match (thn (he.run pins s σ H (fun v H1 => ∃ z, v = .str z ∧ sW U EX (caseL wcs z) D σ H1) I ⟨δ, M, _, E, w, fun v d M1 H1 g k r w1 => ?_⟩) fun v s1 ⟨x, H1, I1, r1, z, ex, q⟩ => ?_)
  · split at w1
    · cases r
      exact ⟨_, rfl, δ, M1, R, E.go g k, w1, l.go g⟩
    · exact w1.elim
  · subst ex
    exact hcs.run pins s1 σ H1 D z v true I1 r1 q⟩
end
end Lw
namespace Lw
open PySem PySem.Spec PyProof.Rows L2
section
variable {X : Cx} {U : Ev} {EX : XK} {a b c e : Expr} {es : List Expr} {pos pos' apos : Pos} {wa wb wc we : WE} {ta tb : WT} {wr : WA}
/-! ### -n, a < b < c -/
def wNeg (w : WE) : WE := fun δ M R => w δ M fun x M1 => match x with
  | .int i => R (.int (-i)) M1
  | _ => False
theorem d_neg (h : DE X U a wa) : DE X U (.UnaryOp .USub a pos) (wNeg wa) := PE.mono (pe_un un_neg h) fun _ _ _ ⟨δ, M, R, E, w, l⟩ => by
  refine ⟨δ, M, _, E, w, fun v d M1 H1 g k r w1 => ?_⟩
  split at w1
  · cases r
    exact ⟨_, rfl, l _ _ M1 H1 g k .int w1⟩
  · exact w1.elim
def wChain (g g' : W2) (wa wb wc : WE) : WE := fun δ M R => wa δ M fun x M1 => wb δ M1 fun y M2 => g x y M2 fun z M3 => match z with
  | .bl true => wc δ M3 fun u M4 => g' y u M4 R
  | .bl false => R (.bl false) M3
  | _ => False
theorem chain_ok {g g' : W2} {σ : L2.St} {H : Hp} {Q : VK} (h : tW U (wChain g g' wa wb wc) σ H Q) : tChain (oW U g) (oW U g') (tW U wa) (tW U wb) (tW U wc) σ H Q := by
  obtain ⟨δ, M, R, E, w, l⟩ := h
  refine ⟨δ, M, _, E, w, fun x dx M1 H1 g1 k1 r1 w1 => ⟨δ, M1, _, E.go g1 k1, w1, fun y dy M2 H2 g2 k2 r2 w2 => ?_⟩⟩
  refine ⟨dx, dy, M2, _, k2, r1.k (g2.kp k1), r2, w2, fun z dz M3 H3 g3 k3 r3 w3 => ?_⟩
  have G := (g1.trans g2).trans g3
  split at w3
  · cases r3
    refine ⟨_, rfl, δ, M3, _, E.go G k3, w3, fun u du M4 H4 g4 k4 r4 w4 => ?_⟩
    exact ⟨dy, du, M4, R, k4, (r2.k (g3.kp k2)).k (g4.kp k3), r4, w4, l.go (G.trans g4)⟩
  · cases r3
    exact ⟨_, rfl, l _ _ M3 H3 G k3 .bl w3⟩
  · exact w3.elim
theorem d_chain {op op' : CmpOp} {g g' : W2} (ho : OpR X (compareOp op) (oW U g)) (ho' : OpR X (compareOp op') (oW U g')) (ha : DE X U a wa) (hb : DE X U b wb) (hc : DE X U c wc) (hm : lastMarks [op, op'] [b, c] = false := by with_unfolding_all rfl) : DE X U (.Compare a [op, op'] [b, c] pos) (wChain g g' wa wb wc) :=
  PE.mono (pe_chain ho ho' ha hb hc hm) fun _ _ _ h => chain_ok h
theorem d_tchain {op op' : CmpOp} {g g' : W2} (ho : OpR X (compareOp op) (oW U g)) (ho' : OpR X (compareOp op') (oW U g')) (ha : DE X U a wa) (hb : DE X U b wb) (hc : DE X U c wc) (hm : lastMarks [op, op'] [b, c] = false := by with_unfolding_all rfl) : DT X U (.Compare a [op, op'] [b, c] pos) (wB (wChain g g' wa wb wc)) :=
  PT.mono (pt_chain ho ho' ha hb hc hm) fun _ _ _ h => by
    obtain ⟨δ, M, R, E, w, l⟩ := h
    refine chain_ok (U := U) ⟨δ, M, _, E, w, fun v d M1 H1 g k r w1 => ?_⟩
    split at w1
    · cases r
      exact ⟨_, rfl, l _ _ _ g k w1⟩
    · exact w1.elim
/-! ### isinstance(x, (t, t2)) -/
theorem d_isi2 {cs : List Str} {t t2 : Kd} {n n2 : Str} {p q q2 tp : Pos} {x1} (hK : X.K = U.K) (hO : ∀ c ∈ cs, ObjTy U c) (hg : Gl X "isinstance") (hm : X.mg "isinstance" = none) (hgt : Gl X n) (hmt : X.mg n = none) (hvt : bootBuiltins n = some (.type t.nm)) (hgt2 : Gl X n2) (hmt2 : X.mg n2 = none) (hvt2 : bootBuiltins n2 = some (.type t2.nm)) (he : DE X U e we) (ht : t ≠ .non := by decide) (ht2 : t2 ≠ .non := by decide)
    (hn : n ≠ "__name__" := by decide) (hdb : (n == ("__debug__" : Str)) = false := by decide) (hn2 : n2 ≠ "__name__" := by decide) (hdb2 : (n2 == ("__debug__" : Str)) = false := by decide)
    (hs : starEach [e, .Tuple [.Name n q, .Name n2 q2] x1 tp] X.env = (false, eval e X.env) :: starEach [.Tuple [.Name n q, .Name n2 q2] x1 tp] X.env := by rfl) (hs2 : starEach [.Tuple [.Name n q, .Name n2 q2] x1 tp] X.env = (false, eval (.Tuple [.Name n q, .Name n2 q2] x1 tp) X.env) :: starEach [] X.env := by rfl)
    (hs3 : starEach [.Name n q, .Name n2 q2] X.env = (false, eval (.Name n q) X.env) :: starEach [.Name n2 q2] X.env := by rfl) (hs4 : starEach [.Name n2 q2] X.env = (false, eval (.Name n2 q2) X.env) :: starEach [] X.env := by rfl)
    (hpl : (backTo pos (starEach [.Tuple [.Name n q, .Name n2 q2] x1 tp] X.env)).any (·.1) = false := by rfl) :
    DE X U (.Call (.Name "isinstance" p) [e, .Tuple [.Name n q, .Name n2 q2] x1 tp] [] pos) (wIsi2 cs t t2 we) :=
  PE.mono (pe_callB call_isiT hg hm (by decide +kernel) (pa_cons he (pa_cons (pe_tup (pa_cons (pe_bltn (v := .ty t.nm) hgt hmt hvt rfl hn hdb) (pa_cons (pe_bltn (v := .ty t2.nm) hgt2 hmt2 hvt2 rfl hn2 hdb2) pa_nil hs4) hs3)) pa_nil hs2) hs) (by decide) (by decide) hs hpl) fun σ H Q ⟨δ, M, R, E, w, l⟩ => by
    refine ⟨δ, M, _, E, w, fun v d M1 H1 g k r w1 => ⟨szl rfl, fun tp htp => ?_⟩⟩
    rw [hK]
    have g2 := g.trans (Go.new (M := M1) (o := .tup [.ty t.nm, .ty t2.nm]) htp)
    have k2 := k.new (o := .tup [.ty t.nm, .ty t2.nm]) htp
    have r2 := r.k (fun b o e (_ : Pm U o) => same_upd (o := .tup [.ty t.nm, .ty t2.nm]) htp b o e)
    split at w1
    · rename_i kd hy
      refine ⟨_, _, _, _, [.type t.nm, .type t2.nm], kd.is t || kd.is t2, rfl, upd_same, .cons (.ty _) (.cons (.ty _) .nil), ky_ok k2 r2 hy (fun c e => by cases e), ?_, l _ _ M1 _ g2 k2 .bl w1⟩
      refine kitAny_cons (Kd.kit _ kd t) (fun z => ?_) fun z => by rw [z]; rfl
      rw [z, Bool.false_or]
      exact kitAny_cons (Kd.kit _ kd t2) (fun z => by rw [z]; rfl) fun z => z
    · rename_i c hy
      refine ⟨_, _, _, _, [.type t.nm, .type t2.nm], false, rfl, upd_same, .cons (.ty _) (.cons (.ty _) .nil), ky_ok k2 r2 hy (fun c e => by cases e; exact hO _ w1.1), ?_, l _ _ M1 _ g2 k2 .bl w1.2⟩
      exact kitAny_cons ((hO _ w1.1).no t ht) (fun _ => kitAny_cons ((hO _ w1.1).no t2 ht2) (fun _ => rfl) fun z => nomatch z) fun z => nomatch z
    · exact w1.elim
/-! ### texts -/
theorem d_m1 {o : Expr} {wo : WE} {id : String} {name : Str} {gm : WM} (slot : Slot "str" name id) (ty : typeOf (.builtin id) = pure (.type "method_descriptor")) (rule : MtR X id (mW U gm)) (ho : DE X U o wo) (he : DE X U e we)
    (hs : starEach [e] X.env = [(false, eval e X.env)] := by rfl) (hbase : attributeBase o name X.env (eval o X.env) = eval o X.env := by rfl) (hline : (apos.endLine == pos.line) = true := by rfl) :
    DE X U (.Call (.Attribute o name apos) [e] [] pos) (wBmS gm wo (wCons we wNil)) := PE.mono (pe_m1 slot ty rule ho he hs hbase hline) fun _ _ _ ⟨δ, M, R, E, w, l⟩ => by
  refine ⟨δ, M, _, E, w, fun v d M1 H1 g k r w1 => ?_⟩
  split at w1
  · cases r with | str h1 h2 =>
    refine ⟨⟨_, rfl⟩, δ, M1, _, E.go g k, w1, fun v2 d2 M2 H2 g2 k2 r2 w2 => ?_⟩
    exact ⟨_, _, M2, R, k2, .str h1 h2, .cons r2 .nil, w2, l.go (g.trans g2)⟩
  · exact w1.elim
/-- .. whose new list is from here on only read -/
theorem d_m1L {o : Expr} {wo : WE} {id : String} {name : Str} {gm : WM} {r0 : V → List V → Hp → VK → Prop} (slot : Slot "str" name id) (ty : typeOf (.builtin id) = pure (.type "method_descriptor")) (rule : MtR X id r0) (mr : ∀ x xs H Q, mW U gm x xs H Q → r0 x xs H fun v H1 => Q v H1 ∨ ∃ p u, v = .ref p ∧ H1 p = some u ∧ Mut (some u) ∧ ∀ od, Q v (upd H1 p (.frz od u))) (ho : DE X U o wo) (he : DE X U e we)
    (hs : starEach [e] X.env = [(false, eval e X.env)] := by rfl) (hbase : attributeBase o name X.env (eval o X.env) = eval o X.env := by rfl) (hline : (apos.endLine == pos.line) = true := by rfl) :
    DE X U (.Call (.Attribute o name apos) [e] [] pos) (wBmS gm wo (wCons we wNil)) := PE.mono (pe_lockO (pe_m1 slot ty rule ho he hs hbase hline)) fun _ _ _ ⟨δ, M, R, E, w, l⟩ => by
  refine ⟨δ, M, _, E, w, fun v d M1 H1 g k r w1 => ?_⟩
  split at w1
  · cases r with | str h1 h2 =>
    refine ⟨⟨_, rfl⟩, δ, M1, _, E.go g k, w1, fun v2 d2 M2 H2 g2 k2 r2 w2 => mr _ _ _ _ ⟨_, _, M2, R, k2, .str h1 h2, .cons r2 .nil, w2, l.go (g.trans g2)⟩⟩
  · exact w1.elim
def gStarts : WM := fun x ds M R => match x, ds with
  | .str a, [.str b] => R (.bl (Txt.startswith a b)) M
  | _, _ => False
theorem m_starts : MtR X "str.startswith" (mW U gStarts) := MtR.mono mt_startswith fun x xs H Q ⟨d, ds, M, R, k, r, rs, w, l⟩ => by
  unfold gStarts at w
  split at w
  · obtain ⟨y, rfl, ry⟩ := one_rps rs
    cases r
    cases ry
    exact ⟨_, _, rfl, rfl, l _ _ M H .refl k .bl w⟩
  · exact w.elim
def gLstrip : WM := fun x ds M R => match x, ds with
  | .str a, [.str b] => PyData.strOk (Txt.lstripChars a b) = true ∧ (Txt.lstripChars a b).length ≤ sizeLine ∧ R (.str (Txt.lstripChars a b)) M
  | _, _ => False
theorem m_lstrip : MtR X "str.lstrip" (mW U gLstrip) := MtR.mono mt_lstripChars fun x xs H Q ⟨d, ds, M, R, k, r, rs, w, l⟩ => by
  unfold gLstrip at w
  split at w
  · obtain ⟨y, rfl, ry⟩ := one_rps rs
    cases r with | str h1 h2 =>
    cases ry
    exact ⟨_, _, rfl, rfl, h2, l _ _ M H .refl k (.str w.1 w.2.1) w.2.2⟩
  · exact w.elim
def dstrs (l : List Str) : List Dt := l.map Dt.str
theorem dstrs_rps {H : Hp} : ∀ {l : List Str}, (∀ x ∈ l, PyData.strOk x = true ∧ x.length ≤ sizeLine) → Rps U H (l.map V.str) (dstrs l)
  | [], _ => .nil
  | x :: r, h => .cons (.str (h x (by simp)).1 (h x (by simp)).2) (dstrs_rps fun y hy => h y (by simp [hy]))
theorem dstrs_len {l : List Str} : (dstrs l).length = l.length := List.length_map _
def gSplit : WM := fun x ds M R => match x, ds with
  | .str a, [.str b] => (b.length == 0) = false ∧ a.length + 2 ≤ sizeLine ∧ (∀ y ∈ Txt.split a b, PyData.strOk y = true ∧ y.length ≤ sizeLine) ∧ (Txt.split a b).length ≤ sizeLine ∧ R (.lst (dstrs (Txt.split a b))) M
  | _, _ => False
theorem mr_split : ∀ x xs H Q, mW U gSplit x xs H Q → (fun x xs H Q => ∃ a b, x = .str a ∧ xs = [.str b] ∧ (b.length == 0) = false ∧ a.length + 2 ≤ sizeLine ∧ rNewStrs (Txt.split a b) H Q : V → List V → Hp → VK → Prop) x xs H fun v H1 => Q v H1 ∨ ∃ p u, v = .ref p ∧ H1 p = some u ∧ Mut (some u) ∧ ∀ od, Q v (upd H1 p (.frz od u)) := fun x xs H Q ⟨d, ds, M, R, k, r, rs, w, l⟩ => by
  unfold gSplit at w
  split at w
  · obtain ⟨y, rfl, ry⟩ := one_rps rs
    cases r
    cases ry
    refine ⟨_, _, rfl, rfl, w.1, w.2.1, fun p hp => .inr ⟨p, _, rfl, upd_same, trivial, fun od => ?_⟩⟩
    obtain ⟨g2, k2, r2⟩ := lock_new k hp (l := dstrs (Txt.split _ _)) (by rw [dstrs_len]; exact w.2.2.2.1) (dstrs_rps w.2.2.1) od
    exact l _ _ M _ g2 k2 r2 w.2.2.2.2
  · exact w.elim
/-- the texts of a list of texts -/
def tx : List Dt → Option (List Str)
  | [] => some []
  | .str x :: r => (tx r).map (x :: ·)
  | _ => none
theorem tx_ok {H : Hp} : ∀ {l : List Dt} {vs : List V} {xs : List Str}, Rps U H vs l → tx l = some xs → vs = xs.map V.str
  | [], _, _, r, h => by cases r; cases h; rfl
  | .str b :: l, _, _, r, h => by
    cases r with | cons a rr =>
    cases a
    rw [tx] at h
    obtain ⟨q, h1, rfl⟩ := Option.map_eq_some_iff.mp h
    rw [List.map_cons, tx_ok rr h1]
  | .non :: _, _, _, _, h => by cases h
  | .int _ :: _, _, _, _, h => by cases h
  | .bl _ :: _, _, _, _, h => by cases h
  | .tup _ :: _, _, _, _, h => by cases h
  | .lst _ :: _, _, _, _, h => by cases h
  | .obj _ _ :: _, _, _, _, h => by cases h
  | .dic _ _ :: _, _, _, _, h => by cases h
  | .ptr _ :: _, _, _, _, h => by cases h
  | .ty _ :: _, _, _, _, h => by cases h
  | .scr _ :: _, _, _, _, h => by cases h
theorem tx_dstrs : ∀ l : List Str, tx (dstrs l) = some l
  | [] => rfl
  | x :: r => by show (tx (dstrs r)).map _ = _; rw [tx_dstrs r]; rfl
def gJoin : WM := fun x ds M R => match x, ds with
  | .str a, [d] => match sq M d with
    | some l => match tx l with
      | some ys => (ys.map (·.length)).sum + ys.length * a.length ≤ 16777216 ∧ PyData.strOk (Txt.join a ys) = true ∧ (Txt.join a ys).length ≤ sizeLine ∧ R (.str (Txt.join a ys)) M
      | none => False
    | none => False
  | _, _ => False
theorem m_join (hK : X.K = U.K) : MtR X "str.join" (mW U gJoin) := MtR.mono mt_join fun x xs H Q ⟨d, ds, M, R, k, r, rs, w, l⟩ => by
  unfold gJoin at w
  split at w
  · obtain ⟨y, rfl, ry⟩ := one_rps rs
    cases r
    split at w
    · rename_i ls q
      split at w
      · rename_i ys q2
        obtain ⟨p, vs, rfl, hs, rs, hl⟩ := sq_ok k ry q
        have e := tx_ok rs q2
        subst e
        rw [hK]
        exact ⟨_, _, ys, rfl, rfl, hs, w.1, l _ _ M H .refl k (.str w.2.1 w.2.2.1) w.2.2.2⟩
      · exact w.elim
    · exact w.elim
  · exact w.elim
/-- int(text) -/
def gIntS : WC := fun ds M R => match ds with
  | [.str a] => match PySem.intText? a with
    | some n => a.length ≤ 640 ∧ R (.int n) M
    | none => False
  | _ => False
theorem c_intS : CallR X (.type "int") (cW U gIntS) := CallR.mono call_int_str fun xs H Q ⟨ds, M, R, k, rs, w, l⟩ => by
  unfold gIntS at w
  split at w
  · obtain ⟨v, rfl, r⟩ := one_rps rs
    cases r
    split at w
    · rename_i n q
      exact ⟨_, n, rfl, q, w.1, l _ _ M H .refl k .int w.2⟩
    · exact w.elim
  · exact w.elim
/-- str(n), str(text) -/
def gStr : WC := fun ds M R => match ds with
  | [.str a] => R (.str a) M
  | [.int i] => i.natAbs.log2 < 1920 ∧ PyData.strOk (strI i) = true ∧ (strI i).length ≤ sizeLine ∧ R (.str (strI i)) M
  | _ => False
theorem c_str : CallR X (.type "str") (cW U gStr) := CallR.mono (CallR.or SkE.call_str_str call_str_int) fun xs H Q ⟨ds, M, R, k, rs, w, l⟩ => by
  unfold gStr at w
  split at w
  · obtain ⟨v, rfl, r⟩ := one_rps rs
    exact .inl (by cases r with | str h1 h2 => exact ⟨_, rfl, l _ _ M H .refl k (.str h1 h2) w⟩)
  · obtain ⟨v, rfl, r⟩ := one_rps rs
    cases r
    exact .inr ⟨_, rfl, w.1, l _ _ M H .refl k (.str w.2.1 w.2.2.1) w.2.2.2⟩
  · exact w.elim
/-- text * n -/
def gMulS : W2 := fun x y M R => match x, y with
  | .str z, .int n => 0 ≤ n ∧ n ≤ 1000 ∧ z.length ≤ 1000 ∧ PyData.strOk (repS z n.toNat) = true ∧ (repS z n.toNat).length ≤ sizeLine ∧ R (.str (repS z n.toNat)) M
  | _, _ => False
theorem op_gMulS : OpR X (binaryOp .Mult) (oW U gMulS) := OpR.mono op_mul_str fun x y H Q ⟨a, b, M, R, k, ra, rb, w, l⟩ => by
  unfold gMulS at w
  split at w
  · rename_i z n
    cases ra; cases rb
    obtain ⟨w1, w2, w3, w4, w5, w6⟩ := w
    obtain ⟨j, rfl⟩ : ∃ j : Nat, n = (j : Int) := ⟨n.toNat, by omega⟩
    exact ⟨_, j, rfl, rfl, w3, by omega, l _ _ M H .refl k (.str w4 w5) w6⟩
  · exact w.elim
end
end Lw
namespace Lw
open PySem PySem.Spec PyProof.Rows L2
section
variable {X : Cx} {U : Ev} {EX : XK} {a b c e : Expr} {es : List Expr} {pos pos' apos : Pos} {wa wb wc we : WE} {ta tb : WT} {wr : WA}
/-! ### list + list: a new list, from here on only read -/
theorem op_catR : OpR X (binaryOp .Add) (fun x y H Q => ∃ l b xs zs, x = .ref l ∧ y = .ref b ∧ Rd H l (.lst xs) ∧ Rd H b (.lst zs) ∧ xs.length + zs.length ≤ sizeLine ∧ ∀ p, H p = none → Q (.ref p) (upd H p (.lst (xs ++ zs)))) := by
  intro pins s σ H x y v u Q I rx ry h
  obtain ⟨l, b, xs, zs, rfl, rfl, hH, hB, hz, q⟩ := h
  cases rx
  cases ry
  obtain ⟨z, its, n, r, e⟩ := hH.ok I.hok
  obtain ⟨z2, its2, n2, r2, e2⟩ := hB.ok I.hok
  have hl := r.length
  have hl2 := r2.length
  refine PySem.P.add_list e e2 ?_ (by rw [List.size_toArray, List.size_toArray]; omega)
  have ea : its.toArray ++ its2.toArray = (its ++ its2).toArray := by simp
  rw [ea]
  exact ⟨.ref _, _, I.lnew (t' := s.toks) (r.append r2) (by rw [List.length_append]; omega), rfl, q _ I.fresh⟩
theorem sql_rd {H : Hp} {M : Mh} {v : V} {d : Dt} {l : List Dt} (k : MOk U H M) (r : Rp U H v d) (h : sql M d = some l) : ∃ a vs, v = .ref a ∧ Rd H a (.lst vs) ∧ Rps U H vs l ∧ l.length ≤ sizeLine := by
  cases d with
  | lst l' =>
    cases h
    cases r with
    | lst a b c => exact ⟨_, _, rfl, .inr ⟨_, a⟩, c, b⟩
  | ptr p =>
    cases r
    unfold sql at h
    rcases q : M p with _ | m
    · simp [q] at h
    · cases m with
      | lst l' =>
        simp only [q] at h
        cases h
        obtain ⟨vs, h1, h2, h3⟩ := k p _ q
        exact ⟨p, vs, rfl, .inl h1, h3, h2⟩
      | _ => simp [q] at h
  | _ => cases h
def wCat (wa wb : WE) : WE := fun δ M R => wa δ M fun x M1 => wb δ M1 fun y M2 => match sql M2 x, sql M2 y with
  | some l, some l2 => l.length + l2.length ≤ sizeLine ∧ R (.lst (l ++ l2)) M2
  | _, _ => False
theorem d_cat (hK : X.K = U.K) (ha : DE X U a wa) (hb : DE X U b wb) : DE X U (.BinOp a .Add b pos) (wCat wa wb) := PE.mono (pe_lock (pe_op op_catR ha hb)) fun σ H Q ⟨δ, M, R, E, w, l⟩ => by
  refine ⟨δ, M, _, E, w, fun x da M1 H1 g1 k1 r1 w1 => ⟨δ, M1, _, E.go g1 k1, w1, fun y db M2 H2 g2 k2 r2 w2 => ?_⟩⟩
  split at w2
  · rename_i l1 l2 q1 q2
    obtain ⟨p, vs, rfl, hs, rs, hl⟩ := sql_rd k2 (r1.k (g2.kp k1)) q1
    obtain ⟨p2, vs2, rfl, hs2, rs2, hl2⟩ := sql_rd k2 r2 q2
    refine ⟨p, p2, vs, vs2, rfl, rfl, hs, hs2, by rw [rs.len, rs2.len]; exact w2.1, fun q hq => ⟨q, _, rfl, upd_same, trivial, fun od => ?_⟩⟩
    obtain ⟨g4, k4, r4⟩ := lock_new k2 hq (l := l1 ++ l2) (by rw [List.length_append]; exact w2.1) (rs.app rs2) od
    exact l _ _ M2 _ ((g1.trans g2).trans g4) k4 r4 w2.2
  · exact w2.elim
/-- a, b, c = x, y, z -/
def wPar3 (i j l : Nat) (wa : WA) : WS := fun δ M R => wa δ M fun ds M1 => match ds with
  | [x, y, z] => R.nx (((δ.set i (some x)).set j (some y)).set l (some z)) M1
  | _ => False
/-! ### promises over data -/
theorem DefOk.mono {P : Program} {w : World} {K : PySem.W.Frag} {mg : Str → Option Value} {base : Heap} {CX : CXT} {k : Nat} {x : Str} {ps : List Str} {dvs : List V} {sp sp' : Sp} (D : DefOk P w K mg base CX k x ps dvs sp) (h : ∀ vs H Q E, sp' vs H Q E → sp vs H Q E) : DefOk P w K mg base CX k x ps dvs sp' := by
  obtain ⟨f, fd, ds, F, hm, hk, hb, hd⟩ := D.ex
  exact ⟨f, fd, ds, ⟨fun vs H Q E z => F.len vs H Q E (h _ _ _ _ z), fun A outer s H args us vs Q E a b c d z => F.run A outer s H args us vs Q E a b c d (h _ _ _ _ z)⟩, hm, hk, hb, hd⟩
theorem MethOk.mono {P : Program} {w : World} {K : PySem.W.Frag} {mg : Str → Option Value} {base : Heap} {CX : CXT} {k : Nat} {C : Addr} {m : Str} {ps : List Str} {sp sp' : Sp} (D : MethOk P w K mg base CX k C m ps sp) (h : ∀ vs H Q E, sp' vs H Q E → sp vs H Q E) : MethOk P w K mg base CX k C m ps sp' := by
  obtain ⟨f, fd, F, hm, hb, hc⟩ := D.ex
  exact ⟨f, fd, ⟨fun vs H Q E z => F.len vs H Q E (h _ _ _ _ z), fun A outer s H args us vs Q E a b c d z => F.run A outer s H args us vs Q E a b c d (h _ _ _ _ z)⟩, hm, hb, hc⟩
theorem PropOk.mono {P : Program} {w : World} {K : PySem.W.Frag} {mg : Str → Option Value} {base : Heap} {CX : CXT} {k : Nat} {C : Addr} {m : Str} {sp sp' : Sp} (D : PropOk P w K mg base CX k C m sp) (h : ∀ vs H Q E, sp' vs H Q E → sp vs H Q E) : PropOk P w K mg base CX k C m sp' := by
  obtain ⟨p, f, fd, F, hm, hb, hc⟩ := D.ex
  exact ⟨p, f, fd, ⟨fun vs H Q E z => F.len vs H Q E (h _ _ _ _ z), fun A outer s H args us vs Q E a b c d z => F.run A outer s H args us vs Q E a b c d (h _ _ _ _ z)⟩, hm, hb, hc⟩
end
end Lw
namespace Lw
open PySem PySem.Spec PyProof.Rows L2
/-! ### except (X, Y, Z): one clause that takes all that comes -/
def wHit (K : PySem.W.Frag) (cs : List Value) (ts : Addr → Value → Option Addr → TS) (D : Ends) : WX := fun cls d σ H => PySem.W.exmAny K cls cs = some true ∧ ∀ a, H a = none → ts a cls d D σ H
theorem flying_push {B h : Heap} {l : List Env} {a : Addr} {Z : Obj → Prop} (o : Obj) (f : HandSPX.FlyingZ B l a Z h) : HandSPX.FlyingZ B l a Z (h.push o) := by
  obtain ⟨f1, f2, f3, oe, vs, T, oT, ts, g1, g2, g3, g4, g5, g6, g7, g8, g9⟩ := f
  refine ⟨fun b u e => Heap.get?_push_of_some _ (f1 b u e), f2, Heap.FunFrames.of_keeps (fun b u e _ => ⟨u, Heap.get?_push_of_some _ e, rfl⟩) f3, oe, vs, T, oT, ts, Heap.get?_push_of_some _ g1, g2, g3, g4, g5, g6, Heap.get?_push_of_some _ g7, g8, g9⟩
section
variable {X : Cx} {x1 x2 x3 : Str} {c1 c2 c3 : Value} {body suite : List Stmt} {b₀ : Stmt} {p1 p2 p3 tp pos pos' : Pos} {kk : Nat} {tb : WX → TS} {ts : Addr → Value → Option Addr → TS}
theorem ps_try_tup3 (hs : X.stack = X.env :: X.outer) (hf : X.env.frame = some X.env.locals) (hc1 : Names X x1 c1) (hc2 : Names X x2 c2) (hc3 : Names X x3 c3)
    (hb : ∀ (W : WX) (pn : List (Addr × Obj)) (xe : Value → Shared → Prop), Takes (X.tr pn xe) W → PSs (X.tr pn xe) body (tb W))
    (hsu : ∀ (a : Addr) (oe : Obj) (cls : Value) (d : Option Addr) (pn : List (Addr × Obj)), Zc cls d oe → (∃ vs, oe.data = .fields vs) → PSs (X.suite a ((a, oe) :: pn)) (b₀ :: suite) (ts a cls d)) :
    PS X (.Try body [.ExceptHandler (some (.Tuple [.Name x1 p1, .Name x2 p2, .Name x3 p3] kk tp)) none (b₀ :: suite) pos'] [] [] pos) (fun D σ H => tb (wHit X.K [c1, c2, c3] ts D) D σ H) := by
  refine ⟨fun pins s σ H D I h => ?_⟩
  have ok := I.ok
  have hfr : X.A.frames = some (X.env :: X.outer) := by rw [ok.frames, hs]
  have back : ∀ f s1, SP (X.tr (X.pn ++ pins) (fun e s₁ => wpAny (model X.prog X.w) X.A (noteFrame e X.env) (fun _ s₂ => wpAny (model X.prog X.w) X.A (setFlight e none) (fun _ s₃ => wpAny (model X.prog X.w) X.A (handleBy e X.env [.ExceptHandler (some (.Tuple [.Name x1 p1, .Name x2 p2, .Name x3 p3] kk tp)) none (b₀ :: suite) pos']) (SP X pins D) X.xe s₃) X.xe s₂) X.xe s₁)) [] D f s1 → SP X pins D f s1 := by
    intro f s1 q
    cases f with
    | ret u => obtain ⟨v, a, b, J, r, q⟩ := q; exact ⟨v, a, b, J.ofTry ok, r, q⟩
    | next => obtain ⟨a, b, J, q⟩ := q; exact ⟨a, b, J.ofTry ok, q⟩
    | brk => obtain ⟨a, b, J, q⟩ := q; exact ⟨a, b, J.ofTry ok, q⟩
    | cont => obtain ⟨a, b, J, q⟩ := q; exact ⟨a, b, J.ofTry ok, q⟩
  refine wpAny_Try_except (wpAny_mono ((hb (wHit X.K [c1, c2, c3] ts D) (X.pn ++ pins) _ ?_).run [] s σ H D (I.toTry _) h) (fun f s1 q => ?_) fun e s1 z => z)
  · rintro u s' ⟨a, B, sI, pins', σ', H', cls, d, rfl, J', nb, up, sky, na, os, ag, hm, hyes⟩
    have J : Inv X pins σ' H' sI := J'.ofTry ok
    have sky' : Sky B (X.env :: X.outer) a (Zc cls d) X.env.locals s'.heap := by rw [← hs]; exact sky
    refine Sky.land Zc.steady hfr hf sky' fun h3 fl3 up3 => ?_
    have in3 : Inv X pins σ' H' { s' with heap := h3 } := J.landed nb fl3.1 (up.trans up3) os ag
    have notFr : ∀ {g : Heap} {o : Obj} {vs : Array Value}, g.FunFrames B (X.env :: X.outer) → g.get? a = some o → o.data = .fields vs → a ∉ frs (X.env :: X.outer) := fun {g o vs} ff e dd hm => by
      obtain ⟨_, o', e', hnf⟩ := ff.mem hm
      rw [e] at e'; cases e'
      exact hnf _ dd
    obtain ⟨oe3, vs3, he3, hz3, hd3⟩ := fl3.there
    have nfr := notFr fl3.2.2.1 he3 hd3
    have nL : a ≠ X.env.locals := fun z => nfr (List.mem_filterMap.mpr ⟨X.env, List.mem_cons_self, by rw [hf, z]⟩)
    have nF : a ∉ X.fs := fun hm => by
      obtain ⟨e, he, q⟩ := List.mem_filterMap.mp hm
      exact nfr (List.mem_filterMap.mpr ⟨e, List.mem_cons_of_mem _ he, q⟩)
    have S3 := in3.suite he3 hd3 na nL nF
    refine wpAny_handleBy_cons (codeAny_handlers_test ?_) (by intro q; cases q)
    have test : ∀ {x : Str} {c : Value} {np : Pos} {Q : Value → Shared → Prop} {E : Value → Shared → Prop}, Names X x c → Q c { s' with heap := h3 } → wpAny (model X.prog X.w) (X.A.mark (some (.ref a))) (eval (.Name x np) X.env) Q E { s' with heap := h3 } := fun {x c np Q E} hc q => by
      obtain ⟨hg, hdbg, hm | ⟨hm, hv, hnn⟩⟩ := hc
      · exact ld_glob (X := X.suite a ((a, oe3) :: (X.pn ++ pins))) S3 hg hm q hdbg
      · exact ld_blt (X := X.suite a ((a, oe3) :: (X.pn ++ pins))) S3 hg hm hv q hnn hdbg
    refine Tuple_ (spliced_more (test hc1 (spliced_more (test hc2 (spliced_more (test hc3 (spliced_none ?_)))))))
    refine wpAny_newObj_type ?_
    have fl5 := flying_push { cls := .type "tuple", dict := none, data := .seq [c1, c2, c3].toArray } fl3
    have up5 : h3.UpToSlots (h3.push { cls := .type "tuple", dict := none, data := .seq [c1, c2, c3].toArray }) := Heap.UpToSlots.of_keeps fun b o e => Heap.get?_push_of_some _ e
    have hp : (h3.push { cls := .type "tuple", dict := none, data := .seq [c1, c2, c3].toArray }).get? h3.objs.size = some { cls := .type "tuple", dict := none, data := .seq [c1, c2, c3].toArray } := Heap.get?_push_size _ rfl
    have in5 : Inv X pins σ' H' { s' with heap := h3.push { cls := .type "tuple", dict := none, data := .seq [c1, c2, c3].toArray } } := J.landed nb fl5.1 ((up.trans up3).trans up5) os ag
    obtain ⟨oe5, vs5, he5, hz5, hd5⟩ := fl5.there
    have LT : PySem.W.Looks (model X.prog X.w) (h3.push { cls := .type "tuple", dict := none, data := .seq [c1, c2, c3].toArray }) (typeOf (.ref a)) cls := fun A Q E s k q => wpAny_typeOf_ref (k _ _ he5) (by rw [hz5.1]; exact q)
    have LM := PySem.W.exm_tup3 (M := model X.prog X.w) in5.kIn LT hp hm
    refine LM.here ?_
    refine codeAny_handlers_suite ?_
    refine HandSPX.lands_againZ fl5 fun h4 fl4 up4 => ?_
    have in4 : Inv X pins σ' H' { s' with heap := h4 } := J.landed nb fl4.1 (((up.trans up3).trans up5).trans up4) os ag
    obtain ⟨oe4, vs4, he4, hz4, hd4⟩ := fl4.there
    refine wpAny_mono ((hsu a oe4 cls d (X.pn ++ pins) hz4 ⟨_, hd4⟩).run [] _ _ H' _ (in4.suite he4 hd4 na nL nF) (hyes a na)) (fun f s6 q => ?_) (fun _ _ z => z.elim)
    cases f with
    | ret u => obtain ⟨v, b, c, S, r, q⟩ := q; exact ⟨v, b, c, S.unsuite ok, r, q⟩
    | next => obtain ⟨b, c, S, q⟩ := q; exact ⟨b, c, S.unsuite ok, q⟩
    | brk => obtain ⟨b, c, S, q⟩ := q; exact ⟨b, c, S.unsuite ok, q⟩
    | cont => obtain ⟨b, c, S, q⟩ := q; exact ⟨b, c, S.unsuite ok, q⟩
  · have q' := back f s1 q
    cases f with
    | next =>
      obtain ⟨a, b, J, q⟩ := q'
      exact wpAny_execs_nil ⟨a, b, J, q⟩
    | ret u => exact q'
    | brk => exact q'
    | cont => exact q'
end
/-- a raised error's slots are as many as the def has -/
theorem takes_len {X : Cx} {W : WX} (tk : Takes X W) : Takes X (fun cls d σ H => σ.length = X.N.length → W cls d σ H) := fun u s' ⟨a, B, sI, pins, σ, H, cls, d, e, I, nb, up, sky, na, os, ag, w⟩ =>
  tk u s' ⟨a, B, sI, pins, σ, H, cls, d, e, I, nb, up, sky, na, os, ag, w I.len⟩
section
variable {X : Cx} {U : Ev} {EX : XK} {body : List Stmt} {wb : WS}
/-- try: body; except (X, Y, Z): return b -/
def wTryR (wb : WS) (cs : List Str) (b : Bool) : WS := fun δ M R => wb δ M { R with ex := fun c _ _ M' => c ∈ cs ∧ R.rt (.bl b) M' }
theorem ds_tryR {x1 x2 x3 : Str} {c1 c2 c3 : Value} {p1 p2 p3 tp p5 p6 pos pos' : Pos} {kk : Nat} {b : Bool} {j} (cs : List Str) (hK : X.K = U.K) (hs : X.stack = X.env :: X.outer) (hf : X.env.frame = some X.env.locals) (hc1 : Names X x1 c1) (hc2 : Names X x2 c2) (hc3 : Names X x3 c3)
    (hx : ∀ c ∈ cs, PySem.W.exmAny U.K (.ref (He.ga U.K c)) [c1, c2, c3] = some true)
    (hb : ∀ (EX' : XK) (pn : List (Addr × Obj)) (xe : Value → Shared → Prop), Takes (X.tr pn xe) (fun cls d _ H => EX' cls d H) → DSs (X.tr pn xe) U EX' body wb) :
    DS X U EX (.Try body [.ExceptHandler (some (.Tuple [.Name x1 p1, .Name x2 p2, .Name x3 p3] kk tp)) none [.Return (some (.Constant (.bool b) j p5)) p6] pos'] [] [] pos) (wTryR wb cs b) :=
  PS.mono (ps_try_tup3 (tb := fun W => sW U (fun cls d H => ∀ σ : L2.St, σ.length = X.N.length → W cls d σ H) wb) hs hf hc1 hc2 hc3
    (fun W pn xe tk => hb _ pn xe ((takes_len tk).imp fun c d σ H z => z σ)) (fun a oe cls d pn _ _ => pss_one (ps_ret pe_bl))) fun D σ H ⟨δ, M, R, E, w, l⟩ => by
    refine ⟨δ, M, _, E, w, ⟨l.nx, l.rt, l.bk, l.ct, fun c f x v d M' H' g k e r z σ' hl => ⟨?_, fun a ha => ?_⟩⟩⟩
    · rw [hK]
      exact hx c z.1
    · exact l.rt _ _ M' H' g k .bl z.2
/-- try: body; except C as n: return n.f -/
def wTryAs (wb : WS) (c f : Str) : WS := fun δ M R => wb δ M { R with ex := fun c' f' x M' => c' = c ∧ f' = f ∧ R.rt x M' }
theorem ds_tryAs {x n f : Str} {i : Nat} {p1 p2 p5 p6 pos pos' : Pos} (hK : X.K = U.K) (hs : X.stack = X.env :: X.outer) (hf : X.env.frame = some X.env.locals) (hN : X.N.Nodup) (hi : X.N[i]? = some n) (hln : X.env.kindOf n = some .local) (hc : Names X x (.ref (He.ga U.K x)))
    (hx : PySem.W.exmOne U.K (.ref (He.ga U.K x)) (.ref (He.ga U.K x)) = some true) (T : XC U.K (He.ga U.K x) f)
    (hb : ∀ (EX' : XK) (pn : List (Addr × Obj)) (xe : Value → Shared → Prop), Takes (X.tr pn xe) (fun cls d _ H => EX' cls d H) → DSs (X.tr pn xe) U EX' body wb)
    (hv : ∀ (a : Addr) (pn : List (Addr × Obj)), PE (X.suite a pn) (.Name n p5) (tVar i)) (hab : ∀ (a : Addr) (pn : List (Addr × Obj)), attributeBase (.Name n p5) f (X.suite a pn).env (eval (.Name n p5) (X.suite a pn).env) = eval (.Name n p5) (X.suite a pn).env := by intros; rfl) :
    DS X U EX (.Try body [.ExceptHandler (some (.Name x p1)) (some n) [.Return (some (.Attribute (.Name n p5) f p6)) p2] pos'] [] [] pos) (wTryAs wb x f) :=
  PS.mono (ps_try_as (tb := fun W => sW U (fun cls d H => ∀ σ : L2.St, σ.length = X.N.length → W cls d σ H) wb) (Wout := fun _ _ _ _ => False) hs hf hN hi hln hc takes_none5
    (fun W pn xe tk _ => hb _ pn xe ((takes_len tk).imp fun c d σ H z => z σ)) (fun a oe cls d pn hz hd => pss_one (ps_ret (pe_xf (C := He.ga U.K x) (by show XfC X.K _; rw [hK]; exact T.xf) (by show PySem.W.findIn X.K _ _ = _; rw [hK]; exact T.nof) hz hd (hv a ((a, oe) :: pn)) (hab a ((a, oe) :: pn)))))) fun D σ H ⟨δ, M, R, E, w, l⟩ => by
    refine ⟨δ, M, _, E, w, ⟨l.nx, l.rt, l.bk, l.ct, fun c f' y v d M' H' g k e r z σ' hl => ⟨true, ?_, fun _ a ha => ?_, fun q => nomatch q⟩⟩⟩
    · obtain ⟨rfl, _⟩ := z
      rw [hK]
      exact hx
    · obtain ⟨rfl, rfl, z⟩ := z
      have hlt : i < σ'.length := by
        rw [hl]
        exact (List.getElem?_eq_some_iff.mp hi).1
      refine ⟨.ref a, by rw [List.getElem?_set_self hlt], rfl, rfl, d, [(f', v)], v, rfl, e, by simp, ?_⟩
      exact l.rt _ _ M' H' g k r z
variable {CX : CXT} {k : Nat} {S : DSpec} {x : Str} {ps : List Str} {e : Expr} {es : List Expr} {p pos pos' : Pos} {wr : WA}
/-- y = f(..), f may raise -/
def wSetX (i : Nat) (S : DSpec) (wr : WA) : WS := fun δ M R => wr δ M fun ds M1 => S ds M1 (fun d M2 => R.nx (δ.set i (some d)) M2) R.ex
theorem ds_setX {i : Nat} {y : Str} {cpos : Pos} (hN : X.N.Nodup) (hi : X.N[i]? = some y) (hy : Loc X.env.scope y) (D : DefOk X.prog X.w X.K X.mg X.base CX k x ps [] (spD U S)) (hr : Room k X.A) (hx : Passes CX X EX) (ha : DA X U (e :: es) wr) (hg : Gl X x := by rfl)
    (hdb : (x == ("__debug__" : Str)) = false := by decide) (he : starEach (e :: es) X.env = (false, eval e X.env) :: starEach es X.env := by rfl) (hpl : (backTo cpos (starEach es X.env)).any (·.1) = false := by rfl)
    (hs : swapsWith (.Call (.Name x p) (e :: es) [] cpos) (some (.Name y pos')) pos.line X.env = pure false := by rfl) (hf : X.fn y = true ∨ X.env.scope.names.lookup y = some .local := by first | exact .inl rfl | exact .inr rfl | assumption) :
    DS X U EX (.Assign [.Name y pos'] (.Call (.Name x p) (e :: es) [] cpos) pos) (wSetX i S wr) := PS.mono (ps_set hN hi hy (pe_d (E := EX) D hr hx ha hg hdb he hpl) hs hf) fun Dn σ H ⟨δ, M, R, E, w, l⟩ => by
  refine ⟨δ, M, _, E, w, fun vs ds M1 H1 g k r w1 => ?_⟩
  show spD U S (vs ++ []) H1 _ _
  rw [List.append_nil]
  exact ⟨ds, M1, _, R.ex, r, k, w1, fun v d M2 H2 g2 k2 r2 w2 => l.nx _ _ _ _ (g.trans g2) ((E.go (g.trans g2) k2).set i r2) w2, fun c f x v d M2 H2 g2 => l.ex c f x v d M2 H2 (g.trans g2)⟩
/-- f(..) as a statement, f may raise; o.m(..) -/
def wMeX (c m : Str) (S : DSpec) (wo : WE) (wr : WA) : WS := fun δ M R => wo δ M fun x M1 => wr δ M1 fun ds M2 => S (x :: ds) M2 (fun _ M3 => R.nx δ M3) R.ex
end
end Lw
namespace Lw
open PySem PySem.Spec PyProof.Rows L2
/-! ### several clauses, each with a name; one of them takes what comes -/
abbrev ClS := Value × Nat × (Addr → Value → Option Addr → TS)
def endsAs (D : Ends) (i : Nat) : Ends := { nx := fun σ H => D.nx (σ.set i none) H, rt := D.rt, bk := fun σ H => D.bk (σ.set i none) H, ct := fun σ H => D.ct (σ.set i none) H }
def wAsN (K : PySem.W.Frag) (D : Ends) : List ClS → WX
  | [] => fun _ _ _ _ => False
  | (c, i, ts) :: r => fun cls d σ H => ∃ b, PySem.W.exmOne K cls c = some b ∧ (b = true → ∀ a, H a = none → ts a cls d (endsAs D i) (σ.set i (some (.ref a))) H) ∧ (b = false → wAsN K D r cls d σ H)
inductive HdAs (X : Cx) : List ExceptHandler → List ClS → Prop
  | nil : HdAs X [] []
  | cons {x n : Str} {c : Value} {i : Nat} {ts : Addr → Value → Option Addr → TS} {b₀ : Stmt} {suite : List Stmt} {np pos' : Pos} {hds : List ExceptHandler} {l : List ClS} (hc : Names X x c) (hi : X.N[i]? = some n) (hln : X.env.kindOf n = some .local)
      (hsu : ∀ (a : Addr) (oe : Obj) (cls : Value) (d : Option Addr) (pn : List (Addr × Obj)), Zc cls d oe → (∃ vs, oe.data = .fields vs) → PSs (X.suite a ((a, oe) :: pn)) (b₀ :: suite) (ts a cls d)) (r : HdAs X hds l) :
      HdAs X (.ExceptHandler (some (.Name x np)) (some n) (b₀ :: suite) pos' :: hds) ((c, i, ts) :: l)
section
variable {X : Cx} {body : List Stmt} {h₀ : ExceptHandler} {hds : List ExceptHandler} {l : List ClS} {pos : Pos} {tb : WX → TS}
theorem ps_try_asN (hs : X.stack = X.env :: X.outer) (hf : X.env.frame = some X.env.locals) (hN : X.N.Nodup)
    (hb : ∀ (W : WX) (pn : List (Addr × Obj)) (xe : Value → Shared → Prop), Takes (X.tr pn xe) W → PSs (X.tr pn xe) body (tb W))
    (hh : HdAs X (h₀ :: hds) l) : PS X (.Try body (h₀ :: hds) [] [] pos) (fun D σ H => tb (wAsN X.K D l) D σ H) := by
  refine ⟨fun pins s σ H D I h => ?_⟩
  have ok := I.ok
  have hfr : X.A.frames = some (X.env :: X.outer) := by rw [ok.frames, hs]
  refine wpAny_Try_except (wpAny_mono ((hb (wAsN X.K D l) (X.pn ++ pins) (fun e s₁ => wpAny (model X.prog X.w) X.A (noteFrame e X.env) (fun _ s₂ => wpAny (model X.prog X.w) X.A (setFlight e none) (fun _ s₃ =>
    wpAny (model X.prog X.w) X.A (handleBy e X.env (h₀ :: hds)) (SP X pins D) X.xe s₃) X.xe s₂) X.xe s₁) ?_).run [] s σ H D (I.toTry _) h) (fun f s1 q => ?_) fun e s1 z => z)
  · rintro u s' ⟨a, B, sI, pins', σ', H', cls, d, rfl, J', nb, up, sky, na, os, ag, w⟩
    have J : Inv X pins σ' H' sI := J'.ofTry ok
    have sky' : Sky B (X.env :: X.outer) a (Zc cls d) X.env.locals s'.heap := by rw [← hs]; exact sky
    refine Sky.land Zc.steady hfr hf sky' fun h3 fl3 up3 => ?_
    have J3 : Inv X pins σ' H' { s' with heap := h3 } := J.landed nb fl3.1 (up.trans up3) os ag
    obtain ⟨oe3, vs3, he3, hz3, hd3⟩ := fl3.there
    have out : a ∉ frs (X.env :: X.outer) := fun hm => by
      obtain ⟨_, o', e', hnf⟩ := fl3.2.2.1.mem hm
      rw [he3] at e'
      cases e'
      exact hnf _ hd3
    have nL : a ≠ X.env.locals := fun z => out (List.mem_filterMap.mpr ⟨X.env, List.mem_cons_self, by rw [hf, z]⟩)
    have nF : a ∉ X.fs := fun hm => by
      obtain ⟨e, he, q⟩ := List.mem_filterMap.mp hm
      exact out (List.mem_filterMap.mpr ⟨e, List.mem_cons_of_mem _ he, q⟩)
    have S3 := J3.suite he3 hd3 na nL nF
    have LT : PySem.W.Looks (model X.prog X.w) h3 (typeOf (.ref a)) cls := fun A Q E s k q => wpAny_typeOf_ref (k _ _ he3) (by rw [hz3.1]; exact q)
    have go : ∀ {hs2 : List ExceptHandler} {l2 : List ClS}, HdAs X hs2 l2 → wAsN X.K D l2 cls d σ' H' → wpAny (model X.prog X.w) X.A (handleBy (.ref a) X.env hs2) (SP X pins D) X.xe { s' with heap := h3 } := by
      intro hs2 l2 hk
      induction hk with
      | nil => exact fun w => w.elim
      | @cons x n c i ts b₀ suite np pos' hs3 l3 hc hi hln hsu r ih =>
        rintro ⟨b, hb1, hyes, hno⟩
        refine wpAny_handleBy_cons (codeAny_handlers_test ?_) (by intro q; cases q)
        have LM := PySem.W.exm_one (M := model X.prog X.w) J3.kIn LT hb1
        have test : ∀ {Q : Value → Shared → Prop} {E : Value → Shared → Prop}, Q c { s' with heap := h3 } → wpAny (model X.prog X.w) (X.A.mark (some (.ref a))) (eval (.Name x np) X.env) Q E { s' with heap := h3 } := fun {Q E} q => by
          obtain ⟨hg, hdbg, hm | ⟨hm, hv, hnn⟩⟩ := hc
          · exact ld_glob (X := X.suite a ((a, oe3) :: (X.pn ++ pins))) S3 hg hm q hdbg
          · exact ld_blt (X := X.suite a ((a, oe3) :: (X.pn ++ pins))) S3 hg hm hv q hnn hdbg
        refine test (LM.here ?_)
        cases b with
        | false => exact ih (hno rfl)
        | true =>
          refine codeAny_handlers_suite_as ?_
          refine HandSPX.lands_againZ fl3 fun h4 fl4 up4 => ?_
          have J4 : Inv X pins σ' H' { s' with heap := h4 } := J.landed nb fl4.1 ((up.trans up3).trans up4) os ag
          obtain ⟨oe4, vs4, he4, hz4, hd4⟩ := fl4.there
          refine store_ok (X := X.suite a ((a, oe4) :: (X.pn ++ pins))) (v := .ref a) (J4.suite he4 hd4 na nL nF) hN hi (.inl hln) rfl (fun s5 S5 => ?_) (.inr hln)
          refine wpAny_mono ((hsu a oe4 cls d (X.pn ++ pins) hz4 ⟨_, hd4⟩).run [] s5 _ H' _ S5 (hyes rfl a na)) (fun f s6 q => ?_) (fun _ _ z => z.elim)
          have gone : ∀ {σ6 : L2.St} {H6 : Hp} {Q : Shared → Prop}, Inv (X.suite a ((a, oe4) :: (X.pn ++ pins))) [] σ6 H6 s6 → (∀ s7, Inv X pins (σ6.set i none) H6 s7 → Q s7) →
              wpAny (model X.prog X.w) X.A (do bindName X.env n .none; unbindBehindTheSuite X.env n pos') (fun _ s7 => Q s7) X.xe s6 := fun {σ6 H6 Q} S6 hq => gone_ok (S6.unsuite ok) hN hi hln hq
          cases f with
          | ret u => obtain ⟨v, σ6, H6, S6, r6, q6⟩ := q; exact gone S6 fun s7 J7 => ⟨_, _, _, J7, r6, q6⟩
          | next => obtain ⟨σ6, H6, S6, q6⟩ := q; exact gone S6 fun s7 J7 => ⟨_, _, J7, q6⟩
          | brk => obtain ⟨σ6, H6, S6, q6⟩ := q; exact gone S6 fun s7 J7 => ⟨_, _, J7, q6⟩
          | cont => obtain ⟨σ6, H6, S6, q6⟩ := q; exact gone S6 fun s7 J7 => ⟨_, _, J7, q6⟩
    exact go hh w
  · cases f with
    | next =>
      obtain ⟨a, b, J, q⟩ := q
      exact wpAny_execs_nil ⟨a, b, J.ofTry ok, q⟩
    | ret u => obtain ⟨v, a, b, J, r, q⟩ := q; exact ⟨v, a, b, J.ofTry ok, r, q⟩
    | brk => obtain ⟨a, b, J, q⟩ := q; exact ⟨a, b, J.ofTry ok, q⟩
    | cont => obtain ⟨a, b, J, q⟩ := q; exact ⟨a, b, J.ofTry ok, q⟩
end
end Lw
namespace Lw
open PySem PySem.Spec PyProof.Rows L2
/-! ### expressions that may raise -/
abbrev Rxx := Str → Str → Dt → Mh → Prop
abbrev WX' := Sl → Mh → (Dt → Mh → Prop) → Rxx → Prop
def xW (U : Ev) (EX : XK) (W : WX') : TE := fun σ H Q => ∃ δ M R Rx, DEnv U σ H δ M ∧ W δ M R Rx ∧ Lv U M H R Q ∧ Lx U M H Rx EX
abbrev DX (X : Cx) (U : Ev) (EX : XK) (e : Expr) (W : WX') : Prop := PE X e (xW U EX W)
theorem Lx.go {U : Ev} {M M1 : Mh} {H H1 : Hp} {Rx : Rxx} {E : XK} (l : Lx U M H Rx E) (g : Go M H M1 H1) : Lx U M1 H1 Rx E := fun c f x v d M' H' g' => l c f x v d M' H' (g.trans g')
section
variable {X : Cx} {U : Ev} {EX : XK} {a b c e o : Expr} {es : List Expr} {p pos pos' apos : Pos} {wa wb we wo : WE} {xa xb : WX'} {ta : WT} {wr : WA} {CX : CXT} {k : Nat} {S : DSpec} {x m : Str} {ps : List Str}
def xOf (we : WE) : WX' := fun δ M R _ => we δ M R
theorem dx_of (h : DE X U e we) : DX X U EX e (xOf we) := PE.mono h fun _ _ _ ⟨δ, M, R, _, E, w, l, _⟩ => ⟨δ, M, R, E, w, l⟩
def xIf (t : WT) (xa xb : WX') : WX' := fun δ M R Rx => t δ M fun c M1 => match c with
  | true => xa δ M1 R Rx
  | false => xb δ M1 R Rx
theorem dx_if (ht : DT X U c ta) (ha : DX X U EX a xa) (hb : DX X U EX b xb) : DX X U EX (.IfExp c a b pos) (xIf ta xa xb) := PE.mono (pe_ifExp ht ha hb) fun _ _ _ ⟨δ, M, R, Rx, E, w, l, lx⟩ => by
  refine ⟨δ, M, _, E, w, fun c M1 H1 g k r => ?_⟩
  cases c with
  | true => exact ⟨δ, M1, R, Rx, E.go g k, r, l.go g, lx.go g⟩
  | false => exact ⟨δ, M1, R, Rx, E.go g k, r, l.go g, lx.go g⟩
def xFn (S : DSpec) (wr : WA) : WX' := fun δ M R Rx => wr δ M fun ds M1 => S ds M1 R Rx
theorem dx_fn (D : DefOk X.prog X.w X.K X.mg X.base CX k x ps [] (spD U S)) (hr : Room k X.A) (hx : Passes CX X EX) (ha : DA X U (e :: es) wr) (hg : Gl X x := by rfl)
    (hdb : (x == ("__debug__" : Str)) = false := by decide) (he : starEach (e :: es) X.env = (false, eval e X.env) :: starEach es X.env := by rfl) (hpl : (backTo pos (starEach es X.env)).any (·.1) = false := by rfl) :
    DX X U EX (.Call (.Name x p) (e :: es) [] pos) (xFn S wr) := PE.mono (pe_d (E := EX) D hr hx ha hg hdb he hpl) fun _ _ _ ⟨δ, M, R, Rx, E, w, l, lx⟩ => by
  refine ⟨δ, M, _, E, w, fun vs ds M1 H1 g k r w1 => ?_⟩
  show spD U S (vs ++ []) H1 _ _
  rw [List.append_nil]
  exact ⟨ds, M1, R, Rx, r, k, w1, l.go g, lx.go g⟩
def xMe (c m : Str) (S : DSpec) (wo : WE) (wr : WA) : WX' := fun δ M R Rx => wo δ M fun x M1 => match x with
  | .obj c' _ => c' = c ∧ wr δ M1 fun ds M2 => S (x :: ds) M2 R Rx
  | _ => False
theorem dx_me {pl : Sem Bool} {c : Str} (hT : ∀ ns, U.T c = some ns → m ∉ ns) (D : MethOk X.prog X.w X.K X.mg X.base CX k (He.ga U.K c) m ps (spD U S)) (hr : Room k X.A) (hx : Passes CX X EX) (ho : DE X U o wo) (ha : DA X U (e :: es) wr)
    (hst : starEach (e :: es) X.env = (false, eval e X.env) :: starEach es X.env := by rfl) (hpl : (backTo pos (starEach es X.env)).any (·.1) = false := by rfl)
    (ht : eval (.Call (.Attribute o m apos) (e :: es) [] pos) X.env = (do
      let ov ← eval o X.env
      standAt apos.atName
      let (f, first) ← holding [ov] (getMethod ov m pl)
      callWith pos f first (backTo pos (starEach (e :: es) X.env)) (backToKw pos (keywordEach [] X.env))) := by rfl) :
    DX X U EX (.Call (.Attribute o m apos) (e :: es) [] pos) (xMe c m S wo wr) := PE.mono (pe_mt (E := EX) D hr hx ho ha hst hpl ht) fun _ _ _ ⟨δ, M, R, Rx, E, w, l, lx⟩ => by
  refine ⟨δ, M, _, E, w, fun v d M1 H1 g k r w1 => ?_⟩
  split at w1
  · obtain ⟨rfl, w1⟩ := w1
    cases id r with | obj a b c d' =>
    subst b
    refine ⟨_, _, _, rfl, a, lookup_no (hT _ c), δ, M1, _, E.go g k, w1, fun vs ds M2 H2 g2 k2 r2 w3 => ?_⟩
    show spD U S (_ :: (vs ++ [])) H2 _ _
    rw [List.append_nil]
    exact ⟨_ :: ds, M2, R, Rx, .cons (r.k (g2.kp k)) r2, k2, w3, l.go (g.trans g2), lx.go (g.trans g2)⟩
  · exact w1.elim
/-- return (word, e) -/
def wRetW (z : Str) (xe : WX') : WS := fun δ M R => xe δ M (fun d M1 => R.rt (.tup [.str z, d]) M1) R.ex
theorem ds_retW {z : Str} {j x1} {tp p0 : Pos} (hz : PyData.strOk z = true := by decide +kernel) (hz2 : z.length ≤ sizeLine := by decide +kernel) (he : DX X U EX e xa) (hs : starEach [.Constant (.str z) j p0, e] X.env = (false, eval (.Constant (.str z) j p0) X.env) :: starEach [e] X.env := by rfl) (hs2 : starEach [e] X.env = (false, eval e X.env) :: starEach [] X.env := by rfl) :
    DS X U EX (.Return (some (.Tuple [.Constant (.str z) j p0, e] x1 tp)) pos) (wRetW z xa) := PS.mono (ps_ret (pe_tup (pa_cons pe_str (pa_cons he pa_nil hs2) hs))) fun D σ H ⟨δ, M, R, E, w, l⟩ => by
  refine ⟨δ, M, _, R.ex, E, w, fun v d M1 H1 g k r w1 => ⟨szle (by simp), fun q hq => ?_⟩, l.ex⟩
  exact l.rt _ _ M1 _ (g.trans (.new hq)) (k.new hq) (.tup (SqT.of upd_same) (szle (by simp)) (.cons (.str hz hz2) (.cons (r.k fun b o e _ => same_upd hq b o e) .nil))) w1
/-- try: body; except C1 as n: return (z1, n.f1); except C2 as n: ..; except C3 as n: .. -/
def wTry3 (wb : WS) (c1 c2 c3 f1 f2 f3 z1 z2 z3 : Str) : WS := fun δ M R => wb δ M { R with ex := fun c f x M' => ((c = c1 ∧ f = f1 ∧ R.rt (.tup [.str z1, x]) M') ∨ (c = c2 ∧ f = f2 ∧ R.rt (.tup [.str z2, x]) M')) ∨ (c = c3 ∧ f = f3 ∧ R.rt (.tup [.str z3, x]) M') }
def tsW3 (C : Addr) (f z : Str) (i : Nat) : Addr → Value → Option Addr → TS := fun a cls d => tRet (tTup (tCons (tC (.str z)) (tCons (tXf a cls d C f (tVar i)) tNil)))
theorem hd_w {n f z x : Str} {i : Nat} {np pos' rp tp zp ap vp : Pos} {j x1} {hds : List ExceptHandler} {l : List ClS} (hK : X.K = U.K) (hc : Names X x (.ref (He.ga U.K x))) (hi : X.N[i]? = some n) (hln : X.env.kindOf n = some .local) (T : XC U.K (He.ga U.K x) f)
    (hv : ∀ (a : Addr) (pn : List (Addr × Obj)), PE (X.suite a pn) (.Name n vp) (tVar i)) (r : HdAs X hds l)
    (hab : ∀ (a : Addr) (pn : List (Addr × Obj)), attributeBase (.Name n vp) f (X.suite a pn).env (eval (.Name n vp) (X.suite a pn).env) = eval (.Name n vp) (X.suite a pn).env := by intros; rfl)
    (hs : ∀ (a : Addr) (pn : List (Addr × Obj)), starEach [.Constant (.str z) j zp, .Attribute (.Name n vp) f ap] (X.suite a pn).env = (false, eval (.Constant (.str z) j zp) (X.suite a pn).env) :: starEach [.Attribute (.Name n vp) f ap] (X.suite a pn).env := by intros; rfl)
    (hs2 : ∀ (a : Addr) (pn : List (Addr × Obj)), starEach [.Attribute (.Name n vp) f ap] (X.suite a pn).env = (false, eval (.Attribute (.Name n vp) f ap) (X.suite a pn).env) :: starEach [] (X.suite a pn).env := by intros; rfl) :
    HdAs X (.ExceptHandler (some (.Name x np)) (some n) [.Return (some (.Tuple [.Constant (.str z) j zp, .Attribute (.Name n vp) f ap] x1 tp)) rp] pos' :: hds) ((.ref (He.ga U.K x), i, tsW3 (He.ga U.K x) f z i) :: l) :=
  .cons hc hi hln (fun a oe cls d pn hz hd => pss_one (ps_ret (pe_tup (pa_cons pe_str (pa_cons (pe_xf (C := He.ga U.K x) (by show XfC X.K _; rw [hK]; exact T.xf) (by show PySem.W.findIn X.K _ _ = _; rw [hK]; exact T.nof) hz hd (hv a ((a, oe) :: pn)) (hab a ((a, oe) :: pn))) pa_nil (hs2 a ((a, oe) :: pn))) (hs a ((a, oe) :: pn)))))) r
theorem ds_try3 {body : List Stmt} {wb : WS} {h1 h2 h3 : ExceptHandler} {c1 c2 c3 f1 f2 f3 z1 z2 z3 : Str} {i : Nat} (hK : X.K = U.K) (hs : X.stack = X.env :: X.outer) (hf : X.env.frame = some X.env.locals) (hN : X.N.Nodup) (hi : i < X.N.length)
    (hd : HdAs X [h1, h2, h3] [(.ref (He.ga U.K c1), i, tsW3 (He.ga U.K c1) f1 z1 i), (.ref (He.ga U.K c2), i, tsW3 (He.ga U.K c2) f2 z2 i), (.ref (He.ga U.K c3), i, tsW3 (He.ga U.K c3) f3 z3 i)])
    (m11 : PySem.W.exmOne U.K (.ref (He.ga U.K c1)) (.ref (He.ga U.K c1)) = some true) (m21 : PySem.W.exmOne U.K (.ref (He.ga U.K c2)) (.ref (He.ga U.K c1)) = some false) (m22 : PySem.W.exmOne U.K (.ref (He.ga U.K c2)) (.ref (He.ga U.K c2)) = some true)
    (m31 : PySem.W.exmOne U.K (.ref (He.ga U.K c3)) (.ref (He.ga U.K c1)) = some false) (m32 : PySem.W.exmOne U.K (.ref (He.ga U.K c3)) (.ref (He.ga U.K c2)) = some false) (m33 : PySem.W.exmOne U.K (.ref (He.ga U.K c3)) (.ref (He.ga U.K c3)) = some true)
    (t1 : PyData.strOk z1 = true ∧ z1.length ≤ sizeLine) (t2 : PyData.strOk z2 = true ∧ z2.length ≤ sizeLine) (t3 : PyData.strOk z3 = true ∧ z3.length ≤ sizeLine)
    (hb : ∀ (EX' : XK) (pn : List (Addr × Obj)) (xe : Value → Shared → Prop), Takes (X.tr pn xe) (fun cls d _ H => EX' cls d H) → DSs (X.tr pn xe) U EX' body wb) :
    DS X U EX (.Try body [h1, h2, h3] [] [] pos) (wTry3 wb c1 c2 c3 f1 f2 f3 z1 z2 z3) :=
  PS.mono (ps_try_asN (tb := fun W => sW U (fun cls d H => ∀ σ : L2.St, σ.length = X.N.length → W cls d σ H) wb) hs hf hN (fun W pn xe tk => hb _ pn xe ((takes_len tk).imp fun c d σ H z => z σ)) hd) fun D σ H ⟨δ, M, R, E, w, l⟩ => by
    refine ⟨δ, M, _, E, w, ⟨l.nx, l.rt, l.bk, l.ct, fun c f x v d M' H' g k e r z σ' hl => ?_⟩⟩
    have fin : ∀ (z0 : Str), PyData.strOk z0 = true ∧ z0.length ≤ sizeLine → R.rt (.tup [.str z0, x]) M' → ∀ a, H' a = none → tsW3 (He.ga U.K c) f z0 i a (.ref (He.ga U.K c)) (some d) (endsAs D i) (σ'.set i (some (.ref a))) H' := by
      intro z0 t0 w0 a ha
      refine ⟨.ref a, by rw [List.getElem?_set_self (by rw [hl]; exact hi)], rfl, rfl, d, [(f, v)], v, rfl, e, by simp, szle (by simp), fun q hq => ?_⟩
      exact l.rt _ _ M' _ (g.trans (.new hq)) (k.new hq) (.tup (SqT.of upd_same) (szle (by simp)) (.cons (.str t0.1 t0.2) (.cons (r.k fun b o e _ => same_upd hq b o e) .nil))) w0
    rw [hK]
    rcases z with (⟨rfl, rfl, z⟩ | ⟨rfl, rfl, z⟩) | ⟨rfl, rfl, z⟩
    · exact ⟨true, m11, fun _ => fin z1 t1 z, fun q => nomatch q⟩
    · exact ⟨false, m21, (fun q => nomatch q), fun _ => ⟨true, m22, fun _ => fin z2 t2 z, fun q => nomatch q⟩⟩
    · exact ⟨false, m31, (fun q => nomatch q), fun _ => ⟨false, m32, (fun q => nomatch q), fun _ => ⟨true, m33, fun _ => fin z3 t3 z, fun q => nomatch q⟩⟩⟩
end
end Lw
namespace Lw
open PySem PySem.Spec PyProof.Rows L2
/-! ### plans and programs as data -/
def dints (l : List Int) : List Dt := l.map Dt.int
mutual
def dpS : Sx → Dt
  | .nm w x => .tup [.str w, .str x]
  | .nu w n => .tup [.str w, .int n]
  | .flat => .tup [.str "flat"]
  | .zip s r => .tup [.str "zip", .tup [.str s, .tup (dpR r)]]
def dpR : List Sx → List Dt
  | [] => []
  | s :: r => dpS s :: dpR r
end
def dpP (x : Str) (r : List Sx) : Dt := .tup [.str x, .tup (dpR r)]
mutual
def dgS : Sx → Dt
  | .nm w x => .tup [.str w, .str x]
  | .nu w n => .tup [.str w, .int n]
  | .flat => .tup [.str "flat"]
  | .zip s r => .tup [.str "zip", .obj "Program" [.lst (dints (hgs 0 r)), .lst (dstrs (s :: lvR r)), .tup (dgR r)]]
def dgR : List Sx → List Dt
  | [] => []
  | s :: r => dgS s :: dgR r
end
def dgP (x : Str) (r : List Sx) : Dt := .obj "Program" [.lst (dints (hgs 0 r)), .lst (dstrs (x :: lvR r)), .tup (dgR r)]
theorem dgS_plain {s : Sx} (h : s.plain) : dgS s = dpS s := by
  cases s <;> first | exact h.elim | (simp [dgS, dpS])
theorem dpR_len : ∀ r : List Sx, (dpR r).length = r.length
  | [] => by simp [dpR]
  | _ :: r => by rw [dpR, List.length_cons, List.length_cons, dpR_len r]
theorem dgR_len : ∀ r : List Sx, (dgR r).length = r.length
  | [] => by simp [dgR]
  | _ :: r => by rw [dgR, List.length_cons, List.length_cons, dgR_len r]
theorem dgR_snoc : ∀ (r : List Sx) (s : Sx), dgR (r ++ [s]) = dgR r ++ [dgS s]
  | [], s => by simp [dgR]
  | x :: r, s => by rw [List.cons_append, dgR, dgR, dgR_snoc r s]; rfl
/-! texts that may be texts -/
def TOk (x : Str) : Prop := PyData.strOk x = true ∧ x.length ≤ sizeLine
theorem tok_list (l : List Str) (h : l.all (fun x => PyData.strOk x && decide (x.length ≤ 1000)) = true) : ∀ x ∈ l, TOk x := fun x hx => by
  have q := List.all_eq_true.mp h x hx
  obtain ⟨q1, q2⟩ := Bool.and_eq_true_iff.mp q
  exact ⟨q1, szle (of_decide_eq_true q2)⟩
theorem tok_named : ∀ w ∈ named, TOk w := tok_list _ (by decide +kernel)
theorem tok_counted : ∀ w ∈ counted, TOk w := tok_list _ (by decide +kernel)
theorem tok_sources : ∀ w ∈ sources, TOk w := tok_list _ (by decide +kernel)
theorem tok_flat : TOk "flat" := ⟨by decide +kernel, by decide +kernel⟩
theorem tok_zip : TOk "zip" := ⟨by decide +kernel, by decide +kernel⟩
theorem letters_ok : ∀ c ∈ letters.cps.toList, PyData.strOk ⟨#[c]⟩ = true := by decide +kernel
theorem tok_name {x : Str} (h : nameB x = true) : TOk x := by
  unfold nameB at h
  obtain ⟨h1, h2⟩ := Bool.and_eq_true_iff.mp h
  obtain ⟨h2, h3⟩ := Bool.and_eq_true_iff.mp h2
  have l8 := of_decide_eq_true h2
  refine ⟨?_, szle (by omega)⟩
  unfold PyData.strOk
  rw [Array.all_eq_true']
  intro c hc
  have q := List.all_eq_true.mp h3 c (by simpa using hc)
  have z := letters_ok c (of_decide_eq_true q)
  unfold PyData.strOk at z
  simpa using z
theorem TOk.rp {U : Ev} {H : Hp} {x : Str} (h : TOk x) : Rp U H (.str x) (.str x) := .str h.1 h.2
section
variable {U : Ev} {H : Hp}
mutual
theorem stv_rp : ∀ (s : Sx) {d : Int} {v : V}, StV U.K H s v → okS d s → LsOk (lvS s) → Rp U H v (dpS s)
  | .nm w x, _, _, ⟨t, e, h⟩, o, _ => by
    rw [okS] at o
    subst e
    rw [dpS]
    exact .tup h (szle (by simp)) (.cons (tok_named w o.1).rp (.cons (tok_name o.2).rp .nil))
  | .nu w n, _, _, ⟨t, e, h⟩, o, _ => by
    rw [okS] at o
    subst e
    rw [dpS]
    exact .tup h (szle (by simp)) (.cons (tok_counted w o.1).rp (.cons .int .nil))
  | .flat, _, _, ⟨t, e, h⟩, _, _ => by
    subst e
    rw [dpS]
    exact .tup h (szle (by simp)) (.cons tok_flat.rp .nil)
  | .zip s r, _, _, ⟨t, p, q, vs, e, h1, h2, h3, h4⟩, o, l => by
    rw [okS] at o
    rw [lvS] at l
    subst e
    rw [dpS]
    refine .tup h1 (szle (by simp)) (.cons tok_zip.rp (.cons (.tup h2 (szle (by simp)) (.cons (tok_sources s (l.2 s (by simp))).rp (.cons (.tup h3 ?_ (rwv_rp r h4 o.2 (l.sub (List.sublist_cons_self _ _)))) .nil))) .nil))
    rw [dpR_len]
    exact szle (by omega)
theorem rwv_rp : ∀ (r : List Sx) {d : Int} {vs : List V}, RwV U.K H r vs → okR d r → LsOk (lvR r) → Rps U H vs (dpR r)
  | [], _, _, h, _, _ => by rw [show _ = [] from h, dpR]; exact .nil
  | s :: r, _, _, ⟨v, us, e, h1, h2⟩, o, l => by
    rw [okR] at o
    rw [lvR] at l
    subst e
    rw [dpR]
    exact .cons (stv_rp s h1 o.1 (l.sub (List.sublist_append_left _ _))) (rwv_rp r h2 o.2 (l.sub (List.sublist_append_right _ _)))
end
theorem plv_rp {x : Str} {r : List Sx} {p : Addr} (h : PlV U.K H x r p) (o : PlanOk x r) : Rp U H (.ref p) (dpP x r) := by
  obtain ⟨q, vs, h1, h2, h3⟩ := h
  refine .tup h1 (szle (by simp)) (.cons (tok_sources x (o.2.2.2 x (by simp))).rp (.cons (.tup h2 ?_ (rwv_rp r h3 o.1 (o.2.2.sub (List.sublist_cons_self _ _)))) .nil))
  rw [dpR_len]
  exact szle (Nat.le_trans o.2.1 (by omega))
theorem rps2 {vs : List V} {d e : Dt} (h : Rps U H vs [d, e]) : ∃ v w, vs = [v, w] ∧ Rp U H v d ∧ Rp U H w e := two_rps h
theorem rp_str {v : V} {x : Str} (h : Rp U H v (.str x)) : v = .str x := by cases h; rfl
theorem rp_int {v : V} {x : Int} (h : Rp U H v (.int x)) : v = .int x := by cases h; rfl
mutual
theorem rp_stv : ∀ (s : Sx) {v : V}, Rp U H v (dpS s) → StV U.K H s v
  | .nm w x, _, h => by
    rw [dpS] at h
    cases h with | tup a b c =>
    obtain ⟨v, w', rfl, h1, h2⟩ := two_rps c
    rw [rp_str h1, rp_str h2] at a
    exact ⟨_, rfl, a⟩
  | .nu w n, _, h => by
    rw [dpS] at h
    cases h with | tup a b c =>
    obtain ⟨v, w', rfl, h1, h2⟩ := two_rps c
    rw [rp_str h1, rp_int h2] at a
    exact ⟨_, rfl, a⟩
  | .flat, _, h => by
    rw [dpS] at h
    cases h with | tup a b c =>
    obtain ⟨v, rfl, h1⟩ := one_rps c
    rw [rp_str h1] at a
    exact ⟨_, rfl, a⟩
  | .zip s r, _, h => by
    rw [dpS] at h
    cases h with | tup a b c =>
    obtain ⟨v, w', rfl, h1, h2⟩ := two_rps c
    rw [rp_str h1] at a
    cases h2 with | tup a2 b2 c2 =>
    obtain ⟨v, w', rfl, h1, h2⟩ := two_rps c2
    rw [rp_str h1] at a2
    cases h2 with | tup a3 b3 c3 =>
    exact ⟨_, _, _, _, rfl, a, a2, a3, rps_rwv r c3⟩
theorem rps_rwv : ∀ (r : List Sx) {vs : List V}, Rps U H vs (dpR r) → RwV U.K H r vs
  | [], _, h => by rw [dpR] at h; cases h; rfl
  | s :: r, _, h => by
    rw [dpR] at h
    cases h with | cons a b => exact ⟨_, _, rfl, rp_stv s a, rps_rwv r b⟩
end
theorem rp_plv {x : Str} {r : List Sx} {v : V} (h : Rp U H v (dpP x r)) : ∃ p, v = .ref p ∧ PlV U.K H x r p := by
  unfold dpP at h
  cases h with | tup a b c =>
  obtain ⟨v, w', rfl, h1, h2⟩ := two_rps c
  rw [rp_str h1] at a
  cases h2 with | tup a2 b2 c2 => exact ⟨_, rfl, _, _, a, a2, rps_rwv r c2⟩
/-! programs -/
abbrev pFld : List Str := ["heights", "leaves", "row"]
theorem dints_rps : ∀ l : List Int, Rps U H (l.map V.int) (dints l) := ints_rps
theorem rps_dints : ∀ {l : List Int} {vs : List V}, Rps U H vs (dints l) → vs = l.map V.int
  | [], _, h => by cases h; rfl
  | i :: l, _, h => by
    cases h with | cons a b => rw [rp_int a, rps_dints b]; rfl
theorem rps_dstrs : ∀ {l : List Str} {vs : List V}, Rps U H vs (dstrs l) → vs = l.map V.str
  | [], _, h => by cases h; rfl
  | i :: l, _, h => by
    cases h with | cons a b => rw [rp_str a, rps_dstrs b]; rfl
theorem dints_len (l : List Int) : (dints l).length = l.length := List.length_map _
theorem pri_rp {C p : Addr} {hs : List Int} {ls : List Str} {row : List V} {rd : List Dt} (hC : C = He.ga U.K "Program") (hT : U.T "Program" = some pFld) (h : PrI C U.K H p hs ls row) (r : Rps U H row rd) : Rp U H (.ref p) (.obj "Program" [.lst (dints hs), .lst (dstrs ls), .tup rd]) := by
  obtain ⟨dx, a, l, q, oh, ol, h1, h2, h3, h4, _, l1, _, l2, l3⟩ := h
  subst hC
  have l4 := l1.len
  refine .obj h1 rfl hT (.cons (.lst h2 ?_ (dints_rps _)) (.cons (.lst h3 ?_ (dstrs_rps fun x hx => tok_sources x (l1.2 x hx))) (.cons (.tup h4 ?_ r) .nil)))
  · rw [dints_len]; exact szle (by omega)
  · rw [dstrs_len]; exact szle (by omega)
  · rw [← r.len]; exact szle (by omega)
theorem rp_pri {v : V} {hs : List Int} {ls : List Str} {rd : List Dt} (hT : U.T "Program" = some pFld) (h : Rp U H v (.obj "Program" [.lst (dints hs), .lst (dstrs ls), .tup rd])) (h1 : hs ≠ []) (h2 : LsOk ls) (h3 : ls ≠ []) (h4 : hs.length ≤ 7) (h5 : rd.length ≤ 6) : ∃ p row, v = .ref p ∧ PrI (He.ga U.K "Program") U.K H p hs ls row ∧ Rps U H row rd := by
  cases h with | @obj a C dx fs c l a b c d =>
  rw [hT] at c
  have e : pFld = fs.map (·.1) := Option.some.inj c
  subst b
  match fs, e, d with
  | [(f1, v1), (f2, v2), (f3, v3)], e, d =>
    cases e
    cases d with | cons d1 d =>
    cases d with | cons d2 d =>
    cases d with | cons d3 d =>
    cases d1 with | lst a1 b1 c1 =>
    cases d2 with | lst a2 b2 c2 =>
    cases d3 with | tup a3 b3 c3 =>
    rw [rps_dints c1] at a1
    rw [rps_dstrs c2] at a2
    exact ⟨_, _, rfl, ⟨_, _, _, _, _, _, a, a1, a2, a3, h1, h2, h3, h4, by rw [c3.len]; exact h5⟩, c3⟩
mutual
theorem stp_rp (hT : U.T "Program" = some pFld) : ∀ (s : Sx) {d : Int} {v : V}, StP (He.ga U.K "Program") U.K H s v → okS d s → Rp U H v (dgS s)
  | .nm w x, _, _, ⟨t, e, h⟩, o => by
    rw [okS] at o
    subst e
    rw [dgS]
    exact .tup h (szle (by simp)) (.cons (tok_named w o.1).rp (.cons (tok_name o.2).rp .nil))
  | .nu w n, _, _, ⟨t, e, h⟩, o => by
    rw [okS] at o
    subst e
    rw [dgS]
    exact .tup h (szle (by simp)) (.cons (tok_counted w o.1).rp (.cons .int .nil))
  | .flat, _, _, ⟨t, e, h⟩, _ => by
    subst e
    rw [dgS]
    exact .tup h (szle (by simp)) (.cons tok_flat.rp .nil)
  | .zip s r, _, _, ⟨t, p, vs, e, h1, h2, h3⟩, o => by
    rw [okS] at o
    subst e
    rw [dgS]
    exact .tup h1 (szle (by simp)) (.cons tok_zip.rp (.cons (pri_rp rfl hT h2 (rwp_rp hT r h3 o.2)) .nil))
theorem rwp_rp (hT : U.T "Program" = some pFld) : ∀ (r : List Sx) {d : Int} {vs : List V}, RwP (He.ga U.K "Program") U.K H r vs → okR d r → Rps U H vs (dgR r)
  | [], _, _, h, _ => by rw [show _ = [] from h, dgR]; exact .nil
  | s :: r, _, _, ⟨v, us, e, h1, h2⟩, o => by
    rw [okR] at o
    subst e
    rw [dgR]
    exact .cons (stp_rp hT s h1 o.1) (rwp_rp hT r h2 o.2)
end
theorem pgp_rp (hT : U.T "Program" = some pFld) {x : Str} {r : List Sx} {p : Addr} (h : PgP (He.ga U.K "Program") U.K H x r p) (o : okR 0 r) : Rp U H (.ref p) (dgP x r) := by
  obtain ⟨vs, h1, h2⟩ := h
  exact pri_rp rfl hT h1 (rwp_rp hT r h2 o)
mutual
theorem rp_stp (hT : U.T "Program" = some pFld) : ∀ (s : Sx) {d : Int} {v : V}, Rp U H v (dgS s) → okS d s → LsOk (lvS s) → StP (He.ga U.K "Program") U.K H s v
  | .nm w x, _, _, h, _, _ => by
    rw [dgS] at h
    cases h with | tup a b c =>
    obtain ⟨v, w', rfl, h1, h2⟩ := two_rps c
    rw [rp_str h1, rp_str h2] at a
    exact ⟨_, rfl, a⟩
  | .nu w n, _, _, h, _, _ => by
    rw [dgS] at h
    cases h with | tup a b c =>
    obtain ⟨v, w', rfl, h1, h2⟩ := two_rps c
    rw [rp_str h1, rp_int h2] at a
    exact ⟨_, rfl, a⟩
  | .flat, _, _, h, _, _ => by
    rw [dgS] at h
    cases h with | tup a b c =>
    obtain ⟨v, rfl, h1⟩ := one_rps c
    rw [rp_str h1] at a
    exact ⟨_, rfl, a⟩
  | .zip s r, _, _, h, o, l => by
    rw [dgS] at h
    rw [okS] at o
    rw [lvS] at l
    cases h with | tup a b c =>
    obtain ⟨v, w', rfl, h1, h2⟩ := two_rps c
    rw [rp_str h1] at a
    obtain ⟨p, row, rfl, hp, hr⟩ := rp_pri hT h2 (hgs_last r 0).2 l (by simp) (by rw [hgs_len]; omega) (by rw [dgR_len]; exact o.1)
    exact ⟨_, _, _, rfl, a, hp, rps_rwp hT r hr o.2 (l.sub (List.sublist_cons_self _ _))⟩
theorem rps_rwp (hT : U.T "Program" = some pFld) : ∀ (r : List Sx) {d : Int} {vs : List V}, Rps U H vs (dgR r) → okR d r → LsOk (lvR r) → RwP (He.ga U.K "Program") U.K H r vs
  | [], _, _, h, _, _ => by rw [dgR] at h; cases h; rfl
  | s :: r, _, _, h, o, l => by
    rw [okR] at o
    rw [lvR] at l
    rw [dgR] at h
    cases h with | cons a b => exact ⟨_, _, rfl, rp_stp hT s a o.1 (l.sub (List.sublist_append_left _ _)), rps_rwp hT r b o.2 (l.sub (List.sublist_append_right _ _))⟩
end
theorem rp_pgp (hT : U.T "Program" = some pFld) {x : Str} {r : List Sx} {v : V} (h : Rp U H v (dgP x r)) (o : PlanOk x r) : ∃ p, v = .ref p ∧ PgP (He.ga U.K "Program") U.K H x r p := by
  obtain ⟨p, row, rfl, hp, hr⟩ := rp_pri hT h (hgs_last r 0).2 o.2.2 (by simp) (by rw [hgs_len]; have := o.2.1; omega) (by rw [dgR_len]; exact o.2.1)
  exact ⟨p, rfl, row, hp, rps_rwp hT r hr o.1 (o.2.2.sub (List.sublist_cons_self _ _))⟩
/-! steps -/
theorem same_go {H' : Hp} {M : Mh} (k : MOk U H M) (s : Same H H') : Go M H M H' ∧ MOk U H' M := ⟨.same s, k.step (fun b o h _ => s b o h) fun b m e => by
  obtain ⟨o, h1, _⟩ := (k b m e).npm
  rw [s _ _ h1, h1]⟩
theorem RpM.k {H' : Hp} {a : Addr} {m : Mo} (h : RpM U H a m) (e : H' a = H a) (s : KPm U H H') : RpM U H' a m := by
  cases m with
  | lst l => obtain ⟨vs, h1, h2, h3⟩ := h; exact ⟨vs, by rw [e]; exact h1, h2, h3.k s⟩
  | ins c ns l => obtain ⟨dx, fs, h1, h2, h3, h4⟩ := h; exact ⟨dx, fs, by rw [e]; exact h1, h2, h3, h4.k s⟩
  | dic _ _ => exact ⟨h.1, h.2.1, by rw [e]; exact h.2.2⟩
theorem but_go {H' : Hp} {M M' : Mh} {L : List Addr} (k : MOk U H M) (b : But L H H') (hL : ∀ a ∈ L, M a ≠ none) (hM : ∀ a, a ∉ L → M' a = M a ∨ H a = none) (new : ∀ a m, M' a = some m → (a ∈ L ∨ H a = none) → RpM U H' a m) : Go M H M' H' ∧ MOk U H' M' := by
  have kp : KPm U H H' := fun a o h p => b a o (fun z => by
    rcases q : M a with _ | m
    · exact hL a z q
    · obtain ⟨o', h1, n, _⟩ := (k a m q).npm
      rw [h] at h1
      cases h1
      exact n p) h
  refine ⟨⟨fun a o h n => b a o (fun z => hL a z n) h, fun a h => ?_⟩, fun a m h => ?_⟩
  · by_cases z : a ∈ L
    · exact .inl (hL a z)
    · rcases hM a z with q | q
      · exact .inl (by rw [← q]; exact h)
      · exact .inr q
  · by_cases z : a ∈ L
    · exact new a m h (.inl z)
    · rcases hM a z with q | q
      · rw [q] at h
        have r := k a m h
        obtain ⟨o, h1, _⟩ := r.npm
        exact r.k (by rw [b a o z h1, h1]) kp
      · exact new a m h (.inr q)
end
end Lw
namespace Lw
open PySem PySem.Spec PyProof.Rows L2
section
variable {X : Cx} {U : Ev} {EX : XK} {a b c e : Expr} {es : List Expr} {pos pos' : Pos} {wa wb we : WE} {wr : WA}
/-! three at once -/
theorem three_rps {H : Hp} {vs : List V} {d e f : Dt} (r : Rps U H vs [d, e, f]) : ∃ v w u, vs = [v, w, u] ∧ Rp U H v d ∧ Rp U H w e ∧ Rp U H u f := by
  cases r with | cons a b => obtain ⟨w, u, rfl, h, g⟩ := two_rps b; exact ⟨_, _, _, rfl, a, h, g⟩
theorem ds_par3 {i j l : Nat} {x y z : Str} {px py pz pt : Pos} {kt k2 pt2} (hc : X.calm = true) (hN : X.N.Nodup) (hi : X.N[i]? = some x) (hj : X.N[j]? = some y) (hl : X.N[l]? = some z) (hij : i ≠ j) (hil : i ≠ l) (hjl : j ≠ l)
    (hx : X.env.scope.names.lookup x = some .local) (hy : X.env.scope.names.lookup y = some .local) (hz : X.env.scope.names.lookup z = some .local) (ha : DA X U [a, b, c] wr)
    (hw : swappedStores [.Tuple [.Name x px, .Name y py, .Name z pz] kt pt] (.Tuple [a, b, c] k2 pt2) X.env = pure (some [x, y, z]))
    (hs : swapsWithSole [.Tuple [.Name x px, .Name y py, .Name z pz] kt pt] (.Tuple [a, b, c] k2 pt2) pos.line X.env = pure false := by rfl) :
    DS X U EX (.Assign [.Tuple [.Name x px, .Name y py, .Name z pz] kt pt] (.Tuple [a, b, c] k2 pt2) pos) (wPar3 i j l wr) := PS.mono (ps_par3 hc hN hi hj hl hij hil hjl hx hy hz ha hw hs) fun _ _ _ ⟨δ, M, R, E, w, l⟩ => by
  refine ⟨δ, M, _, E, w, fun vs ds M1 H1 g k r w1 => ?_⟩
  split at w1
  · obtain ⟨v, u, t, rfl, r1, r2, r3⟩ := three_rps r
    exact ⟨_, _, _, rfl, l.nx _ _ _ _ g ((((E.go g k).set _ r1).set _ r2).set _ r3) w1⟩
  · exact w1.elim
/-! a, b, .. = a list -/
def wgLst (n : Nat) (t : WGs) : WG := fun d δ M R => match d with
  | .lst l => l.length = n ∧ t l δ M R
  | _ => False
theorem dg_lst {k : Nat} {t : WGs} {n : Nat} (hK : X.K = U.K) (hc : X.calm = true) (h : DGs X U es t) (hn : (assignEach es X.env).length = n := by rfl) (hst : (assignEach es X.env).findIdx? (·.1) = none := by rfl) : DG X U (.Tuple es k pos) (wgLst n t) :=
  PG.mono (pg_lst hc h hn hst) fun v σ H Q ⟨d, δ, M, R, E, r, w, l⟩ => by
    unfold wgLst at w
    split at w
    · cases r with | lst a b c =>
      rw [hK]
      exact ⟨_, _, rfl, .inl (.inr ⟨_, a⟩), by rw [c.len]; exact w.1, _, δ, M, R, E, c, w.2, l⟩
    · exact w.elim
/-! a list so many times -/
def wRep (wa wb : WE) : WE := fun δ M R => wa δ M fun x M1 => wb δ M1 fun y M2 => match x, y with
  | .ptr p, .int n => match M2 p with
    | some (.lst l) => 0 ≤ n ∧ n ≤ 1000 ∧ l.length ≤ 1000 ∧ R (.lst (List.replicate n.toNat l).flatten) M2
    | _ => False
  | _, _ => False
theorem rep_rps {H : Hp} {vs : List V} {l : List Dt} (r : Rps U H vs l) : ∀ n : Nat, Rps U H (List.replicate n vs).flatten (List.replicate n l).flatten
  | 0 => .nil
  | n + 1 => by
    rw [List.replicate_succ, List.replicate_succ, List.flatten_cons, List.flatten_cons]
    exact r.app (rep_rps r n)
theorem d_rep (hK : X.K = U.K) (ha : DE X U a wa) (hb : DE X U b wb) : DE X U (.BinOp a .Mult b pos) (wRep wa wb) := PE.mono (pe_lock (pe_op op_rep ha hb)) fun σ H Q ⟨δ, M, R, E, w, l⟩ => by
  refine ⟨δ, M, _, E, w, fun x da M1 H1 g1 k1 r1 w1 => ⟨δ, M1, _, E.go g1 k1, w1, fun y db M2 H2 g2 k2 r2 w2 => ?_⟩⟩
  split at w2
  · rename_i p n
    split at w2
    · rename_i ls q
      cases r1
      cases r2
      obtain ⟨vs, h1, h2, h3⟩ := k2 _ _ q
      have hz : vs.length * n.toNat ≤ sizeLine := by
        rw [h3.len]
        exact Nat.le_trans (Nat.mul_le_mul w2.2.2.1 (show n.toNat ≤ 1000 by omega)) (by rw [sizeLine_eq]; omega)
      refine ⟨_, _, vs, rfl, rfl, h1, by omega, by omega, hz, fun q hq => ⟨q, _, rfl, upd_same, trivial, fun od => ?_⟩⟩
      obtain ⟨g4, k4, r4⟩ := lock_new k2 hq (l := (List.replicate n.toNat ls).flatten) (by
        have := (rep_rps h3 n.toNat).len
        rw [← this, List.length_flatten, List.map_replicate, List.sum_replicate_nat, Nat.mul_comm]
        exact hz) (rep_rps h3 n.toNat) od
      exact l _ _ M2 _ ((g1.trans g2).trans g4) k4 r4 w2.2.2.2
    · exact w2.elim
  · exact w2.elim
/-! list + list: a new list that may change -/
def wCatM (wa wb : WE) : WE := fun δ M R => wa δ M fun x M1 => wb δ M1 fun y M2 => match sql M2 x, sql M2 y with
  | some l, some l2 => l.length + l2.length ≤ sizeLine ∧ ∀ p, M2 p = none → R (.ptr p) (updM M2 p (.lst (l ++ l2)))
  | _, _ => False
theorem d_catM (ha : DE X U a wa) (hb : DE X U b wb) : DE X U (.BinOp a .Add b pos) (wCatM wa wb) := PE.mono (pe_op op_catR ha hb) fun σ H Q ⟨δ, M, R, E, w, l⟩ => by
  refine ⟨δ, M, _, E, w, fun x da M1 H1 g1 k1 r1 w1 => ⟨δ, M1, _, E.go g1 k1, w1, fun y db M2 H2 g2 k2 r2 w2 => ?_⟩⟩
  split at w2
  · rename_i l1 l2 q1 q2
    obtain ⟨p, vs, rfl, hs, rs, hl⟩ := sql_rd k2 (r1.k (g2.kp k1)) q1
    obtain ⟨p2, vs2, rfl, hs2, rs2, hl2⟩ := sql_rd k2 r2 q2
    refine ⟨p, p2, vs, vs2, rfl, rfl, hs, hs2, by rw [rs.len, rs2.len]; exact w2.1, fun q hq => ?_⟩
    exact l _ _ _ _ ((g1.trans g2).trans (.newM hq)) (k2.put (m := .lst (l1 ++ l2)) (.inr hq) ⟨_, upd_same, by rw [List.length_append]; exact w2.1, (rs.app rs2).k fun b o e _ => same_upd hq b o e⟩) .ptr (w2.2 q (k2.nw hq))
  · exact w2.elim
/-! {} -/
def wDic0 : WE := fun _ M R => ∀ p, M p = none → R (.ptr p) (updM M p (.dic [] []))
theorem d_dic0 : DE X U (.Dict [] [] pos) wDic0 := PE.mono pe_dnewK fun σ H Q ⟨δ, M, R, E, w, l⟩ => by
  intro p hp
  exact l _ _ _ _ (.newM hp) (E.mem.put (m := .dic [] []) (.inr hp) ⟨rfl, rfl, upd_same⟩) .ptr (w p (E.mem.nw hp))
/-! text[i:j] where the text's shape is known; f(x) where x may be a list that may change: nothing is locked -/
end
end Lw
namespace Lw
open PySem PySem.Spec PyProof.Rows L2 TL
/-! ### any text read line by line: the pure reading -/
theorem tl_from (l : Str) (n : Nat) : tl (cutS l (some (n : Int)) none) = (tl l).drop n := by
  show ((tl l).drop (HT.sIx l.length 0 (some (n : Int)))).take (HT.sIx l.length l.length none - HT.sIx l.length 0 (some (n : Int))) = _
  rw [HT.sIx_none, HT.sIx_nat]
  have e : l.length = (tl l).length := len_tl l
  rw [e, ← List.length_drop]
  by_cases h : n ≤ (tl l).length
  · rw [Nat.min_eq_left h, List.take_length]
  · rw [Nat.min_eq_right (by omega), List.drop_length, List.drop_of_length_le (by omega)]
    rfl
theorem tl_to (l : Str) (n : Nat) : tl (cutS l none (some (n : Int))) = (tl l).take n := by
  show ((tl l).drop (HT.sIx l.length 0 none)).take (HT.sIx l.length l.length (some (n : Int)) - HT.sIx l.length 0 none) = _
  rw [HT.sIx_none, HT.sIx_nat, List.drop_zero, Nat.sub_zero]
  have e : l.length = (tl l).length := len_tl l
  rw [e]
  by_cases h : n ≤ (tl l).length
  · rw [Nat.min_eq_left h]
  · rw [Nat.min_eq_right (by omega), List.take_length, List.take_of_length_le (by omega)]
/-- the blanks ahead -/
def spn (l : List Nat) : Nat := (l.takeWhile fun c => c == 32).length
theorem spn_le (l : List Nat) : spn l ≤ l.length := by
  unfold spn
  exact (List.takeWhile_prefix _).length_le
theorem spn_take : ∀ l : List Nat, l.take (spn l) = List.replicate (spn l) 32
  | [] => rfl
  | c :: r => by
    unfold spn
    rw [List.takeWhile_cons]
    by_cases h : (c == 32) = true
    · rw [if_pos h, List.length_cons, List.take_succ_cons, List.replicate_succ]
      have := spn_take r
      unfold spn at this
      rw [this, beq_iff_eq.mp h]
    · rw [if_neg h]; rfl
theorem blank_set : (" " : Str).cps.contains = fun c => c == 32 := by
  have e : (" " : Str).cps = #[32] := by decide +kernel
  rw [e]
  funext c
  rw [Bool.eq_iff_iff]
  simp
theorem tl_strip (l : Str) : tl (Txt.lstripChars l " ") = (tl l).drop (spn (tl l)) := by
  unfold Txt.lstripChars
  rw [PySem.W.stripBy_eq]
  unfold PySem.W.stripped
  show (Builtin.Str.strSub l (List.takeWhile _ l.cps.toList).length l.length).cps.toList = _
  rw [StrLaws.strSub_toList, blank_set]
  refine List.take_of_length_le ?_
  rw [List.length_drop]
  have e : l.length = (tl l).length := len_tl l
  have e2 : (tl l).length = l.cps.toList.length := rfl
  rw [← e2, e]
  exact Nat.le_refl _
def blk (l : Str) : Nat := spn (tl l)
theorem len_strip (l : Str) : (Txt.lstripChars l " ").length = l.length - blk l ∧ blk l ≤ l.length := by
  have e : l.length = (tl l).length := len_tl l
  refine ⟨?_, by rw [e]; exact spn_le _⟩
  rw [len_tl, tl_strip, List.length_drop, e]
  rfl
theorem strip_cut (l : Str) : Txt.lstripChars l " " = cutS l (some (blk l : Int)) none := ext_tl (by rw [tl_strip, tl_from]; rfl)
theorem ind_cut {l : Str} {k : Nat} (h : blk l = 2 * k) : l = ind k ++ cutS l (some (blk l : Int)) none := by
  refine ext_tl ?_
  rw [tl_append, tl_ind, tl_from, ← h]
  have := spn_take (tl l)
  unfold blk
  rw [← this, List.take_append_drop]
/-! texts' signs -/
theorem strOk_tl {x : Str} : PyData.strOk x = true ↔ ∀ c ∈ tl x, PyData.strOk ⟨#[c]⟩ = true := by
  unfold PyData.strOk
  rw [Array.all_eq_true']
  constructor
  · intro h c hc
    have q := h c (by simpa [tl] using hc)
    simpa using q
  · intro h c hc
    have q := h c (by simpa [tl] using hc)
    simpa using q
theorem strOk_mem {x y : Str} (h : PyData.strOk x = true) (s : ∀ c ∈ tl y, c ∈ tl x) : PyData.strOk y = true := strOk_tl.mpr fun c hc => strOk_tl.mp h c (s c hc)
theorem strOk_app2 {x y : Str} (h : PyData.strOk x = true) (g : PyData.strOk y = true) : PyData.strOk (x ++ y) = true := strOk_tl.mpr fun c hc => by
  rw [tl_append] at hc
  rcases List.mem_append.mp hc with q | q
  · exact strOk_tl.mp h c q
  · exact strOk_tl.mp g c q
theorem joinL_mem {S : List Nat} {c : Nat} : ∀ {ps : List (List Nat)} {p : List Nat}, p ∈ ps → c ∈ p → c ∈ joinL S ps
  | [q], p, h, hc => by rw [List.mem_singleton.mp h] at hc; exact hc
  | q :: r :: ps, p, h, hc => by
    show c ∈ q ++ (S ++ joinL S (r :: ps))
    rcases List.mem_cons.mp h with e | h
    · rw [e] at hc; exact List.mem_append_left _ hc
    · exact List.mem_append_right _ (List.mem_append_right _ (joinL_mem h hc))
theorem mem_joinL {S : List Nat} {c : Nat} : ∀ {ps : List (List Nat)}, c ∈ joinL S ps → c ∈ S ∨ ∃ p ∈ ps, c ∈ p
  | [], h => by cases h
  | [q], h => .inr ⟨q, by simp, h⟩
  | q :: r :: ps, h => by
    have h : c ∈ q ++ (S ++ joinL S (r :: ps)) := h
    rcases List.mem_append.mp h with h | h
    · exact .inr ⟨q, by simp, h⟩
    rcases List.mem_append.mp h with h | h
    · exact .inl h
    · rcases mem_joinL h with h | ⟨p, hp, h⟩
      · exact .inl h
      · exact .inr ⟨p, by simp [List.mem_cons.mp hp], h⟩
theorem split_mem {x y p : Str} (h : p ∈ Txt.split x y) {c : Nat} (hc : c ∈ tl p) : c ∈ tl x := by
  have e := StrLaws.join_split x y
  rw [← e, tl_join]
  exact joinL_mem (List.mem_map_of_mem h) hc
theorem split_ok {x y : Str} (h : PyData.strOk x = true) : ∀ p ∈ Txt.split x y, PyData.strOk p = true ∧ p.length ≤ x.length := fun p hp => ⟨strOk_mem h fun c hc => split_mem hp hc, PyProof.Rows.part_short hp⟩
theorem join_ok {y : Str} {ps : List Str} (h : PyData.strOk y = true) (g : ∀ p ∈ ps, PyData.strOk p = true) : PyData.strOk (Txt.join y ps) = true := strOk_tl.mpr fun c hc => by
  rw [join_eq, tl_join] at hc
  rcases mem_joinL hc with q | ⟨p, hp, q⟩
  · exact strOk_tl.mp h c q
  · obtain ⟨x, hx, rfl⟩ := List.mem_map.mp hp
    exact strOk_tl.mp (g x hx) c q
/-! a line that holds a stage -/
def digs : List Str := ["1", "2", "3", "4"]
def dig (x : Str) : Int := if x = "1" then 1 else if x = "2" then 2 else if x = "3" then 3 else 4
def rdStage (b : Str) : Option Sx :=
  if b = "flat" then some .flat else match Txt.split b " " with
  | [w, x] => if w ∈ named ∧ nameB x = true then some (.nm w x) else if w ∈ counted ∧ x ∈ digs then some (.nu w (dig x)) else none
  | _ => none
theorem dig_ok {x : Str} (h : x ∈ digs) : strI (dig x) = x ∧ 1 ≤ dig x ∧ dig x ≤ 4 ∧ PySem.intText? x = some (dig x) := by
  have key : ∀ x ∈ digs, strI (dig x) = x ∧ 1 ≤ dig x ∧ dig x ≤ 4 ∧ PySem.intText? x = some (dig x) := by decide +kernel
  exact key x h
theorem split_two {b w x : Str} (h : Txt.split b " " = [w, x]) : b = w ++ (" " : Str) ++ x := by
  have e := StrLaws.join_split b " "
  rw [h] at e
  rw [← e]
  rfl
def Sx.isFlat : Sx → Bool
  | .flat => true
  | _ => false
theorem rdStage_ok {b : Str} {s : Sx} (h : rdStage b = some s) : s.plain ∧ lnS s = [b] ∧ lvS s = [] ∧ rkS s = 0 ∧ ∀ d, (s.isFlat = true → 0 < d) → okS d s := by
  unfold rdStage at h
  split at h
  · rename_i e
    cases h
    refine ⟨trivial, by rw [e, lnS], by simp [lvS], by simp [rkS], fun d hd => ?_⟩
    rw [okS]
    exact hd rfl
  · split at h
    · rename_i w x q
      have e := split_two q
      split at h
      · rename_i c
        cases h
        refine ⟨trivial, by rw [e, lnS], by simp [lvS], by simp [rkS], fun d _ => ?_⟩
        rw [okS]
        exact c
      · split at h
        · rename_i c
          cases h
          obtain ⟨d1, d2, d3, _⟩ := dig_ok c.2
          refine ⟨trivial, by rw [e, lnS, d1], by simp [lvS], by simp [rkS], fun d _ => ?_⟩
          rw [okS]
          exact ⟨c.1, d2, d3⟩
        · cases h
    · cases h
/-! the reader's steps -/
def begR (S : List (Str × List Sx)) (tak : List Str) (l : Str) : Option RS :=
  if cutS l none (some (5 : Nat)) = "from " ∧ cutS l (some (5 : Nat)) none ∈ sources ∧ cutS l (some (5 : Nat)) none ∉ tak then some ⟨(cutS l (some (5 : Nat)) none, []) :: S, false, tak ++ [cutS l (some (5 : Nat)) none]⟩ else none
def cloB (b : Nat) : Str → List Sx → List (Str × List Sx) → List (Str × List Sx)
  | x, r, [] => [(x, r)]
  | x, r, (x2, r2) :: S => if b < 2 * (S.length + 1) then cloB b x2 (r2 ++ [.zip x r]) S else (x, r) :: (x2, r2) :: S
def putR (x : Str) (r : List Sx) (S : List (Str × List Sx)) (tak : List Str) : Option Sx → Option RS
  | none => none
  | some s => if r.length < 6 ∧ (s.isFlat = true → 0 < hgR 0 r) then some ⟨(x, r ++ [s]) :: S, false, tak⟩ else none
def lineR (b : Nat) (l : Str) (tak : List Str) : List (Str × List Sx) → Option RS
  | [] => none
  | (x, r) :: S => if b ≠ 2 * S.length then none else if cutS l (some (b : Int)) none ≠ "zip" then putR x r S tak (rdStage (cutS l (some (b : Int)) none)) else if 6 ≤ r.length ∨ 4 ≤ tak.length then none else some ⟨(x, r) :: S, true, tak⟩
def openR (S : List (Str × List Sx)) (tak : List Str) (l : Str) : Option RS := if Txt.startswith l (ind S.length) = true then begR S tak (cutS l (some ((2 * S.length : Nat) : Int)) none) else none
def stepR (s : RS) (l : Str) : Option RS := match s.st with
  | [] => begR [] s.tak l
  | (x, r) :: S => match s.pend with
    | true => openR ((x, r) :: S) s.tak l
    | false => lineR (blk l) l s.tak (cloB (blk l) x r S)
def lvT (S : List (Str × List Sx)) : List Str := S.flatMap fun p => p.1 :: lvR p.2
def StOk (m : Nat) : List (Str × List Sx) → Prop
  | [] => True
  | (_, r) :: S => okR 0 r ∧ r.length ≤ m ∧ StOk 5 S
structure RsOk (s : RS) : Prop where
  rows : StOk (if s.pend then 5 else 6) s.st
  perm : (lvT s.st).Perm s.tak
  ls : LsOk s.tak
  non : s.st = [] → s.pend = false ∧ s.tak = []
/-- the lines that a state stands for -/
def lnB : List (Str × List Sx) → List Str
  | [] => []
  | (x, r) :: S => lnB S ++ (lnP x r).map (fun l => ind S.length ++ l) ++ [ind S.length ++ "zip"]
def lnT (s : RS) : List Str := match s.st with
  | [] => []
  | (x, r) :: S => match s.pend with
    | true => lnB ((x, r) :: S)
    | false => lnB S ++ (lnP x r).map (fun l => ind S.length ++ l)
theorem StOk.mono {m n : Nat} (h : m ≤ n) : ∀ {S : List (Str × List Sx)}, StOk m S → StOk n S
  | [], _ => trivial
  | (_, _) :: _, ⟨a, b, c⟩ => ⟨a, by omega, c⟩
theorem zip_lines (x2 : Str) (r2 : List Sx) (x : Str) (r : List Sx) (k : Nat) : (lnP x2 (r2 ++ [.zip x r])).map (fun l => ind k ++ l) = (lnP x2 r2).map (fun l => ind k ++ l) ++ [ind k ++ "zip"] ++ (lnP x r).map (fun l => ind (k + 1) ++ l) := by
  unfold lnP
  rw [lnR_snoc, lnS]
  simp [Function.comp_def, ind_succ]
/-- closing keeps the lines and the sources -/
theorem cloB_ok (b : Nat) : ∀ (S : List (Str × List Sx)) (x : Str) (r : List Sx) (tak : List Str), okR 0 r → r.length ≤ 6 → StOk 5 S → (lvT ((x, r) :: S)).Perm tak →
    ∃ x' r' S', cloB b x r S = (x', r') :: S' ∧ okR 0 r' ∧ r'.length ≤ 6 ∧ StOk 5 S' ∧ (lvT ((x', r') :: S')).Perm tak ∧ S'.length ≤ S.length ∧ lnT ⟨(x', r') :: S', false, tak⟩ = lnT ⟨(x, r) :: S, false, tak⟩
  | [], x, r, tak, h1, h2, h3, h4 => ⟨x, r, [], rfl, h1, h2, h3, h4, Nat.le_refl _, rfl⟩
  | (x2, r2) :: S, x, r, tak, h1, h2, h3, h4 => by
    unfold cloB
    split
    · obtain ⟨o2, l2, s2⟩ := h3
      have ok : okR 0 (r2 ++ [.zip x r]) := okR_snoc _ _ _ o2 (by rw [okS]; exact ⟨h2, h1⟩)
      have pm : (lvT ((x2, r2 ++ [.zip x r]) :: S)).Perm tak := by
        refine List.Perm.trans ?_ h4
        show ((x2 :: lvR (r2 ++ [.zip x r])) ++ lvT S).Perm ((x :: lvR r) ++ ((x2 :: lvR r2) ++ lvT S))
        rw [lvR_snoc, lvS, ← List.cons_append]
        rw [← List.append_assoc (x :: lvR r)]
        exact (List.perm_append_comm).append_right _
      obtain ⟨x', r', S', e, k1, k2, k3, k4, k5, k6⟩ := cloB_ok b S x2 (r2 ++ [.zip x r]) tak ok (by rw [List.length_append]; simp only [List.length_cons, List.length_nil]; omega) s2 pm
      refine ⟨x', r', S', e, k1, k2, k3, k4, Nat.le_succ_of_le k5, k6.trans ?_⟩
      show lnB S ++ _ = lnB ((x2, r2) :: S) ++ _
      rw [zip_lines, lnB]
      simp [List.append_assoc]
    · exact ⟨x, r, (x2, r2) :: S, rfl, h1, h2, h3, h4, Nat.le_refl _, rfl⟩
theorem from_eq {l s : Str} (h1 : cutS l none (some ((5 : Nat) : Int)) = "from ") (h2 : cutS l (some ((5 : Nat) : Int)) none = s) : l = ("from " : Str) ++ s := by
  refine ext_tl ?_
  have e1 := congrArg tl h1
  have e2 := congrArg tl h2
  rw [tl_to] at e1
  rw [tl_from] at e2
  rw [tl_append, ← e1, ← e2, List.take_append_drop]
theorem begR_ok {S : List (Str × List Sx)} {tak : List Str} {l : Str} {s' : RS} (hS : StOk 5 S) (hp : (lvT S).Perm tak) (hl : LsOk tak) (h : begR S tak l = some s') : ∃ s, l = ("from " : Str) ++ s ∧ s ∈ sources ∧ s ∉ tak ∧ s' = ⟨(s, []) :: S, false, tak ++ [s]⟩ ∧ RsOk s' ∧ lnT s' = lnB S ++ [ind S.length ++ l] := by
  unfold begR at h
  split at h
  · rename_i c
    obtain ⟨c1, c2, c3⟩ := c
    generalize e : cutS l (some ((5 : Nat) : Int)) none = s at h c2 c3
    have el := from_eq c1 e
    cases h
    refine ⟨s, el, c2, c3, rfl, ⟨?_, ?_, ?_, fun z => by cases z⟩, ?_⟩
    · exact ⟨by rw [okR]; trivial, Nat.zero_le _, hS⟩
    · show (s :: lvR [] ++ lvT S).Perm (tak ++ [s])
      rw [lvR]
      show (s :: lvT S).Perm (tak ++ [s])
      exact (hp.cons s).trans (List.perm_append_singleton s tak).symm
    · refine hl.app (.one c2) ?_
      simp [c3]
    · show lnB S ++ (lnP s []).map _ = _
      unfold lnP
      rw [lnR, el]
      rfl
  · cases h
theorem starts_tl {l p : Str} (h : Txt.startswith l p = true) : (tl l).take (tl p).length = tl p := by
  unfold Txt.startswith at h
  rw [PySem.StrLaws.subAt_eq] at h
  simp only [List.drop_zero, Bool.and_eq_true, decide_eq_true_eq, beq_iff_eq] at h
  have e : p.length = (tl p).length := len_tl p
  have := h
  first
    | (obtain ⟨_, q⟩ := this; rw [← e]; exact q)
    | (rw [← e]; exact this)
end Lw
namespace Lw
open PySem PySem.Spec PyProof.Rows L2 TL
theorem lvT_len : ∀ S : List (Str × List Sx), S.length ≤ (lvT S).length
  | [] => Nat.le_refl _
  | (x, r) :: S => by
    show _ ≤ ((x :: lvR r) ++ lvT S).length
    have := lvT_len S
    rw [List.length_append, List.length_cons, List.length_cons]
    omega
theorem RsOk.len {s : RS} (h : RsOk s) : s.st.length ≤ s.tak.length ∧ s.tak.length ≤ 4 := ⟨by rw [← h.perm.length_eq]; exact lvT_len _, h.ls.len⟩
theorem LsOk.perm {l m : List Str} (h : LsOk l) (p : l.Perm m) : LsOk m := ⟨p.nodup_iff.mp h.1, fun x hx => h.2 x (p.mem_iff.mpr hx)⟩
theorem hgR_pos : ∀ (r : List Sx) (d : Int), 0 ≤ d → okR d r → 0 ≤ hgR d r ∧ True
  | [], d, h, _ => ⟨by rw [hgR]; exact h, trivial⟩
  | s :: r, d, h, o => by
    rw [okR] at o
    rw [hgR]
    refine hgR_pos r _ ?_ o.2
    have o1 := o.1
    cases s with
    | nm w x => rw [hgS]; split <;> omega
    | nu w n => rw [hgS]; split <;> omega
    | flat => rw [okS] at o1; rw [hgS]; omega
    | zip s' r' =>
      rw [okS] at o1
      rw [hgS]
      have := (hgR_pos r' 0 (Int.le_refl 0) o1.2).1
      omega
theorem ind_of {l : Str} {k : Nat} (h : Txt.startswith l (ind k) = true) : l = ind k ++ cutS l (some ((2 * k : Nat) : Int)) none := by
  have e := starts_tl h
  have e2 : (tl (ind k)).length = 2 * k := by rw [tl_ind, List.length_replicate]
  rw [e2] at e
  refine ext_tl ?_
  rw [tl_append, tl_from, ← e, List.take_append_drop]
theorem openR_ok {S : List (Str × List Sx)} {tak : List Str} {l : Str} {s' : RS} (hS : StOk 5 S) (hp : (lvT S).Perm tak) (hl : LsOk tak) (h : openR S tak l = some s') : RsOk s' ∧ s'.pend = false ∧ lnT s' = lnB S ++ [l] := by
  unfold openR at h
  split at h
  · rename_i c
    obtain ⟨s, e1, _, _, e2, k, e3⟩ := begR_ok hS hp hl h
    refine ⟨k, by rw [e2], ?_⟩
    rw [e3, ← ind_of c]
  · cases h
theorem lineR_ok {b : Nat} {l : Str} {tak : List Str} {x : Str} {r : List Sx} {S : List (Str × List Sx)} {s' : RS} (hb : b = blk l) (o : okR 0 r) (l6 : r.length ≤ 6) (hS : StOk 5 S) (hp : (lvT ((x, r) :: S)).Perm tak) (hl : LsOk tak) (h : lineR b l tak ((x, r) :: S) = some s') :
    RsOk s' ∧ lnT s' = lnT ⟨(x, r) :: S, false, tak⟩ ++ [l] := by
  subst hb
  unfold lineR at h
  dsimp only at h
  by_cases c1 : blk l ≠ 2 * S.length
  · rw [if_pos c1] at h
    cases h
  · rw [if_neg c1] at h
    have e1 : blk l = 2 * S.length := by omega
    have el := ind_cut e1
    by_cases c2 : cutS l (some (blk l : Int)) none ≠ "zip"
    · rw [if_pos c2] at h
      generalize hb : rdStage (cutS l (some (blk l : Int)) none) = q at h
      cases q with
      | none => cases h
      | some s =>
        obtain ⟨p1, p2, p3, p4, p5⟩ := rdStage_ok hb
        unfold putR at h
        dsimp only at h
        by_cases c : r.length < 6 ∧ (s.isFlat = true → 0 < hgR 0 r)
        · rw [if_pos c] at h
          cases h
          refine ⟨⟨⟨okR_snoc _ _ _ o (p5 _ c.2), by rw [List.length_append]; show r.length + 1 ≤ 6; omega, hS⟩, ?_, hl, fun z => by cases z⟩, ?_⟩
          · show ((x :: lvR (r ++ [s])) ++ lvT S).Perm tak
            rw [lvR_snoc, p3, List.append_nil]
            exact hp
          · show lnB S ++ (lnP x (r ++ [s])).map _ = (lnB S ++ (lnP x r).map _) ++ [l]
            unfold lnP
            rw [lnR_snoc, p2, ← List.cons_append, List.map_append, ← List.append_assoc]
            congr 1
            rw [List.map_cons, List.map_nil, ← el]
        · rw [if_neg c] at h
          cases h
    · rw [if_neg c2] at h
      by_cases c3 : 6 ≤ r.length ∨ 4 ≤ tak.length
      · rw [if_pos c3] at h
        cases h
      · rw [if_neg c3] at h
        cases h
        refine ⟨⟨⟨o, by show r.length ≤ 5; omega, hS⟩, hp, hl, fun z => by cases z⟩, ?_⟩
        show lnB ((x, r) :: S) = (lnB S ++ (lnP x r).map _) ++ [l]
        rw [lnB]
        have e2 : cutS l (some (blk l : Int)) none = "zip" := Decidable.not_not.mp c2
        rw [e2] at el
        rw [← el]
theorem stepR_ok {s s' : RS} {l : Str} (k : RsOk s) (h : stepR s l = some s') : RsOk s' ∧ s'.st ≠ [] ∧ lnT s' = lnT s ++ [l] := by
  obtain ⟨st, pend, tak⟩ := s
  have key : RsOk s' ∧ lnT s' = lnT ⟨st, pend, tak⟩ ++ [l] := by
    unfold stepR at h
    cases st with
    | nil =>
      obtain ⟨z1, z2⟩ := k.non rfl
      dsimp only at z1 z2 h
      subst z1 z2
      obtain ⟨s, e1, _, _, e2, k', e3⟩ := begR_ok (S := []) trivial (List.Perm.refl _) k.ls h
      refine ⟨k', ?_⟩
      rw [e3]
      show [] ++ [ind 0 ++ l] = [] ++ [l]
      rw [ind_zero]
    | cons t S =>
      obtain ⟨x, r⟩ := t
      dsimp only at h
      cases pend with
      | true =>
        have z := openR_ok (S := (x, r) :: S) k.rows k.perm k.ls h
        exact ⟨z.1, z.2.2⟩
      | false =>
        obtain ⟨o, l6, hS⟩ := k.rows
        obtain ⟨x', r', S', e, k1, k2, k3, k4, k5, k6⟩ := cloB_ok (blk l) S x r tak o l6 hS k.perm
        dsimp only at h
        rw [e] at h
        have z := lineR_ok rfl k1 k2 k3 k4 k.ls h
        exact ⟨z.1, by rw [z.2, k6]⟩
  refine ⟨key.1, fun z => ?_, key.2⟩
  have q := key.2
  unfold lnT at q
  rw [z] at q
  have : ([] : List Str).length = (lnT ⟨st, pend, tak⟩ ++ [l]).length := congrArg List.length q
  rw [List.length_append] at this
  simp at this
/-- a text's lines, one after the other: the first bad one, or the state behind them all -/
def runR : RS → List Str → Nat → Sum Nat RS
  | s, [], _ => .inr s
  | s, l :: ls, k => match stepR s l with
    | none => .inl (k + 1)
    | some s' => runR s' ls (k + 1)
theorem runR_ok : ∀ (ls : List Str) (s s' : RS) (k : Nat), RsOk s → runR s ls k = .inr s' → RsOk s' ∧ lnT s' = lnT s ++ ls ∧ (ls ≠ [] → s'.st ≠ [])
  | [], s, s', k, h, e => by
    cases e
    exact ⟨h, by simp, fun z => absurd rfl z⟩
  | l :: ls, s, s', k, h, e => by
    unfold runR at e
    split at e
    · cases e
    · rename_i s1 q
      obtain ⟨h1, h2, h3⟩ := stepR_ok h q
      obtain ⟨h4, h5, h6⟩ := runR_ok ls s1 s' (k + 1) h1 e
      refine ⟨h4, by rw [h5, h3]; simp, fun _ => ?_⟩
      cases ls with
      | nil => cases e; exact h2
      | cons _ _ => exact h6 (by simp)
theorem cloB_zero : ∀ (S : List (Str × List Sx)) (x : Str) (r : List Sx), ∃ x' r', cloB 0 x r S = [(x', r')]
  | [], x, r => ⟨x, r, rfl⟩
  | (x2, r2) :: S, x, r => by
    unfold cloB
    rw [if_pos (by omega)]
    exact cloB_zero S _ _
def rs0 : RS := ⟨[], false, []⟩
theorem rs0_ok : RsOk rs0 := ⟨trivial, List.Perm.refl _, ⟨List.nodup_nil, fun _ h => nomatch h⟩, fun _ => ⟨rfl, rfl⟩⟩
theorem ind0_map (l : List Str) : l.map (fun x => ind 0 ++ x) = l := by
  have e : (fun x : Str => ind 0 ++ x) = id := funext ind_zero
  rw [e, List.map_id]
/-- what a text that is read whole holds -/
theorem text_back {text : Str} {x : Str} {r : List Sx} {S : List (Str × List Sx)} {tak : List Str} (h : runR rs0 (Txt.split text "\n") 0 = .inr ⟨(x, r) :: S, false, tak⟩) :
    ∃ x' r', cloB 0 x r S = [(x', r')] ∧ PlanOk x' r' ∧ Txt.join "\n" (lnP x' r') = text := by
  obtain ⟨k, e, _⟩ := runR_ok _ _ _ _ rs0_ok h
  obtain ⟨o, l6, hS⟩ := k.rows
  obtain ⟨x', r', S', e1, k1, k2, k3, k4, k5, k6⟩ := cloB_ok 0 S x r tak o l6 hS k.perm
  obtain ⟨x2, r2, e2⟩ := cloB_zero S x r
  rw [e2] at e1
  obtain ⟨⟨rfl, rfl⟩, rfl⟩ : (x2 = x' ∧ r2 = r') ∧ S' = [] := by
    have q := List.cons.inj e1
    exact ⟨⟨congrArg Prod.fst q.1, congrArg Prod.snd q.1⟩, q.2.symm⟩
  refine ⟨x2, r2, e2, ⟨k1, k2, ?_⟩, ?_⟩
  · have := k.ls.perm k4.symm
    simpa [lvT] using this
  · rw [e] at k6
    have e3 : lnP x2 r2 = Txt.split text "\n" := by
      have q : [] ++ (lnP x2 r2).map (fun l => ind 0 ++ l) = [] ++ Txt.split text "\n" := k6
      rw [ind0_map] at q
      exact q
    rw [e3, join_eq]
    exact StrLaws.join_split text "\n"
def badL (text : Str) : Int := match runR rs0 (Txt.split text "\n") 0 with
  | .inl k => k
  | .inr s => match s.pend with
    | true => (Txt.split text "\n").length + 1
    | false => 0
end Lw
namespace Lw
open PySem PySem.Spec PyProof.Rows L2 TL
/-! ### small facts for readings -/
theorem tv_strs (l : List Str) : (dstrs l).map tv = l.map V.str := by
  unfold dstrs
  rw [List.map_map]
  rfl
theorem inV_strs (x : Str) (l : List Str) : inV (.str x) ((dstrs l).map tv) = decide (x ∈ l) := by rw [tv_strs, inV_str]
theorem all_fl : ∀ l : List Str, (dstrs l).all fl = true
  | [] => rfl
  | _ :: l => by
    show ((fl _) && _) = true
    rw [show (List.map Dt.str l).all fl = true from all_fl l]
    rfl
theorem dstrs_cons (x : Str) (l : List Str) : dstrs (x :: l) = .str x :: dstrs l := rfl
theorem dstrs_nil : dstrs [] = [] := rfl
theorem dstrs_app (l m : List Str) : dstrs (l ++ m) = dstrs l ++ dstrs m := List.map_append
theorem atI_zero {α : Type} (a : α) (l : List α) : atI (a :: l) 0 = some a := atI_nat (j := 0) rfl
theorem atI_one {α : Type} (a b : α) (l : List α) : atI (a :: b :: l) 1 = some b := atI_nat (j := 1) rfl
theorem atI_two {α : Type} (a b c : α) (l : List α) : atI (a :: b :: c :: l) 2 = some c := atI_nat (j := 2) rfl
theorem atI_last2 {α : Type} (xs : List α) (v u : α) : atI (xs ++ [v, u]) (-2) = some v := by
  have hl : (xs ++ [v, u]).length = xs.length + 2 := by simp
  have e : ixN (xs ++ [v, u]).length (-2) = some xs.length := by
    unfold ixN
    rw [if_neg (by omega), hl, if_pos (by omega)]
    congr 1
    omega
  unfold atI
  rw [e]
  simp
theorem cutD_last (xs : List Dt) (v : Dt) : cutD (xs ++ [v]) none (some (-1)) = xs := by
  unfold cutD
  have e : HT.sIx (xs ++ [v]).length (xs ++ [v]).length (some (-1)) = xs.length := by
    show (if (-1 : Int) < 0 then ((-1 : Int) + ((xs ++ [v]).length : Int)).toNat else min (-1 : Int).toNat (xs ++ [v]).length) = _
    rw [if_pos (by omega), List.length_append]
    simp only [List.length_cons, List.length_nil]
    omega
  rw [e, HT.sIx_none, List.drop_zero, Nat.sub_zero, List.take_left]
theorem cutD_last2 (xs : List Dt) (v u : Dt) : cutD (xs ++ [v, u]) none (some (-2)) = xs := by
  unfold cutD
  have e : HT.sIx (xs ++ [v, u]).length (xs ++ [v, u]).length (some (-2)) = xs.length := by
    show (if (-2 : Int) < 0 then ((-2 : Int) + ((xs ++ [v, u]).length : Int)).toNat else min (-2 : Int).toNat (xs ++ [v, u]).length) = _
    rw [if_pos (by omega), List.length_append]
    simp only [List.length_cons, List.length_nil]
    omega
  rw [e, HT.sIx_none, List.drop_zero, Nat.sub_zero, List.take_left]
theorem cutD_to (xs : List Dt) (n : Nat) : cutD xs none (some (n : Int)) = xs.take n := by
  unfold cutD
  rw [HT.sIx_none, HT.sIx_nat, List.drop_zero, Nat.sub_zero]
  by_cases h : n ≤ xs.length
  · rw [Nat.min_eq_left h]
  · rw [Nat.min_eq_right (by omega), List.take_length, List.take_of_length_le (by omega)]
theorem cutD_from (xs : List Dt) (n : Nat) : cutD xs (some (n : Int)) none = xs.drop n := by
  unfold cutD
  rw [HT.sIx_none, HT.sIx_nat]
  by_cases h : n ≤ xs.length
  · rw [Nat.min_eq_left h, ← List.length_drop, List.take_length]
  · rw [Nat.min_eq_right (by omega), List.drop_length, List.drop_of_length_le (by omega), List.take_nil]
/-- texts of moderate length -/
def TS (n : Nat) (x : Str) : Prop := PyData.strOk x = true ∧ x.length ≤ n
theorem TS.tok {n : Nat} {x : Str} (h : TS n x) (hn : n ≤ 1000000 := by omega) : TOk x := ⟨h.1, Nat.le_trans h.2 (by rw [sizeLine_eq]; omega)⟩
theorem TS.mono {n m : Nat} {x : Str} (h : TS n x) (hn : n ≤ m) : TS m x := ⟨h.1, Nat.le_trans h.2 hn⟩
theorem TS.cut {n : Nat} {x : Str} (h : TS n x) (lo hi : Option Int) : TS n (cutS x lo hi) := ⟨(strOk_cut h.1).1, Nat.le_trans (strOk_cut h.1).2 h.2⟩
theorem TS.split {n : Nat} {x y p : Str} (h : TS n x) (hp : p ∈ Txt.split x y) : TS n p := ⟨(split_ok h.1 p hp).1, Nat.le_trans (split_ok h.1 p hp).2 h.2⟩
theorem TS.app {n m : Nat} {x y : Str} (h : TS n x) (g : TS m y) : TS (n + m) (x ++ y) := ⟨strOk_app2 h.1 g.1, by rw [str_len_app]; exact Nat.add_le_add h.2 g.2⟩
/-- what splitting asks -/
theorem split_pre {n : Nat} {x y : Str} (h : TS n x) (hn : n ≤ 1000000) : x.length + 2 ≤ sizeLine ∧ (∀ p ∈ Txt.split x y, PyData.strOk p = true ∧ p.length ≤ sizeLine) ∧ (Txt.split x y).length ≤ sizeLine := by
  have h2 := h.2
  refine ⟨by rw [sizeLine_eq]; omega, fun p hp => (h.split hp).tok hn, ?_⟩
  have := PyProof.Rows.split_le x y
  rw [sizeLine_eq]
  omega
theorem lc_strs (x : Str) : x.length ≤ 1000000 → x.length ≤ sizeLine := fun h => by rw [sizeLine_eq]; omega
end Lw
namespace LwQ
open PySem PySem.SeqAt GQ
open AutoSeq1 (wpAny_loadPart')
open MeetsSeq MeetsSeq2 MeetsSeq3 SeqRoads2
section
variable {prog : Program} {w : World} {A : Around} {R : Result → Shared → Prop}
/-- two tuples, pair by pair, until two differ -/
theorem tuple_eqB (l b : Addr) (items items2 : Array Value) (n n2 : Nat) (dd dd2 : Option Addr) (sl sl2 : Array (Option Value)) (I : Nat → Shared → Prop) (J : Shared → Prop)
    (turn : ∀ i (h1 : i < items.size) (h2 : i < items2.size) s, I i s → wpAny (model prog w) A.in1 (eqBool items[i] items2[i]) (fun r s' => (r = true ∧ I (i + 1) s') ∨ (r = false ∧ J s')) (fun e s' => R (.error e) s') s)
    (fin : ∀ i s, (i = items.size ∨ i = items2.size) → I i s → R (.ok (.ret (.bool (items.size == items2.size)))) s) (fin2 : ∀ s, J s → R (.ok (.ret (.bool false))) s) {s : Shared}
    (hl1 : s.heap.get? l = some { cls := .type "tuple", dict := dd, data := .seq items n, slots := sl }) (hb1 : s.heap.get? b = some { cls := .type "tuple", dict := dd2, data := .seq items2 n2, slots := sl2 }) (h : I 0 s) :
    wpAny (model prog w) A.in1 (Builtin.«tuple.__eq__» ⟨[.ref l, .ref b], []⟩) (FinOf prog w A R) (fun e s' => R (.error e) s') s := by
  have f2 := AutoSeq1.sub_tuple_tuple
  have hZ : (items.toList.zip items2.toList).length = min items.size items2.size := by simp
  have h0 := h
  obtain ⟨hp, g, d, tk, os⟩ := s
  wp_walk using wpAny_loadPart' hl1, wpAny_loadPart' hb1, wpAny_forIn_list _ (fun rest c s' => c.1 = none ∧ ∃ i, rest = (items.toList.zip items2.toList).drop i ∧ i ≤ min items.size items2.size ∧ I i s') _
  case turn =>
    rintro ⟨y, x⟩ rest c s' ⟨hc, i, hz, hi, hI⟩
    have hlt : i < (items.toList.zip items2.toList).length := by
      rcases Nat.lt_or_ge i (items.toList.zip items2.toList).length with z | z
      · exact z
      · rw [List.drop_of_length_le z] at hz
        cases hz
    have h1 : i < items.size := by omega
    have h2 : i < items2.size := by omega
    rw [List.drop_eq_getElem_cons hlt] at hz
    obtain ⟨e1, e2⟩ := List.cons.inj hz
    have hy : y = items[i] := by simpa using congrArg Prod.fst e1
    have hx : x = items2[i] := by simpa using congrArg Prod.snd e1
    subst hy hx
    refine wpAny_bind (wpAny_mono (turn i h1 h2 s' hI) (fun r s2 q => ?_) fun _ _ z => z)
    rcases q with ⟨rfl, q⟩ | ⟨rfl, q⟩
    · wp_walk
      exact ⟨rfl, i + 1, e2, by omega, q⟩
    · wp_walk
      exact fin2 s2 q
  case fin =>
    rintro ⟨b1, b2⟩ s' ⟨hc, i, hz, hi, hI⟩
    simp only at hc
    subst hc
    have hge : min items.size items2.size ≤ i := by
      rcases Nat.lt_or_ge i (items.toList.zip items2.toList).length with z | z
      · rw [List.drop_eq_getElem_cons z] at hz
        cases hz
      · omega
    have hR := fin i s' (by omega) hI
    wp_walk
    simpa [Builtin.Tuple.tupleCompareSizes] using hR
  case h =>
    exact ⟨rfl, 0, rfl, Nat.zero_le _, h0⟩
/-- two tuples, pair by pair, until two differ: != -/
theorem tuple_neB (l b : Addr) (items items2 : Array Value) (n n2 : Nat) (dd dd2 : Option Addr) (sl sl2 : Array (Option Value)) (I : Nat → Shared → Prop) (J : Shared → Prop)
    (turn : ∀ i (h1 : i < items.size) (h2 : i < items2.size) s, I i s → wpAny (model prog w) A.in1 (eqBool items[i] items2[i]) (fun r s' => (r = true ∧ I (i + 1) s') ∨ (r = false ∧ J s')) (fun e s' => R (.error e) s') s)
    (fin : ∀ i s, (i = items.size ∨ i = items2.size) → I i s → R (.ok (.ret (.bool (items.size != items2.size)))) s) (fin2 : ∀ s, J s → R (.ok (.ret (.bool true))) s) {s : Shared}
    (hl1 : s.heap.get? l = some { cls := .type "tuple", dict := dd, data := .seq items n, slots := sl }) (hb1 : s.heap.get? b = some { cls := .type "tuple", dict := dd2, data := .seq items2 n2, slots := sl2 }) (h : I 0 s) :
    wpAny (model prog w) A.in1 (Builtin.«tuple.__ne__» ⟨[.ref l, .ref b], []⟩) (FinOf prog w A R) (fun e s' => R (.error e) s') s := by
  have f2 := AutoSeq1.sub_tuple_tuple
  have hZ : (items.toList.zip items2.toList).length = min items.size items2.size := by simp
  have h0 := h
  obtain ⟨hp, g, d, tk, os⟩ := s
  wp_walk using wpAny_loadPart' hl1, wpAny_loadPart' hb1, wpAny_forIn_list _ (fun rest c s' => c.1 = none ∧ ∃ i, rest = (items.toList.zip items2.toList).drop i ∧ i ≤ min items.size items2.size ∧ I i s') _
  case turn =>
    rintro ⟨y, x⟩ rest c s' ⟨hc, i, hz, hi, hI⟩
    have hlt : i < (items.toList.zip items2.toList).length := by
      rcases Nat.lt_or_ge i (items.toList.zip items2.toList).length with z | z
      · exact z
      · rw [List.drop_of_length_le z] at hz
        cases hz
    have h1 : i < items.size := by omega
    have h2 : i < items2.size := by omega
    rw [List.drop_eq_getElem_cons hlt] at hz
    obtain ⟨e1, e2⟩ := List.cons.inj hz
    have hy : y = items[i] := by simpa using congrArg Prod.fst e1
    have hx : x = items2[i] := by simpa using congrArg Prod.snd e1
    subst hy hx
    refine wpAny_bind (wpAny_mono (turn i h1 h2 s' hI) (fun r s2 q => ?_) fun _ _ z => z)
    rcases q with ⟨rfl, q⟩ | ⟨rfl, q⟩
    · wp_walk
      exact ⟨rfl, i + 1, e2, by omega, q⟩
    · wp_walk
      exact fin2 s2 q
  case fin =>
    rintro ⟨b1, b2⟩ s' ⟨hc, i, hz, hi, hI⟩
    simp only at hc
    subst hc
    have hge : min items.size items2.size ≤ i := by
      rcases Nat.lt_or_ge i (items.toList.zip items2.toList).length with z | z
      · rw [List.drop_eq_getElem_cons z] at hz
        cases hz
      · omega
    have hR := fin i s' (by omega) hI
    wp_walk
    simpa [Builtin.Tuple.tupleCompareSizes] using hR
  case h =>
    exact ⟨rfl, 0, rfl, Nat.zero_le _, h0⟩
/-- two lists of N items each, read anew at each turn, until two differ -/
def ListJ (prog : Program) (w : World) (A : Around) (E : Value → Shared → Prop) (l b : Addr) (N : Nat) (I : Nat → Shared → Prop) (J : Shared → Prop) : Prop :=
  ∀ i s, I i s → ∃ (items items2 : Array Value) (n n2 : Nat), s.heap.get? l = some { cls := .type "list", data := .seq items n } ∧ s.heap.get? b = some { cls := .type "list", data := .seq items2 n2 } ∧ items.size = N ∧ items2.size = N ∧
    ∀ (h1 : i < items.size) (h2 : i < items2.size), wpAny (model prog w) A.in1 (eqBool items[i] items2[i]) (fun r s' => (r = true ∧ I (i + 1) s') ∨ (r = false ∧ J s' ∧ ∃ (it it2 : Array Value) (m m2 : Nat), s'.heap.get? l = some { cls := .type "list", data := .seq it m } ∧ s'.heap.get? b = some { cls := .type "list", data := .seq it2 m2 } ∧ it.size = N ∧ it2.size = N)) E s
theorem loopB (l b : Addr) (N : Nat) (I : Nat → Shared → Prop) (J : Shared → Prop) (hl : ListJ prog w A (fun e s' => R (.error e) s') l b N I J)
    (fin : ∀ s, I N s → R (.ok (.ret (.bool true))) s) (fin2 : ∀ s, J s → R (.ok (.ret (.bool false))) s) : ∀ (k i : Nat), N - i = k → i ≤ N → ∀ s, I i s →
      wpAny (model prog w) A.in1 (Builtin.«list.__eq__.loop» ⟨[.ref l, .ref b, rawInt i, rawInt 2], []⟩) (FinOf prog w A R) (fun e s' => R (.error e) s') s
  | 0, i, hk, hi, s, h => by
    obtain ⟨items, items2, n, n2, hl1, hb1, hs1, hs2, _⟩ := hl i s h
    obtain rfl : i = N := by omega
    have hR := fin s h
    obtain ⟨hp, g, d, tk, os⟩ := s
    wp_walk using wpAny_loadPart' hl1, wpAny_loadPart' hb1
    have z1 : items[((i : Nat) : Int).toNat]? = none := by simp; omega
    have z2 : items2[((i : Nat) : Int).toNat]? = none := by simp; omega
    rw [z1, z2]
    wp_walk using wpAny_loadPart' hl1, wpAny_loadPart' hb1
    show R (.ok (.ret (.bool (items.size == items2.size)))) _
    rw [hs1, hs2, beq_self_eq_true]
    exact hR
  | k + 1, i, hk, hi, s, h => by
    obtain ⟨items, items2, n, n2, hl1, hb1, hs1, hs2, turn⟩ := hl i s h
    have l1 : i < items.size := by omega
    have l2 : i < items2.size := by omega
    have t := turn l1 l2
    obtain ⟨hp, g, d, tk, os⟩ := s
    wp_walk using wpAny_loadPart' hl1, wpAny_loadPart' hb1
    have z1 : items[((i : Nat) : Int).toNat]? = some items[i] := by simp [l1]
    have z2 : items2[((i : Nat) : Int).toNat]? = some items2[i] := by simp [l2]
    rw [z1, z2]
    refine wpAny_bind (wpAny_mono t (fun r s2 q => ?_) fun _ _ z => z)
    rcases q with ⟨rfl, q⟩ | ⟨rfl, q, it, it2, m, m2, g1, g2, g3, g4⟩
    · have again := loopB l b N I J hl fin fin2 k (i + 1) (by omega) (by omega) s2 q
      obtain ⟨hp2, gg, d2, tk2, os2⟩ := s2
      wp_walk
      have ci : ((i : Int) + 1) = ((i + 1 : Nat) : Int) := by omega
      rw [ci]
      exact ⟨plainId_quiet plain_eq_loop _, codeAny_builtin entry_eq_loop (by
        rw [Around.under_plainId plain_eq_loop _]
        exact again)⟩
    · have hR := fin2 s2 q
      obtain ⟨hp2, gg, d2, tk2, os2⟩ := s2
      have y1 : it[((i : Nat) : Int).toNat]? = some (it[i]'(by omega)) := by simp [show i < it.size by omega]
      have y2 : it2[((i : Nat) : Int).toNat]? = some (it2[i]'(by omega)) := by simp [show i < it2.size by omega]
      wp_walk using wpAny_loadPart' g1, wpAny_loadPart' g2
      rw [y1, y2]
      wp_walk
      exact hR
theorem list_eqB (l b : Addr) (N : Nat) (I : Nat → Shared → Prop) (J : Shared → Prop) (hl : ListJ prog w A (fun e s' => R (.error e) s') l b N I J)
    (fin : ∀ s, I N s → R (.ok (.ret (.bool true))) s) (fin2 : ∀ s, J s → R (.ok (.ret (.bool false))) s) {s : Shared} (h : I 0 s) :
    wpAny (model prog w) A.in1 (Builtin.«list.__eq__» ⟨[.ref l, .ref b], []⟩) (FinOf prog w A R) (fun e s' => R (.error e) s') s := by
  obtain ⟨items, items2, n, n2, hl1, hb1, hs1, hs2, _⟩ := hl 0 s h
  have again := loopB (A := A) (R := R) l b N I J hl fin fin2 N 0 rfl (Nat.zero_le _) s h
  obtain ⟨hp, g, d, tk, os⟩ := s
  have f3 := AutoSeq1.sub_list_list
  have ne : ¬ (items.size != items2.size) = true := by simp [hs1, hs2]
  wp_walk using wpAny_loadPart' hl1, wpAny_loadPart' hb1
  exact ⟨plainId_quiet plain_eq_loop _, codeAny_builtin entry_eq_loop (by
    rw [Around.under_plainId plain_eq_loop _]
    exact again)⟩
end
section
variable {prog : Program} {w : World} {A : Around} {E : Value → Shared → Prop} {s : Shared}
theorem rc_listB {l b : Addr} {N : Nat} {Q : Value → Shared → Prop} (hu : A.units < cLine) (I : Nat → Shared → Prop) (J : Shared → Prop) (hl : ListJ prog w A E l b N I J) (fin : ∀ s, I N s → Q (.bool true) s) (fin2 : ∀ s, J s → Q (.bool false) s) (h : I 0 s) :
    wpAny (model prog w) A (richCompare .Eq (.ref l) (.ref b)) Q E s := by
  obtain ⟨items, items2, n, n2, h1, h2, _⟩ := hl 0 s h
  refine wpAny_richCompare_same_room (op := .Eq) ⟨_, h1, rfl⟩ ⟨_, h2, rfl⟩ F.slot_list_eq (call_here F.slot_list_eq ⟨_, h1, rfl⟩ F.entry_list_eq (F.args_list_eq_2 _ _) ?_) hu
  exact list_eqB (R := wants (fun v s' => v ≠ .notImplemented ∧ Q v s') E) l b N I J hl (fun s' q => ⟨(fun z => nomatch z), fin s' q⟩) (fun s' q => ⟨(fun z => nomatch z), fin2 s' q⟩) h
/-- lists of unlike lengths -/
theorem list_neB (l b : Addr) {items items2 : Array Value} {n n2 : Nat} {R : Result → Shared → Prop} (h1 : s.heap.get? l = some { cls := .type "list", data := .seq items n }) (h2 : s.heap.get? b = some { cls := .type "list", data := .seq items2 n2 }) (hne : items.size ≠ items2.size) (h : R (.ok (.ret (.bool false))) s) :
    wpAny (model prog w) A.in1 (Builtin.«list.__eq__» ⟨[.ref l, .ref b], []⟩) (FinOf prog w A R) (fun e s' => R (.error e) s') s := by
  obtain ⟨hp, g, d, tk, os⟩ := s
  have f3 := AutoSeq1.sub_list_list
  have ne : (items.size != items2.size) = true := by simp [hne]
  wp_walk using wpAny_loadPart' h1, wpAny_loadPart' h2
  exact h
theorem rc_listN {l b : Addr} {items items2 : Array Value} {n n2 : Nat} {Q : Value → Shared → Prop} (hu : A.units < cLine) (h1 : s.heap.get? l = some { cls := .type "list", data := .seq items n }) (h2 : s.heap.get? b = some { cls := .type "list", data := .seq items2 n2 }) (hne : items.size ≠ items2.size) (h : Q (.bool false) s) :
    wpAny (model prog w) A (richCompare .Eq (.ref l) (.ref b)) Q E s :=
  wpAny_richCompare_same_room (op := .Eq) ⟨_, h1, rfl⟩ ⟨_, h2, rfl⟩ F.slot_list_eq (call_here F.slot_list_eq ⟨_, h1, rfl⟩ F.entry_list_eq (F.args_list_eq_2 _ _) (list_neB (R := wants (fun v s' => v ≠ .notImplemented ∧ Q v s') E) l b h1 h2 hne ⟨(fun z => nomatch z), h⟩)) hu
theorem rc_tupB {l b : Addr} {items items2 : Array Value} {Q : Value → Shared → Prop} (hu : A.units < cLine) (I : Nat → Shared → Prop) (J : Shared → Prop) (hl : s.heap.IsTuple l items) (hb : s.heap.IsTuple b items2)
    (turn : ∀ i (h1 : i < items.size) (h2 : i < items2.size) s, I i s → wpAny (model prog w) A.in1 (eqBool items[i] items2[i]) (fun r s' => (r = true ∧ I (i + 1) s') ∨ (r = false ∧ J s')) E s)
    (fin : ∀ i s, (i = items.size ∨ i = items2.size) → I i s → Q (.bool (items.size == items2.size)) s) (fin2 : ∀ s, J s → Q (.bool false) s) (h : I 0 s) : wpAny (model prog w) A (richCompare .Eq (.ref l) (.ref b)) Q E s := by
  obtain ⟨⟨cls, dd, data, sl⟩, ho, hc, n, hd⟩ := id hl
  obtain ⟨⟨cls2, dd2, data2, sl2⟩, ho2, hc2, n2, hd2⟩ := id hb
  simp only at hc hd hc2 hd2
  subst hc hd hc2 hd2
  refine wpAny_richCompare_same_room (op := .Eq) ⟨_, ho, rfl⟩ ⟨_, ho2, rfl⟩ F.slot_tuple_eq (call_here F.slot_tuple_eq ⟨_, ho, rfl⟩ F.entry_tuple_eq (F.args_tuple_eq_2 _ _) ?_) hu
  exact tuple_eqB (R := wants (fun v s' => v ≠ .notImplemented ∧ Q v s') E) l b items items2 n n2 dd dd2 sl sl2 I J turn (fun i s' z q => ⟨(fun z => nomatch z), fin i s' z q⟩) (fun s' q => ⟨(fun z => nomatch z), fin2 s' q⟩) ho ho2 h
theorem rc_tupNeB {l b : Addr} {items items2 : Array Value} {Q : Value → Shared → Prop} (hu : A.units < cLine) (I : Nat → Shared → Prop) (J : Shared → Prop) (hl : s.heap.IsTuple l items) (hb : s.heap.IsTuple b items2)
    (turn : ∀ i (h1 : i < items.size) (h2 : i < items2.size) s, I i s → wpAny (model prog w) A.in1 (eqBool items[i] items2[i]) (fun r s' => (r = true ∧ I (i + 1) s') ∨ (r = false ∧ J s')) E s)
    (fin : ∀ i s, (i = items.size ∨ i = items2.size) → I i s → Q (.bool (items.size != items2.size)) s) (fin2 : ∀ s, J s → Q (.bool true) s) (h : I 0 s) : wpAny (model prog w) A (richCompare .NotEq (.ref l) (.ref b)) Q E s := by
  obtain ⟨⟨cls, dd, data, sl⟩, ho, hc, n, hd⟩ := id hl
  obtain ⟨⟨cls2, dd2, data2, sl2⟩, ho2, hc2, n2, hd2⟩ := id hb
  simp only at hc hd hc2 hd2
  subst hc hd hc2 hd2
  refine wpAny_richCompare_same_room (op := .NotEq) ⟨_, ho, rfl⟩ ⟨_, ho2, rfl⟩ F.slot_tuple_ne (call_here F.slot_tuple_ne ⟨_, ho, rfl⟩ F.entry_tuple_ne (F.args_tuple_ne_2 _ _) ?_) hu
  exact tuple_neB (R := wants (fun v s' => v ≠ .notImplemented ∧ Q v s') E) l b items items2 n n2 dd dd2 sl sl2 I J turn (fun i s' z q => ⟨(fun z => nomatch z), fin i s' z q⟩) (fun s' q => ⟨(fun z => nomatch z), fin2 s' q⟩) ho ho2 h
end
end LwQ
namespace Lw
open PySem PySem.Spec PyProof.Rows L2
/-! ### == of data, decided both ways: what is compared with what, and the answer -/
def pgD (h : Dt) (x : Str) (t l : List Dt) : Dt := .obj "Program" [h, .lst (.str x :: t), .tup l]
mutual
inductive Cq : Nat → Dt → Dt → Bool → Prop
  | fl {n : Nat} {d e : Dt} {r : Bool} : fl d = true → fl e = true → r = eqV (tv d) (tv e) → Cq n d e r
  | tup {n : Nat} {l m : List Dt} {r : Bool} : CqL n l m r → Cq (n + 1) (.tup l) (.tup m) r
  | lst {n : Nat} {l m : List Dt} {r : Bool} : l.length = m.length → CqL n l m r → Cq (n + 1) (.lst l) (.lst m) r
  | lstN {n : Nat} {l m : List Dt} : l.length ≠ m.length → Cq (n + 1) (.lst l) (.lst m) false
  | pg {n : Nat} {h h' : Dt} {x : Str} {t t' l m : List Dt} {r : Bool} : CqL n l m r → Cq (n + 1) (pgD h x t l) (pgD h' x t' m) r
  | pgN {n : Nat} {h h' : Dt} {x y : Str} {t t' l m : List Dt} : x ≠ y → Cq (n + 1) (pgD h x t l) (pgD h' y t' m) false
inductive CqL : Nat → List Dt → List Dt → Bool → Prop
  | nil {n : Nat} : CqL n [] [] true
  | nilL {n : Nat} {e : Dt} {m : List Dt} : CqL n [] (e :: m) false
  | nilR {n : Nat} {d : Dt} {l : List Dt} : CqL n (d :: l) [] false
  | on {n : Nat} {d e : Dt} {l m : List Dt} {r : Bool} : Cq n d e true → CqL n l m r → CqL n (d :: l) (e :: m) r
  | off {n : Nat} {d e : Dt} {l m : List Dt} : Cq n d e false → CqL n (d :: l) (e :: m) false
end
theorem CqL.len {n : Nat} : ∀ {l m : List Dt} {r : Bool}, CqL n l m r → r = true → l.length = m.length
  | _, _, _, .nil, _ => rfl
  | _, _, _, .on _ b, e => by rw [List.length_cons, List.length_cons, CqL.len b e]
theorem CqL.fin {n : Nat} : ∀ {l m : List Dt} {r : Bool}, CqL n l m r → (l = [] ∨ m = []) → r = (l.length == m.length)
  | _, _, _, .nil, _ => rfl
  | _, _, _, .nilL, _ => by simp
  | _, _, _, .nilR, _ => by simp
  | _, _, _, .on _ _, e => by rcases e with e | e <;> cases e
  | _, _, _, .off _, e => by rcases e with e | e <;> cases e
/-- .. and only makes objects -/
def EqB (X : Cx) (U : Ev) (k n : Nat) : Prop :=
  ∀ (A : Around) (pins : List (Addr × Obj)) (s : Shared) (σ : L2.St) (H : Hp) (x y : V) (u v : Value) (d e : Dt) (r : Bool), Sub X k A → L2.Inv X pins σ H s → L2.RelV x u → L2.RelV y v → Rp U H x d → Rp U H y e → Cq n d e r →
    wpAny (model X.prog X.w) A (eqBool u v) (fun r' s' => r' = r ∧ ∃ H', L2.Inv X pins σ H' s' ∧ Ext H H') X.xe s
/-- the same of compound things, by their rich comparison -/
def RcB (X : Cx) (U : Ev) (k : Nat) (C : Dt → Dt → Bool → Prop) : Prop :=
  ∀ (A : Around) (pins : List (Addr × Obj)) (s : Shared) (σ : L2.St) (H : Hp) (a b : Addr) (d e : Dt) (r : Bool), Sub X k A → L2.Inv X pins σ H s → Rp U H (.ref a) d → Rp U H (.ref b) e → C d e r →
    wpAny (model X.prog X.w) A (richCompare .Eq (.ref a) (.ref b)) (fun r' s' => r' = .bool r ∧ ∃ H', L2.Inv X pins σ H' s' ∧ Ext H H') X.xe s
section
variable {X : Cx} {U : Ev} {k n : Nat}
theorem ext_k {H H' : Hp} (e : Ext H H') : KPm U H H' := fun a o h _ => e a o h
/-- one pair of two rows -/
theorem turnB (h : EqB X U k n) {A : Around} (sb : Sub X (k + 1) A) {pins : List (Addr × Obj)} {σ : L2.St} {H : Hp} {xs ys : List V} {l m : List Dt} {r : Bool} {its its2 : List Value} (rl : Rps U H xs l) (rm : Rps U H ys m) (rv : Vals xs its) (rv2 : Vals ys its2)
    (i : Nat) (h1 : i < its.toArray.size) (h2 : i < its2.toArray.size) (s' : Shared) (q : LoopI X pins σ H s' ∧ CqL n (l.drop i) (m.drop i) r) :
    wpAny (model X.prog X.w) A.in1 (eqBool its.toArray[i] its2.toArray[i]) (fun r' s2 => (r' = true ∧ LoopI X pins σ H s2 ∧ CqL n (l.drop (i + 1)) (m.drop (i + 1)) r) ∨ (r' = false ∧ r = false ∧ LoopI X pins σ H s2)) X.xe s' := by
  obtain ⟨⟨H1, I1, e1⟩, c⟩ := q
  have k1 : i < xs.length := by rw [rv.length]; simpa using h1
  have k2 : i < ys.length := by rw [rv2.length]; simpa using h2
  have j1 : i < l.length := by rw [← rl.len]; exact k1
  have j2 : i < m.length := by rw [← rm.len]; exact k2
  have g1 : its[i]? = some its.toArray[i] := by
    have h1' : i < its.length := by simpa using h1
    rw [List.getElem?_eq_getElem h1'] <;> simp
  have g2 : its2[i]? = some its2.toArray[i] := by
    have h2' : i < its2.length := by simpa using h2
    rw [List.getElem?_eq_getElem h2'] <;> simp
  obtain ⟨u, hu, ru⟩ := rv.get (List.getElem?_eq_getElem k1)
  obtain ⟨v, hv, rv'⟩ := rv2.get (List.getElem?_eq_getElem k2)
  rw [g1] at hu
  rw [g2] at hv
  obtain ⟨x, hx, rx⟩ := rl.get (List.getElem?_eq_getElem j1)
  obtain ⟨y, hy, ry⟩ := rm.get (List.getElem?_eq_getElem j2)
  have ex := (List.getElem?_eq_getElem k1).symm.trans hx
  have ey := (List.getElem?_eq_getElem k2).symm.trans hy
  rw [Option.some.inj ex] at ru
  rw [Option.some.inj ey] at rv'
  rw [Option.some.inj hu, Option.some.inj hv]
  rw [List.drop_eq_getElem_cons j1, List.drop_eq_getElem_cons j2] at c
  cases c with
  | on c1 c2 =>
    refine wpAny_mono (h A.in1 pins s' σ H1 _ _ u v _ _ _ sb.in1 I1 ru rv' (rx.k (ext_k e1)) (ry.k (ext_k e1)) c1) (fun r' s2 q => ?_) fun _ _ z => z
    obtain ⟨er, H2, I2, e2⟩ := q
    exact .inl ⟨er, ⟨H2, I2, e1.trans e2⟩, c2⟩
  | off c1 =>
    refine wpAny_mono (h A.in1 pins s' σ H1 _ _ u v _ _ _ sb.in1 I1 ru rv' (rx.k (ext_k e1)) (ry.k (ext_k e1)) c1) (fun r' s2 q => ?_) fun _ _ z => z
    obtain ⟨er, H2, I2, e2⟩ := q
    exact .inr ⟨er, rfl, H2, I2, e1.trans e2⟩
theorem rcB_tup (h : EqB X U k n) (hK : X.K = U.K) : RcB X U (k + 1) (fun d e r => ∃ l m, d = .tup l ∧ e = .tup m ∧ CqL n l m r) := by
  rintro A pins s σ H a b d e r sb I ra rb ⟨l, m, rfl, rfl, c⟩
  cases ra with | tup a1 a2 a3 =>
  cases rb with | tup b1 b2 b3 =>
  rw [← hK] at a1 b1
  obtain ⟨its, r1, e1, z1⟩ := I.tuple a1
  obtain ⟨its2, r2, e2, z2⟩ := I.tuple b1
  have s1 : its.toArray.size = l.length := by rw [List.size_toArray, ← r1.length, a3.len]
  have s2 : its2.toArray.size = m.length := by rw [List.size_toArray, ← r2.length, b3.len]
  refine LwQ.rc_tupB sb.room.units0 (fun i s' => (i ≤ l.length ∧ i ≤ m.length) ∧ LoopI X pins σ H s' ∧ CqL n (l.drop i) (m.drop i) r) (fun s' => r = false ∧ LoopI X pins σ H s') e1 e2 (fun i h1 h2 s' q => ?_) (fun i s' hi q => ?_) (fun s' q => ⟨by rw [q.1], q.2⟩) ⟨⟨Nat.zero_le _, Nat.zero_le _⟩, ⟨H, I, Ext.rfl'⟩, c⟩
  · refine wpAny_mono (turnB h sb a3 b3 r1 r2 i h1 h2 s' q.2) (fun r' s2 z => ?_) fun _ _ z => z
    rcases z with ⟨z1, z2⟩ | z
    · exact .inl ⟨z1, by omega, z2⟩
    · exact .inr z
  · obtain ⟨⟨i1, i2⟩, q1, q2⟩ := q
    refine ⟨?_, q1⟩
    rw [s1, s2] at hi ⊢
    have f := q2.fin (by
      rcases hi with hi | hi
      · exact .inl (by rw [hi, List.drop_length])
      · exact .inr (by rw [hi, List.drop_length]))
    rw [f, List.length_drop, List.length_drop]
    congr 1
    rw [Bool.eq_iff_iff, beq_iff_eq, beq_iff_eq]
    omega
theorem rcB_lst (h : EqB X U k n) (hK : X.K = U.K) : RcB X U (k + 1) (fun d e r => ∃ l m, d = .lst l ∧ e = .lst m ∧ ((l.length = m.length ∧ CqL n l m r) ∨ (l.length ≠ m.length ∧ r = false))) := by
  rintro A pins s σ H a b d e r sb I ra rb ⟨l, m, rfl, rfl, c⟩
  cases ra with | lst a1 a2 a3 =>
  cases rb with | lst b1 b2 b3 =>
  have at1 : ∀ {s' : Shared} {H' : Hp}, L2.Inv X pins σ H' s' → Ext H H' → ∃ (its its2 : List Value) (n n2 : Nat), Vals _ its ∧ Vals _ its2 ∧ s'.heap.get? a = some { cls := .type "list", data := .seq its.toArray n } ∧ s'.heap.get? b = some { cls := .type "list", data := .seq its2.toArray n2 } := fun I' e' => by
    obtain ⟨_, its, k1, r1, g1⟩ := Rd.ok (.inr ⟨_, e' _ _ a1⟩) I'.hok
    obtain ⟨_, its2, k2, r2, g2⟩ := Rd.ok (.inr ⟨_, e' _ _ b1⟩) I'.hok
    exact ⟨its, its2, k1, k2, r1, r2, g1, g2⟩
  rcases c with ⟨hl, c⟩ | ⟨hl, rfl⟩
  · refine LwQ.rc_listB (N := l.length) sb.room.units0 (fun i s' => (i ≤ l.length ∧ i ≤ m.length) ∧ LoopI X pins σ H s' ∧ CqL n (l.drop i) (m.drop i) r) (fun s' => r = false ∧ LoopI X pins σ H s') (fun i s' q => ?_) (fun s' q => ?_) (fun s' q => ⟨by rw [q.1], q.2⟩) ⟨⟨Nat.zero_le _, Nat.zero_le _⟩, ⟨H, I, Ext.rfl'⟩, c⟩
    · obtain ⟨q0, ⟨H1, I1, x1⟩, q2⟩ := q
      obtain ⟨its, its2, k1, k2, r1, r2, g1, g2⟩ := at1 I1 x1
      refine ⟨its.toArray, its2.toArray, k1, k2, g1, g2, by rw [List.size_toArray, ← r1.length, a3.len], by rw [List.size_toArray, ← r2.length, b3.len, hl], fun h1 h2 => ?_⟩
      have s1 : its.toArray.size = l.length := by rw [List.size_toArray, ← r1.length, a3.len]
      have s2 : its2.toArray.size = m.length := by rw [List.size_toArray, ← r2.length, b3.len]
      refine wpAny_mono (turnB h sb a3 b3 r1 r2 i h1 h2 s' ⟨⟨H1, I1, x1⟩, q2⟩) (fun r' s3 z => ?_) fun _ _ z => z
      rcases z with ⟨z1, z2⟩ | ⟨z1, z2, H3, I3, x3⟩
      · exact .inl ⟨z1, by omega, z2⟩
      · obtain ⟨jt, jt2, j1, j2, t1, t2, y1, y2⟩ := at1 I3 x3
        exact .inr ⟨z1, ⟨z2, H3, I3, x3⟩, jt.toArray, jt2.toArray, j1, j2, y1, y2, by rw [List.size_toArray, ← t1.length, a3.len], by rw [List.size_toArray, ← t2.length, b3.len, hl]⟩
    · obtain ⟨_, q1, q2⟩ := q
      have f := q2.fin (.inl (by rw [List.drop_length]))
      rw [List.length_drop, List.length_drop, hl, beq_self_eq_true] at f
      exact ⟨by rw [f], q1⟩
  · obtain ⟨its, its2, k1, k2, r1, r2, g1, g2⟩ := at1 I Ext.rfl'
    refine LwQ.rc_listN sb.room.units0 g1 g2 ?_ ⟨rfl, H, I, Ext.rfl'⟩
    rw [List.size_toArray, List.size_toArray, ← r1.length, ← r2.length, a3.len, b3.len]
    exact hl
end
end Lw
namespace Lw
open PySem PySem.Spec PyProof.Rows L2
section
variable {X : Cx} {U : Ev} {k n : Nat} {pins : List (Addr × Obj)} {σ : L2.St} {H : Hp} {s : Shared}
theorem eqV_self {v : V} {d : Dt} (r : Rp U H v d) (h : fl d = true) : eqV v v = true := by
  cases r <;> first | (simp [eqV]; done) | cases h
mutual
/-- a thing beside itself -/
theorem same_cq (I : L2.Inv X pins σ H s) (hK : X.K = U.K) : ∀ {n : Nat} {d e : Dt} {r : Bool}, Cq n d e r → ∀ {v : V}, Rp U H v d → Rp U H v e → r = true
  | _, _, _, _, .fl h1 h2 h3, v, r1, r2 => by
    have e1 := (fl_ok r1 h1).1
    have e2 := (fl_ok r2 h2).1
    rw [h3, ← e1, ← e2]
    exact eqV_self r1 h1
  | _, _, _, _, .tup c, v, r1, r2 => by
    cases r1 with | tup a1 a2 a3 =>
    cases r2 with | tup b1 b2 b3 =>
    rw [← hK] at a1 b1
    have e := I.tuple_inj a1 b1
    subst e
    exact same_cql I hK c a3 b3
  | _, _, _, _, .lst hl c, v, r1, r2 => by
    cases r1 with | lst a1 a2 a3 =>
    cases r2 with | lst b1 b2 b3 =>
    rw [a1] at b1
    cases b1
    exact same_cql I hK c a3 b3
  | _, _, _, _, .lstN hl, v, r1, r2 => by
    cases r1 with | lst a1 a2 a3 =>
    cases r2 with | lst b1 b2 b3 =>
    rw [a1] at b1
    cases b1
    exact absurd (a3.len.symm.trans b3.len) hl
  | _, _, _, _, .pg c, v, r1, r2 => by
    cases r1 with | obj a1 b1 c1 d1 =>
    cases r2 with | obj a2 b2 c2 d2 =>
    rw [a1] at a2
    cases a2
    obtain ⟨v1, v2, v3, e, h1, h2, h3⟩ := three_rps d1
    rw [e] at d2
    cases d2 with | cons g1 d2 =>
    cases d2 with | cons g2 d2 =>
    cases d2 with | cons g3 d2 =>
    cases h3 with | tup x1 x2 x3 =>
    cases g3 with | tup y1 y2 y3 =>
    rw [← hK] at x1 y1
    have e := I.tuple_inj x1 y1
    subst e
    exact same_cql I hK c x3 y3
  | _, _, _, _, .pgN hne, v, r1, r2 => by
    cases r1 with | obj a1 b1 c1 d1 =>
    cases r2 with | obj a2 b2 c2 d2 =>
    rw [a1] at a2
    cases a2
    obtain ⟨v1, v2, v3, e, h1, h2, h3⟩ := three_rps d1
    rw [e] at d2
    cases d2 with | cons g1 d2 =>
    cases d2 with | cons g2 d2 =>
    cases h2 with | lst x1 x2 x3 =>
    cases g2 with | lst y1 y2 y3 =>
    rw [x1] at y1
    cases y1
    cases x3 with | cons p1 p2 =>
    cases y3 with | cons q1 q2 =>
    have e1 := rp_str p1
    have e2 := rp_str q1
    rw [e1] at e2
    cases e2
    exact absurd rfl hne
theorem same_cql (I : L2.Inv X pins σ H s) (hK : X.K = U.K) : ∀ {n : Nat} {l m : List Dt} {r : Bool}, CqL n l m r → ∀ {vs : List V}, Rps U H vs l → Rps U H vs m → r = true
  | _, _, _, _, .nil, _, _, _ => rfl
  | _, _, _, _, .nilL, _, r1, r2 => by cases r1; cases r2
  | _, _, _, _, .nilR, _, r1, r2 => by cases r1; cases r2
  | _, _, _, _, .on c1 c2, _, r1, r2 => by
    cases r1 with | cons a b =>
    cases r2 with | cons a' b' => exact same_cql I hK c2 b b'
  | _, _, _, _, .off c1, _, r1, r2 => by
    cases r1 with | cons a b =>
    cases r2 with | cons a' b' =>
    have := same_cq I hK c1 a a'
    cases this
end
theorem eqB_flat : EqB X U 0 0 := by
  intro A pins s σ H x y u v d e r sb I rx ry rd re c
  cases c with
  | fl h1 h2 h3 =>
    obtain ⟨e1, f1⟩ := fl_ok rd h1
    obtain ⟨e2, f2⟩ := fl_ok re h2
    have q := eqAt_V (A := A) (s := s) rx ry f1 f2
    rw [e1, e2, ← h3] at q
    exact q X.prog X.w X.xe _ ⟨rfl, H, I, Ext.rfl'⟩
/-- two programs, so deep -/
def CqP (n : Nat) (d e : Dt) (r : Bool) : Prop := ∃ h h' x y t t' l m, d = pgD h x t l ∧ e = pgD h' y t' m ∧ ((x = y ∧ CqL n l m r) ∨ (x ≠ y ∧ r = false))
theorem eqB_step (h : EqB X U k n) (hp : RcB X U (k + 1) (CqP n)) (hK : X.K = U.K) : EqB X U (k + 1) (n + 1) := by
  intro A pins s σ H x y u v d e r sb I rx ry rd re c
  have refs : ∀ (a b : Addr), x = .ref a → y = .ref b → (∀ A' s', Sub X (k + 1) A → (a ≠ b → wpAny (model X.prog X.w) A (richCompare .Eq (.ref a) (.ref b)) (fun r' s' => r' = .bool r ∧ ∃ H', L2.Inv X pins σ H' s' ∧ Ext H H') X.xe s) → A' = A → s' = s → wpAny (model X.prog X.w) A (eqBool u v) (fun r' s' => r' = r ∧ ∃ H', L2.Inv X pins σ H' s' ∧ Ext H H') X.xe s) := by
    rintro a b rfl rfl A' s' _ hrc _ _
    cases rx
    cases ry
    by_cases hab : a = b
    · subst hab
      have er := same_cq I hK c rd re
      subst er
      exact SeqAt.EqAt.same (A := A) (s := s) (.ref a) X.prog X.w X.xe _ ⟨rfl, H, I, Ext.rfl'⟩
    · refine GQ.eqBool_refG hab (wpAny_mono (hrc hab) (fun r' s' q => ?_) fun _ _ z => z)
      exact ⟨r, q.1, rfl, q.2⟩
  cases c with
  | fl h1 h2 h3 =>
    obtain ⟨e1, f1⟩ := fl_ok rd h1
    obtain ⟨e2, f2⟩ := fl_ok re h2
    have q := eqAt_V (A := A) (s := s) rx ry f1 f2
    rw [e1, e2, ← h3] at q
    exact q X.prog X.w X.xe _ ⟨rfl, H, I, Ext.rfl'⟩
  | tup c =>
    cases id rd with | tup a1 a2 a3 =>
    cases id re with | tup b1 b2 b3 =>
    exact refs _ _ rfl rfl A s sb (fun _ => rcB_tup h hK A pins s σ H _ _ _ _ r sb I rd re ⟨_, _, rfl, rfl, c⟩) rfl rfl
  | lst hl c =>
    cases id rd with | lst a1 a2 a3 =>
    cases id re with | lst b1 b2 b3 =>
    exact refs _ _ rfl rfl A s sb (fun _ => rcB_lst h hK A pins s σ H _ _ _ _ r sb I rd re ⟨_, _, rfl, rfl, .inl ⟨hl, c⟩⟩) rfl rfl
  | lstN hl =>
    cases id rd with | lst a1 a2 a3 =>
    cases id re with | lst b1 b2 b3 =>
    exact refs _ _ rfl rfl A s sb (fun _ => rcB_lst h hK A pins s σ H _ _ _ _ false sb I rd re ⟨_, _, rfl, rfl, .inr ⟨hl, rfl⟩⟩) rfl rfl
  | pg c =>
    cases id rd with | obj a1 b1 c1 d1 =>
    cases id re with | obj a2 b2 c2 d2 =>
    exact refs _ _ rfl rfl A s sb (fun _ => hp A pins s σ H _ _ _ _ r sb I rd re ⟨_, _, _, _, _, _, _, _, rfl, rfl, .inl ⟨rfl, c⟩⟩) rfl rfl
  | pgN hne =>
    cases id rd with | obj a1 b1 c1 d1 =>
    cases id re with | obj a2 b2 c2 d2 =>
    exact refs _ _ rfl rfl A s sb (fun _ => hp A pins s σ H _ _ _ _ false sb I rd re ⟨_, _, _, _, _, _, _, _, rfl, rfl, .inr ⟨hne, rfl⟩⟩) rfl rfl
/-- what the own == of programs promises -/
def S_eqP (n : Nat) : DSpec := fun ds M R _ => ∃ d e r, ds = [d, e] ∧ CqP n d e r ∧ R (.bl r) M
theorem rcB_pg {CX : CXT} {C f : Addr} {fd : FuncData} {ps : List Str} {E : XK} (hK : X.K = U.K) (hC : He.ga U.K "Program" = C) (F : FnOk X.prog X.w X.K X.mg X.base CX k f fd ps (spD U (S_eqP n)))
    (hs : PySem.W.findIn X.K (.ref C) "__eq__" = some (some (.ref f))) (hf : PySem.W.isFn X.K (.ref f) = true) (hb : Binds X.K fd ps []) (hx : Passes CX X E) : RcB X U k (CqP n) := by
  rintro A pins s σ H a b d e r sb I ra rb c
  have c0 := c
  obtain ⟨h, h', x, y, t, t', l, m, rfl, rfl, c⟩ := c
  cases id ra with | obj a1 b1 c1 d1 =>
  cases id rb with | obj a2 b2 c2 d2 =>
  rw [hC] at b1 b2
  subst b1
  subst b2
  obtain ⟨mA, J, _⟩ := ins_get I.hok a1
  obtain ⟨mB, J2, _⟩ := ins_get I.hok a2
  obtain ⟨od, J, _⟩ := J.look
  obtain ⟨od2, J2, _⟩ := J2.look
  obtain ⟨q, hF⟩ := I.fr
  refine PySem.W.cmp_K (op := .Eq) (tb := .ref _) sb.room.units0 hF I.ok.mod.kin J J2.type (by simp [PySem.W.notFirst]) hs hf ?_
  have hsp : spD U (S_eqP n) [.ref a, .ref b] H (fun v H' => v = .bl r ∧ Ext H H') E :=
    ⟨_, fun _ => none, fun v _ => v = .bl r, nox, .cons ra (.cons rb .nil), (fun _ _ z => by cases z), ⟨_, _, r, rfl, c0, rfl⟩, (fun v d' M' H' g _ r' e' => by
      subst e'
      cases r'
      exact ⟨rfl, fun z o hz => g.keep z o hz rfl⟩), fun _ _ _ _ _ _ _ _ _ _ _ z => z.elim⟩
  have e0 : Env0 X.prog X.w X.K X.mg X.base A X.stack s H := by
    have e := I.env0
    exact ⟨by rw [sb.fr]; exact e.frames, e.mod, e.bs, e.bsz, e.funs, e.frf, e.hok, e.bare⟩
  have hl := F.len _ _ _ _ hsp
  refine wpAny_call (codeAny_mono (F.run A X.stack s H ⟨[.ref a, .ref b], []⟩ [.ref a, .ref b] [.ref a, .ref b] _ E sb.room e0 (by
    have z := hb s [.ref a, .ref b] I.kIn (by simpa using hl)
    simpa using z) (.cons rfl (.cons rfl .nil)) hsp) fun rr s' hq => ?_)
  cases rr with
  | error e => exact hx pins σ H s e s' I hq
  | ok fl =>
    cases fl with
    | ret w =>
      obtain ⟨z, H', I', rz, ez, ex⟩ := I.after hq
      subst ez
      cases rz
      exact ⟨rfl, H', I', ex⟩
    | next => exact hq.elim
    | brk => exact hq.elim
    | cont => exact hq.elim
/-- x == y, x != y of data -/
def gEqC (n : Nat) (f : Bool → Bool) : W2 := fun x y M R => ∃ r, Cq n x y r ∧ R (.bl (f r)) M
theorem op_eqRc {C : Dt → Dt → Bool → Prop} (h : RcB X U k C) (hr : Room k X.A) (hK : X.K = U.K) (hC : ∀ {H : Hp} {v : V} {d e : Dt} {r : Bool}, Rp U H v d → C d e r → ∃ a, v = .ref a) (hC2 : ∀ {H : Hp} {v : V} {d e : Dt} {r : Bool}, Rp U H v e → C d e r → ∃ a, v = .ref a) :
    OpR X (compareOp .Eq) (oW U (fun x y M R => ∃ r, C x y r ∧ R (.bl r) M)) := by
  intro pins s σ H x y v u Q I rx ry ⟨a, b, M, R, km, ra, rb, ⟨r, c, w⟩, l⟩
  obtain ⟨p, rfl⟩ := hC ra c
  obtain ⟨q, rfl⟩ := hC2 rb c
  cases rx
  cases ry
  show wpAny (model X.prog X.w) X.A (richCompare .Eq (.ref p) (.ref q)) (EP X pins σ Q) X.xe s
  refine wpAny_mono (h X.A pins s σ H p q a b r ⟨hr, rfl⟩ I ra rb c) (fun r' s' z => ?_) fun _ _ z => z
  obtain ⟨e', H', I', ex⟩ := z
  subst e'
  refine ⟨.bl r, H', I', rfl, l _ _ M H' (.same ex) ?_ .bl w⟩
  exact km.step (fun b o h _ => ex b o h) fun b m' e' => by
    obtain ⟨o, h1, _⟩ := (km b m' e').npm
    rw [ex _ _ h1, h1]
/-- two tuples, != -/
theorem op_neT (h : EqB X U k n) (hr : Room (k + 1) X.A) (hK : X.K = U.K) : OpR X (compareOp .NotEq) (oW U (fun x y M R => ∃ l m r, x = .tup l ∧ y = .tup m ∧ CqL n l m r ∧ R (.bl (!r)) M)) := by
  intro pins s σ H x y v u Q I rx ry ⟨da, db, M, R, km, ra, rb, ⟨l, m, r, e1, e2, c, w⟩, lv⟩
  subst e1 e2
  cases ra with | @tup a _ _ a1 a2 a3 =>
  cases rb with | @tup b _ _ b1 b2 b3 =>
  cases rx
  cases ry
  rw [← hK] at a1 b1
  obtain ⟨its, r1, e1, z1⟩ := I.tuple a1
  obtain ⟨its2, r2, e2, z2⟩ := I.tuple b1
  have s1 : its.toArray.size = l.length := by rw [List.size_toArray, ← r1.length, a3.len]
  have s2 : its2.toArray.size = m.length := by rw [List.size_toArray, ← r2.length, b3.len]
  have sb : Sub X (k + 1) X.A := ⟨hr, rfl⟩
  show wpAny (model X.prog X.w) X.A (richCompare .NotEq (.ref a) (.ref b)) (EP X pins σ Q) X.xe s
  have fin : ∀ s', LoopI X pins σ H s' → EP X pins σ Q (.bool (!r)) s' := fun s' ⟨H', I', ex⟩ => by
    refine ⟨.bl (!r), H', I', rfl, lv _ _ M H' (.same ex) ?_ .bl w⟩
    exact km.step (fun b o h _ => ex b o h) fun b m' e' => by
      obtain ⟨o, h1, _⟩ := (km b m' e').npm
      rw [ex _ _ h1, h1]
  refine LwQ.rc_tupNeB sb.room.units0 (fun i s' => (i ≤ l.length ∧ i ≤ m.length) ∧ LoopI X pins σ H s' ∧ CqL n (l.drop i) (m.drop i) r) (fun s' => r = false ∧ LoopI X pins σ H s') e1 e2 (fun i h1 h2 s' q => ?_) (fun i s' hi q => ?_) (fun s' q => ?_) ⟨⟨Nat.zero_le _, Nat.zero_le _⟩, ⟨H, I, Ext.rfl'⟩, c⟩
  · refine wpAny_mono (turnB h sb a3 b3 r1 r2 i h1 h2 s' q.2) (fun r' s2 z => ?_) fun _ _ z => z
    rcases z with ⟨z1, z2⟩ | z
    · exact .inl ⟨z1, by omega, z2⟩
    · exact .inr z
  · obtain ⟨⟨i1, i2⟩, q1, q2⟩ := q
    rw [s1, s2] at hi ⊢
    have f := q2.fin (by
      rcases hi with hi | hi
      · exact .inl (by rw [hi, List.drop_length])
      · exact .inr (by rw [hi, List.drop_length]))
    rw [List.length_drop, List.length_drop] at f
    have e : (l.length != m.length) = !r := by
      rw [f]
      show (!(l.length == m.length)) = _
      congr 1
      rw [Bool.eq_iff_iff, beq_iff_eq, beq_iff_eq]
      omega
    rw [e]
    exact fin s' q1
  · obtain ⟨rfl, q1⟩ := q
    exact fin s' q1
/-- two programs, != -/
theorem op_neP {CX : CXT} {C f : Addr} {fd : FuncData} {ps : List Str} {E : XK} (hK : X.K = U.K) (hC : He.ga U.K "Program" = C) (F : FnOk X.prog X.w X.K X.mg X.base CX k f fd ps (spD U (S_eqP n))) (hr : Room (k + 1) X.A)
    (hs : PySem.W.findIn X.K (.ref C) "__eq__" = some (some (.ref f))) (hf : PySem.W.isFn X.K (.ref f) = true) (hne : PySem.W.findIn X.K (.ref C) "__ne__" = some (some (.builtin "object.__ne__"))) (hm : PySem.W.subIn X.K (.ref C) (.type "object") = some true) (hb : Binds X.K fd ps []) (hx : Passes CX X E) :
    OpR X (compareOp .NotEq) (oW U (fun x y M R => ∃ r, CqP n x y r ∧ R (.bl (!r)) M)) :=
  OpR.mono (op_neI F hr hs hf hne hm hb hx) fun x y H Q ⟨d, e, M, R, km, ra, rb, ⟨r, c, w⟩, lv⟩ => by
    have c0 := c
    obtain ⟨h, h', x0, y0, t, t', l, m, rfl, rfl, c⟩ := c
    cases id ra with | obj a1 b1 c1 d1 =>
    cases id rb with | obj a2 b2 c2 d2 =>
    rw [hC] at b1 b2
    subst b1
    subst b2
    refine ⟨_, _, _, _, _, _, rfl, rfl, a1, a2, ?_⟩
    refine ⟨_, M, fun v M' => v = .bl r ∧ M' = M, nox, .cons ra (.cons rb .nil), km, ⟨_, _, r, rfl, c0, rfl, rfl⟩, (fun v d' M' H' g k' r' e' => ?_), fun _ _ _ _ _ _ _ _ _ _ _ z => z.elim⟩
    obtain ⟨rfl, rfl⟩ := e'
    cases r'
    exact ⟨r, rfl, lv _ _ _ H' g k' .bl w⟩
end
end Lw
namespace Lw
open PySem PySem.Spec PyProof.Rows L2
/-! ### programs beside programs -/
theorem cq_str (n : Nat) (x y : Str) : ∃ r, Cq n (.str x) (.str y) r ∧ (r = true ↔ x = y) := ⟨_, .fl rfl rfl rfl, by
  show eqV (V.str x) (V.str y) = true ↔ x = y
  simp [eqV]⟩
theorem cq_int (n : Nat) (x y : Int) : ∃ r, Cq n (.int x) (.int y) r ∧ (r = true ↔ x = y) := ⟨_, .fl rfl rfl rfl, by
  show eqV (V.int x) (V.int y) = true ↔ x = y
  simp [eqV]⟩
theorem cq_str_int (n : Nat) (x : Str) (y : Int) : Cq n (.str x) (.int y) false := .fl rfl rfl (by simp [eqV, tv])
theorem cq_int_str (n : Nat) (x : Int) (y : Str) : Cq n (.int x) (.str y) false := .fl rfl rfl (by simp [eqV, tv])
/-- two pairs -/
theorem cql2 {n : Nat} {d e d' e' : Dt} {P Q : Prop} (h1 : ∃ r, Cq n d d' r ∧ (r = true ↔ P)) (h2 : P → ∃ r, Cq n e e' r ∧ (r = true ↔ Q)) : ∃ r, CqL n [d, e] [d', e'] r ∧ (r = true ↔ (P ∧ Q)) := by
  obtain ⟨r1, c1, i1⟩ := h1
  cases r1 with
  | false => exact ⟨false, .off c1, by simp only [Bool.false_eq_true, false_iff] at i1 ⊢; exact fun z => i1 z.1⟩
  | true =>
    have p := i1.mp rfl
    obtain ⟨r2, c2, i2⟩ := h2 p
    cases r2 with
    | false => exact ⟨false, .on c1 (.off c2), by simp only [Bool.false_eq_true, false_iff] at i2 ⊢; exact fun z => i2 z.2⟩
    | true => exact ⟨true, .on c1 (.on c2 .nil), by simp only [true_iff]; exact ⟨p, i2.mp rfl⟩⟩
theorem cql_unlike {n : Nat} {w v : Str} {l m : List Dt} (h : w ≠ v) : CqL n (.str w :: l) (.str v :: m) false := by
  obtain ⟨r, c, i⟩ := cq_str n w v
  cases r with
  | false => exact .off c
  | true => exact absurd (i.mp rfl) h
theorem words_apart : ∀ w ∈ named ++ counted, w ≠ "flat" ∧ w ≠ "zip" := by decide +kernel
theorem named_counted {w v : Str} (h : w ∈ named) (g : v ∈ counted) : w ≠ v := by
  rintro rfl
  have key : ∀ w ∈ named, w ∉ counted := by decide +kernel
  exact key w h g
theorem flat_zip : ("flat" : Str) ≠ "zip" := by decide +kernel
mutual
theorem cq_stage : ∀ (s s' : Sx) {d d' : Int} {n : Nat}, okS d s → okS d' s' → 2 * rkS s + 1 ≤ n → ∃ r, Cq n (dgS s) (dgS s') r ∧ (r = true ↔ s = s')
  | .nm w x, .nm w' x', _, _, n + 1, _, _, _ => by
    rw [dgS, dgS]
    obtain ⟨r, c, i⟩ := cql2 (cq_str n w w') fun _ => cq_str n x x'
    exact ⟨r, .tup c, i.trans (by simp)⟩
  | .nu w x, .nu w' x', _, _, n + 1, _, _, _ => by
    rw [dgS, dgS]
    obtain ⟨r, c, i⟩ := cql2 (cq_str n w w') fun _ => cq_int n x x'
    exact ⟨r, .tup c, i.trans (by simp)⟩
  | .flat, .flat, _, _, n + 1, _, _, _ => by
    rw [dgS]
    obtain ⟨r, c, i⟩ := cq_str n "flat" "flat"
    have : r = true := i.mpr rfl
    subst this
    exact ⟨true, .tup (.on c .nil), by simp⟩
  | .nm w x, .nu v y, _, _, n + 1, h, g, _ => by
    rw [okS] at h
    rw [okS] at g
    rw [dgS, dgS]
    exact ⟨false, .tup (cql_unlike (named_counted h.1 g.1)), by simp⟩
  | .nu v y, .nm w x, _, _, n + 1, h, g, _ => by
    rw [okS] at h
    rw [okS] at g
    rw [dgS, dgS]
    exact ⟨false, .tup (cql_unlike (Ne.symm (named_counted g.1 h.1))), by simp⟩
  | .nm w x, .flat, _, _, n + 1, h, _, _ => by
    rw [okS] at h
    rw [dgS, dgS]
    exact ⟨false, .tup (cql_unlike (words_apart w (List.mem_append_left _ h.1)).1), by simp⟩
  | .nu w x, .flat, _, _, n + 1, h, _, _ => by
    rw [okS] at h
    rw [dgS, dgS]
    exact ⟨false, .tup (cql_unlike (words_apart w (List.mem_append_right _ h.1)).1), by simp⟩
  | .flat, .nm w x, _, _, n + 1, _, h, _ => by
    rw [okS] at h
    rw [dgS, dgS]
    exact ⟨false, .tup (cql_unlike (Ne.symm (words_apart w (List.mem_append_left _ h.1)).1)), by simp⟩
  | .flat, .nu w x, _, _, n + 1, _, h, _ => by
    rw [okS] at h
    rw [dgS, dgS]
    exact ⟨false, .tup (cql_unlike (Ne.symm (words_apart w (List.mem_append_right _ h.1)).1)), by simp⟩
  | .nm w x, .zip y r, _, _, n + 1, h, _, _ => by
    rw [okS] at h
    rw [dgS, dgS]
    exact ⟨false, .tup (cql_unlike (words_apart w (List.mem_append_left _ h.1)).2), by simp⟩
  | .nu w x, .zip y r, _, _, n + 1, h, _, _ => by
    rw [okS] at h
    rw [dgS, dgS]
    exact ⟨false, .tup (cql_unlike (words_apart w (List.mem_append_right _ h.1)).2), by simp⟩
  | .flat, .zip y r, _, _, n + 1, _, _, _ => by
    rw [dgS, dgS]
    exact ⟨false, .tup (cql_unlike flat_zip), by simp⟩
  | .zip y r, .nm w x, _, _, n + 1, _, h, _ => by
    rw [okS] at h
    rw [dgS, dgS]
    exact ⟨false, .tup (cql_unlike (Ne.symm (words_apart w (List.mem_append_left _ h.1)).2)), by simp⟩
  | .zip y r, .nu w x, _, _, n + 1, _, h, _ => by
    rw [okS] at h
    rw [dgS, dgS]
    exact ⟨false, .tup (cql_unlike (Ne.symm (words_apart w (List.mem_append_right _ h.1)).2)), by simp⟩
  | .zip y r, .flat, _, _, n + 1, _, _, _ => by
    rw [dgS, dgS]
    exact ⟨false, .tup (cql_unlike (Ne.symm flat_zip)), by simp⟩
  | .zip y r, .zip y' r', _, _, n + 2, h, g, hn => by
    rw [okS] at h
    rw [okS] at g
    rw [rkS] at hn
    rw [dgS, dgS]
    have prog : ∃ b, Cq (n + 1) (pgD (.lst (dints (hgs 0 r))) y (dstrs (lvR r)) (dgR r)) (pgD (.lst (dints (hgs 0 r'))) y' (dstrs (lvR r')) (dgR r')) b ∧ (b = true ↔ (y = y' ∧ r = r')) := by
      by_cases e : y = y'
      · subst e
        obtain ⟨b, c, i⟩ := cq_row r r' h.2 g.2 (n := n) (by omega)
        exact ⟨b, .pg c, i.trans (by simp)⟩
      · exact ⟨false, .pgN e, by simp [e]⟩
    obtain ⟨b, c, i⟩ := cql2 (n := n + 1) (d := .str "zip") (d' := .str "zip") (P := True) (by
      obtain ⟨b, c, i⟩ := cq_str (n + 1) "zip" "zip"
      exact ⟨b, c, i.trans (by simp)⟩) fun _ => prog
    exact ⟨b, .tup c, i.trans (by simp)⟩
  | .zip _ _, .zip _ _, _, _, 0, _, _, hn => by omega
  | .zip _ _, .zip _ _, _, _, 1, _, _, hn => by rw [rkS] at hn; omega
theorem cq_row : ∀ (r r' : List Sx) {d d' : Int} {n : Nat}, okR d r → okR d' r' → 2 * rkR r + 1 ≤ n → ∃ b, CqL n (dgR r) (dgR r') b ∧ (b = true ↔ r = r')
  | [], [], _, _, n, _, _, _ => by rw [dgR]; exact ⟨true, .nil, by simp⟩
  | [], s :: r, _, _, n, _, _, _ => by rw [dgR, dgR]; exact ⟨false, .nilL, by simp⟩
  | s :: r, [], _, _, n, _, _, _ => by rw [dgR, dgR]; exact ⟨false, .nilR, by simp⟩
  | s :: r, s' :: r', _, _, n, h, g, hn => by
    rw [okR] at h g
    rw [rkR] at hn
    rw [dgR, dgR]
    obtain ⟨b, c, i⟩ := cq_stage s s' h.1 g.1 (n := n) (by omega)
    cases b with
    | false => exact ⟨false, .off c, by simp only [Bool.false_eq_true, false_iff] at i ⊢; intro z; exact i (List.cons.inj z).1⟩
    | true =>
      have e := i.mp rfl
      subst e
      obtain ⟨b2, c2, i2⟩ := cq_row r r' h.2 g.2 (n := n) (by omega)
      exact ⟨b2, .on c c2, i2.trans (by simp)⟩
end
/-- two programs -/
theorem cq_prog {x x' : Str} {r r' : List Sx} {n : Nat} (h : okR 0 r) (g : okR 0 r') (hn : 2 * rkR r + 1 ≤ n) : ∃ b, CqP n (dgP x r) (dgP x' r') b ∧ (b = true ↔ (x = x' ∧ r = r')) := by
  by_cases e : x = x'
  · subst e
    obtain ⟨b, c, i⟩ := cq_row r r' h g hn
    exact ⟨b, ⟨_, _, _, _, _, _, _, _, rfl, rfl, .inl ⟨rfl, c⟩⟩, i.trans (by simp)⟩
  · exact ⟨false, ⟨_, _, _, _, _, _, _, _, rfl, rfl, .inr ⟨e, rfl⟩⟩, by simp [e]⟩
end Lw
namespace LwT
open PySem PySem.SeqAt PyProof.Rows
open AutoSeq1 (wpAny_loadPart')
/-! ### enumerate(tuple) -/
theorem meets_enumerate_newT (l : Addr) (items : Array Value) (n : Nat) (dct : Option Addr) (sl : Array (Option Value)) :
    Meets (Builtin.«enumerate.__new__» ⟨[.type "enumerate", .ref l], []⟩) (fun _ R s => s.heap.get? l = some { cls := .type "tuple", dict := dct, data := .seq items n, slots := sl } ∧
      R (.ok (.ret (.ref (s.heap.push { cls := .type "tuple_iterator", data := .fields #[.ref l, .int 0 0] }).objs.size)))
        { s with heap := (s.heap.push { cls := .type "tuple_iterator", data := .fields #[.ref l, .int 0 0] }).push { cls := .type "enumerate", data := .fields #[.none, .bool false, .ref s.heap.objs.size, rawInt 0, .none, .none] } }) :=
  .of_wp fun prog w A R s h => by
    obtain ⟨hp, g, d, tk, os⟩ := s; obtain ⟨hl, h⟩ := h
    have hsub := sub_enumerate
    have hL : Heap.IsTuple (Shared.heap ⟨hp, g, d, tk, os⟩) l items := ⟨_, hl, rfl, n, rfl⟩
    wp_walk using wpAny_loadPart' hl
    refine wpAny_stack_any fun st => wpAny_pure ?_
    split
    · rename_i c _ _ _ _ _
      cases (c == Value.type "enumerate")
      · wp_walk using wpAny_loadPart' hl, wpAny_pyIter_tuple hL
        exact ⟨_, rfl, h⟩
      · wp_walk using wpAny_loadPart' hl, wpAny_pyIter_tuple hL
        exact ⟨_, rfl, h⟩
    · wp_walk using wpAny_loadPart' hl, wpAny_pyIter_tuple hL
      exact ⟨_, rfl, h⟩
section
variable {prog : Program} {w : World} {A : Around} {E : Value → Shared → Prop} {s : Shared}
theorem call_enumerate_tup {l : Addr} {items : Array Value} {Q : Value → Shared → Prop} (hL : s.heap.IsTuple l items)
    (h : ∀ h', IsEnum h' (s.heap.objs.size + 1) s.heap.objs.size 0 .none → h'.IsTupleIter s.heap.objs.size l 0 → h'.objs.size = s.heap.objs.size + 2 →
      (∀ b o, s.heap.get? b = some o → h'.get? b = some o) → Q (.ref (s.heap.objs.size + 1)) { s with heap := h' }) :
    wpAny (model prog w) A (call (.type "enumerate") [.ref l]) Q E s := by
  obtain ⟨⟨c, dct, dt, sl⟩, hl, hc, n, hd⟩ := hL
  replace hc : c = .type "tuple" := hc
  replace hd : dt = .seq items n := hd
  subst hc hd
  refine callType_new F.called_enumerate (by decide) (F.typeCall_enumerate_1 _) (F.newCall_enumerate_1 _) (fun obj => F.args_object_init_2 obj _) F.entry_enumerate_new
    (meets_enumerate_newT l items n dct sl) ⟨hl, ?_⟩
  have hz : (s.heap.push { cls := .type "tuple_iterator", data := .fields #[.ref l, .int 0 0] }).objs.size = s.heap.objs.size + 1 := Heap.size_push ..
  show _ ∧ _
  rw [hz]
  have he : IsEnum ((s.heap.push { cls := .type "tuple_iterator", data := .fields #[.ref l, .int 0 0] }).push
      { cls := .type "enumerate", data := .fields #[.none, .bool false, .ref s.heap.objs.size, rawInt 0, .none, .none] }) (s.heap.objs.size + 1) s.heap.objs.size 0 .none := by
    have := Heap.get?_push_size (s.heap.push { cls := .type "tuple_iterator", data := .fields #[.ref l, .int 0 0] })
      (o := { cls := .type "enumerate", data := .fields #[.none, .bool false, .ref s.heap.objs.size, rawInt 0, .none, .none] }) rfl
    rw [hz] at this; exact this
  refine ⟨⟨_, he, rfl⟩, h _ he ⟨_, Heap.get?_push_of_some _ (Heap.get?_push_size _ rfl), rfl, rfl⟩ (by rw [Heap.size_push, hz]) fun b o x => Heap.get?_push_of_some _ (Heap.get?_push_of_some _ x)⟩
theorem nextOf_tup_item {it l : Addr} {i : Nat} {items} {x : Value} {Q : Value → Shared → Prop} (hit : s.heap.IsTupleIter it l i)
    (hl : s.heap.IsTuple l items) (hx : items[i]? = some x)
    (hQ : ∀ h', h'.IsTupleIter it l (i + 1) → Heap.SameBut it s.heap h' → Q x { s with heap := h' }) :
    wpAny (model prog w) A (Builtin.SmallTypes.nextOf (.ref it)) Q E s := by
  obtain ⟨o, ho, hc, hd⟩ := id hit
  obtain ⟨ol, hol, _, nl, hdl⟩ := hl
  unfold Builtin.SmallTypes.nextOf
  refine wpAny_bind (wpAny_callSpecial?_slot (name := Str.ofString "__next__") hit.typeIs slot_tupleiter_next
    (wpAny_call_entry slot_tupleiter_next hit.typeIs entry_tupleiter_next ?_ (args_tupleiter_next _)))
  show wpAny _ _ (field (.ref it) 0 >>= _) _ _ s
  refine wpAny_bind (wpAny_field ho hd (x := .ref l) rfl ?_)
  show wpAny _ _ (if (Value.ref l == Value.none) = true then _ else _) _ _ s
  rw [if_neg (show ¬ ((Value.ref l == Value.none) = true) from Bool.false_ne_true)]
  show wpAny _ _ (field (.ref it) 1 >>= _) _ _ s
  refine wpAny_bind (wpAny_field ho hd (x := .int i 0) rfl ?_)
  show wpAny _ _ (seqItems? (.ref l) >>= _) _ _ s
  refine wpAny_bind (wpAny_seqItems hol hdl ?_)
  simp only [Int.toNat_natCast, hx]
  refine wpAny_bind (wpAny_setField ho hd (by simp) (wpAny_pure ⟨x, rfl, wpAny_pure (hQ _ ?_ (Heap.SameBut.update ..))⟩))
  exact ⟨_, Heap.get?_update_self _ ho (Obj.isFreed_of_fields (Obj.data_mapFields hd _)), (Obj.cls_mapFields ..).trans hc, by
    rw [Obj.data_mapFields hd]; simp [rawInt]⟩
theorem nextOf_tup_end {it l : Addr} {i : Nat} {items} {Q : Value → Shared → Prop} (hh : A.handled = none)
    (hit : s.heap.IsTupleIter it l i) (hl : s.heap.IsTuple l items) (hx : items[i]? = none)
    (hE : ∀ h' e, Heap.ExtBut it s.heap h' → (∃ o, h'.get? e = some o ∧ o.cls = .type "StopIteration") → E (.ref e) { s with heap := h' }) :
    wpAny (model prog w) A (Builtin.SmallTypes.nextOf (.ref it)) Q E s := by
  obtain ⟨o, ho, hc, hd⟩ := id hit
  obtain ⟨ol, hol, _, nl, hdl⟩ := hl
  unfold Builtin.SmallTypes.nextOf
  refine wpAny_bind (wpAny_callSpecial?_slot (name := Str.ofString "__next__") hit.typeIs slot_tupleiter_next
    (wpAny_call_entry slot_tupleiter_next hit.typeIs entry_tupleiter_next ?_ (args_tupleiter_next _)))
  show wpAny _ _ (field (.ref it) 0 >>= _) _ _ s
  refine wpAny_bind (wpAny_field ho hd (x := .ref l) rfl ?_)
  show wpAny _ _ (if (Value.ref l == Value.none) = true then _ else _) _ _ s
  rw [if_neg (show ¬ ((Value.ref l == Value.none) = true) from Bool.false_ne_true)]
  show wpAny _ _ (field (.ref it) 1 >>= _) _ _ s
  refine wpAny_bind (wpAny_field ho hd (x := .int i 0) rfl ?_)
  show wpAny _ _ (seqItems? (.ref l) >>= _) _ _ s
  refine wpAny_bind (wpAny_seqItems hol hdl ?_)
  simp only [Int.toNat_natCast, hx]
  refine wpAny_bind (wpAny_rule (wpAny_bind (wpAny_setField ho hd (by simp) ?_)))
  show wpAny _ _ (newExc (.type "StopIteration") [] >>= _) _ _ _
  refine wpAny_bind ?_
  simp only [newExc, newTuple]
  refine wpAny_bind (wpAny_newObj_type ?_ (by size_fits))
  refine wpAny_bind (m := firstArgMember _ _) (wpAny_of_eq (a := Value.none) (by first | rfl | (simp only [firstArgMember]; rfl)) ?_)
  refine wpAny_newObj_type ?_ (by size_fits)
  simp only [raiseNew]
  refine wpAny_bind (wpAny_handled ?_)
  first | rw [show A.in1.handled = none from hh] | rw [hh]
  refine wpAny_bind (wpAny_pure (wpAny_throw ?_))
  exact hE _ _ (((Heap.SameBut.update ..).extBut.push _).push _) ⟨_, Heap.get?_push_size _ rfl, rfl⟩
theorem pyNext_enumT_end {e it l : Addr} {i : Nat} {items : Array Value} {old : Value} {Q : Option Value → Shared → Prop} (hh : A.handled = none)
    (he : IsEnum s.heap e it i old) (hit : s.heap.IsTupleIter it l i) (hl : s.heap.IsTuple l items) (hx : items[i]? = none)
    (hQ : ∀ h', Heap.ExtBut it s.heap h' → Q none { s with heap := h' }) : wpAny (model prog w) A (pyNext (.ref e)) Q E s := by
  have hT : s.TypeIs (.ref e) "enumerate" := ⟨_, he, rfl⟩
  unfold pyNext
  refine wpAny_bind (wpAny_attempt (wpAny_callSpecial?_slot (name := Str.ofString "__next__") hT F.slot_enumerate_next
    (wpAny_call_entry F.slot_enumerate_next hT F.entry_enumerate_next ?_ (F.args_enumerate_next_1 _))))
  show wpAny _ _ (field (.ref e) 2 >>= _) _ _ _
  refine wpAny_bind (wpAny_field he rfl (x := .ref it) rfl ?_)
  refine wpAny_bind (nextOf_tup_end hh hit hl hx fun h' x he' hx' => ?_)
  obtain ⟨o, ho, hc⟩ := hx'
  refine wpAny_bind (wpAny_isInstance (T := "StopIteration") (b := true) ⟨o, ho, hc⟩ isSubtype_stop ?_)
  exact wpAny_pure (hQ _ he')
end
theorem drawsTup {prog : Program} {w : World} {A : Around} (hh : A.handled = none) (it l : Addr) (hne : l ≠ it) (items : Array Value) :
    Draws prog w A it [it, l] items.size (fun i v => items[i]? = some v) (fun i h => h.IsTupleIter it l i ∧ h.IsTuple l items) where
  live := fun _ _ st => let ⟨o, ho, _⟩ := st.1; ⟨o, ho⟩
  frame := fun _ _ _ st hk => ⟨let ⟨o, ho, r⟩ := st.1; ⟨o, hk it (by simp) o ho, r⟩, let ⟨o, ho, r⟩ := st.2; ⟨o, hk l (by simp) o ho, r⟩⟩
  item := fun i s Q E hi st hQ => by
    refine nextOf_tup_item st.1 st.2 (x := items[i]) (by simp [hi]) fun h' hit' hs' => ?_
    exact hQ _ h' s.toks (by simp [hi]) ⟨hit', let ⟨o, ho, r⟩ := st.2; ⟨o, hs'.extBut l o hne ho, r⟩⟩ hs'
  done := fun s Q E st hE => nextOf_tup_end hh st.1 st.2 (by simp) hE
end LwT
namespace Lw
open PySem PySem.Spec PyProof.Rows L2
/-- the tuple at a, each item in a new pair -/
def IteT (K : PySem.W.Frag) (a : Addr) : It :=
  ⟨fun i H => ∃ (xs : List V) (x : V), SqT K H a xs ∧ xs[i]? = some x, fun i H v H' => ∃ T x, v = .ref T ∧ H T = none ∧ H' = upd H T (.tup [.int (i : Nat), x]) ∧ ∀ xs, SqT K H a xs → xs[i]? = some x, fun i H => ∃ xs : List V, SqT K H a xs ∧ xs.length ≤ i⟩
theorem turn_enumT {P : Program} {w : World} {K : PySem.W.Frag} {elts : List Expr} {kk : Nat} {tpos : Pos} (a e it : Addr) :
    Turn P w K (.Tuple elts kk tpos) (IteT K a) [e, it] e (fun i h => (∃ old, IsEnum h e it ((i : Nat) : Int) old) ∧ h.IsTupleIter it a i ∧ e ≠ it) where
  mem := by simp
  obj := fun i h st b hb => by
    obtain ⟨⟨old, he⟩, ⟨o, ho, hc, hd⟩, _⟩ := st
    have e' : b = e ∨ b = it := by simpa using hb
    rcases e' with z | z
    · rw [z]; exact ⟨_, he, fun v q => nomatch q⟩
    · rw [z]; exact ⟨o, ho, fun v q => by rw [hd] at q; cases q⟩
  keep := fun i h h' st k => let ⟨⟨old, he⟩, ⟨o, ho, r⟩, hne⟩ := st; ⟨⟨old, k e (by simp) _ he⟩, ⟨o, k it (by simp) o ho, r⟩, hne⟩
  item := by
    intro X hP hw hK hc i pins s σ H E I hf st hg
    subst hP hw hK
    obtain ⟨⟨old, he⟩, hit, hne⟩ := st
    obtain ⟨xs, x, hq, hx⟩ := hg
    obtain ⟨its, rv, p, hz⟩ := I.tuple hq
    obtain ⟨u, hu, ru⟩ := rv.get hx
    have hel : e < s.heap.objs.size := Heap.lt_size he
    have hil : it < s.heap.objs.size := by obtain ⟨_, q, _⟩ := hit; exact Heap.lt_size q
    have hai : a ≠ it := by
      rintro rfl
      obtain ⟨o1, h1, c1, _⟩ := p
      obtain ⟨o2, h2, c2, _⟩ := hit
      rw [h1] at h2
      cases h2
      rw [c1] at c2
      exact absurd (Value.type.inj c2) (by decide)
    have hae : e ≠ a := by
      rintro rfl
      obtain ⟨o1, h1, c1, _⟩ := p
      have he' := h1.symm.trans he
      cases he'
      exact absurd (Value.type.inj c1) (by decide)
    have hlt : i < its.toArray.size := by
      have := (List.getElem?_eq_some_iff.mp hu).1
      simpa using this
    refine wpAny_pyNext_enum_itemD (LwT.drawsTup (by simp [I.ok.hd hc]) it a hai its.toArray) he ⟨hit, p⟩ hlt hne (by simp [hne, hae]) fun y h' tk hy ho hst hT hsz hk => ?_
    have ey : y = u := by
      have z : its.toArray[i]? = some u := by simpa using hu
      rw [z] at hy
      cases hy
      rfl
    subst ey
    refine ⟨_, rfl, wpAny_letOwnedTupleGo_enum (s := { s with heap := h', toks := tk + 1 }) ho fun h'' he' sb => ?_⟩
    have hT2 : h''.get? s.heap.objs.size = some { cls := .type "tuple", data := .seq #[.int i tk, y] } := (sb.2 _ (Nat.ne_of_gt hel)).trans hT
    have new : ObjOk X.prog X.w (upd H s.heap.objs.size (.tup [.int (i : Nat), x])) h'' s.heap.objs.size (.tup [.int (i : Nat), x]) :=
      ⟨by show 2 ≤ sizeLine; decide, [.int i tk, y], .cons ⟨_, rfl⟩ (.cons ru .nil), ⟨_, hT2, rfl, _, rfl⟩⟩
    have I1 : Inv X pins σ (upd H s.heap.objs.size (.tup [.int (i : Nat), x])) { s with heap := h'', toks := tk + 1 } :=
      I.turnedNew (ch := [e, it]) (fun b ob hb q => (sb.2 b (fun z => hb (by simp [z]))).trans (hk b ob (fun z => hb (by simp [z])) (fun z => hb (by simp [z])) q)) hf (Nat.le_refl _) new
    refine ⟨.ref s.heap.objs.size, _, I1, rfl, ⟨_, x, rfl, I.hok.fresh (Nat.le_refl _), rfl, fun ys hy => by rw [I.tuple_inj hy hq]; exact hx⟩, ⟨⟨y, ?_⟩, (let ⟨o, h1, r⟩ := hst.1; ⟨o, (sb.2 it (Ne.symm hne)).trans h1, r⟩), hne⟩, fun b hb => ?_⟩
    · have e1 : ((i + 1 : Nat) : Int) = (i : Int) + 1 := by omega
      rw [e1]; exact he'
    · have hb' : b < s.heap.objs.size := by
        have e' : b = e ∨ b = it := by simpa using hb
        rcases e' with z | z
        · rw [z]; exact hel
        · rw [z]; exact hil
      rw [upd_ne (Nat.ne_of_lt hb')]
      exact (hf b hb).1
  done := by
    intro X hP hw hK hc i pins s σ H E I hf st hg
    subst hP hw hK
    obtain ⟨⟨old, he⟩, hit, hne⟩ := st
    obtain ⟨xs, hq, hx⟩ := hg
    obtain ⟨its, rv, p, hz⟩ := I.tuple hq
    obtain ⟨f0, f1, f2, f3, f4, f5⟩ := hf it (by simp)
    have hl := rv.length
    exact LwT.pyNext_enumT_end (I.ok.hd hc) he hit p (by simp; omega) fun h' eb => ⟨rfl, I.turned (t' := s.toks) (fun b o hb q => eb b o hb q) f0 f1 f3 f4 f5⟩
  self := fun A i s Q E st h => let ⟨⟨_, he⟩, _⟩ := st; wpAny_pyIter_enum he h
/-- enumerate of a list or of a tuple -/
def iEnumA (K : PySem.W.Frag) (ta : TA) : TI := fun σ H R => ta σ H fun vs H1 => ∃ a xs, vs = [.ref a] ∧ ((SqL K H1 a xs ∧ R (Ite K a) H1) ∨ (SqT K H1 a xs ∧ R (IteT K a) H1))
theorem pi_enumA {X : Cx} {e : Expr} {ta : TA} {p pos tpos : Pos} {elts : List Expr} {kk : Nat} (hg : Gl X "enumerate") (hm : X.mg "enumerate" = none) (ha : PA X [e] ta) (hs : starEach [e] X.env = [(false, eval e X.env)] := by rfl) :
    PI X (.Tuple elts kk tpos) (.Call (.Name "enumerate" p) [e] [] pos) (iEnumA X.K ta) := by
  refine ⟨fun pins s σ H R I h => ?_⟩
  refine Call_ (ld_blt I hg hm boot_enumerate (PyProof.Rows.callWith_type1 (thn (ha.run pos pins s σ H _ I h) fun us s1 ⟨vs, H1, I1, r1, q1⟩ => ?_) hs rfl))
  obtain ⟨a, xs, ex, q1⟩ := q1
  subst ex
  cases r1 with
  | cons r rr =>
    cases rr
    cases r
    have fps : ∀ b ∈ [s1.heap.objs.size + 1, s1.heap.objs.size], FpOk X pins H1 b := fun b hb => by
      have e' : b = s1.heap.objs.size + 1 ∨ b = s1.heap.objs.size := by simpa using hb
      have hle : s1.heap.objs.size ≤ b := by
        rcases e' with z | z
        · rw [z]; exact Nat.le_add_right _ _
        · rw [z]; exact Nat.le_refl _
      exact I1.fpOk hle (I1.hok.fresh hle)
    rcases q1 with ⟨hq, q⟩ | ⟨hq, q⟩
    · obtain ⟨its, rv, p', hz⟩ := I1.list hq
      refine call_enumerate_list p'.isList fun h' he hit hsz hk => wpAny_pyIter_enum he ?_
      have I2 : Inv X pins σ H1 { s1 with heap := h' } := I1.kept (t' := s1.toks) hk
      exact ⟨s1.heap.objs.size + 1, [s1.heap.objs.size + 1, s1.heap.objs.size], _, _, H1, rfl, I2, turn_enum a (s1.heap.objs.size + 1) s1.heap.objs.size, ⟨⟨.none, he⟩, hit, Nat.succ_ne_self _⟩, fps, q⟩
    · obtain ⟨its, rv, p', hz⟩ := I1.tuple hq
      refine LwT.call_enumerate_tup p' fun h' he hit hsz hk => wpAny_pyIter_enum he ?_
      have I2 : Inv X pins σ H1 { s1 with heap := h' } := I1.kept (t' := s1.toks) hk
      exact ⟨s1.heap.objs.size + 1, [s1.heap.objs.size + 1, s1.heap.objs.size], _, _, H1, rfl, I2, turn_enumT a (s1.heap.objs.size + 1) s1.heap.objs.size, ⟨⟨.none, he⟩, hit, Nat.succ_ne_self _⟩, fps, q⟩
theorem walk_enumT {K : PySem.W.Frag} {a : Addr} {xs : List V} : Walk (IteT K a) xs.length (fun H => SqT K H a xs) (YPair (fun i => some (.int (i : Nat))) (fun i => xs[i]?)) := by
  refine ⟨fun i _ hi q => ⟨xs, xs[i], q, by simp [hi]⟩, fun _ q => ⟨xs, q, Nat.le_refl _⟩, fun i H v H' _ q y => ?_⟩
  obtain ⟨T, x, h1, h2, h3, h4⟩ := y
  exact ⟨T, .int (i : Nat), x, h1, h2, h3, rfl, h4 xs q⟩
/-- for i, x in enumerate(tuple) -/
theorem for_enumT {K : PySem.W.Frag} {a : Addr} {xs : List V} {g : TG} {tb : L2.TS} {D : Ends} {σ : L2.St} {H : Hp} (Pv : Nat → L2.St → Hp → Prop) (h0 : Pv 0 σ H) (hq : ∀ i σ H, i ≤ xs.length → Pv i σ H → SqT K H a xs)
    (hs : ∀ (i : Nat) (x : V) (T : Addr) (σ : L2.St) (H : Hp), xs[i]? = some x → Pv i σ H → H T = none → g (.ref T) σ (upd H T (.tup [.int (i : Nat), x])) fun σ2 H2 => tb { D with nx := Pv (i + 1), ct := Pv (i + 1), bk := D.nx } σ2 H2)
    (hd : ∀ σ H, Pv xs.length σ H → D.nx σ H) :
    ∃ W : Nat → Nat → L2.St → Hp → Prop, (∃ m, W 0 m σ H) ∧ ∀ i m σ H, W i m σ H →
      ((IteT K a).stop i H ∧ D.nx σ H) ∨ ((IteT K a).go i H ∧ ∃ N : L2.St → Hp → Prop, (∀ σ' H', N σ' H' → ∃ m', m' < m ∧ W (i + 1) m' σ' H') ∧ ∀ v H', (IteT K a).yld i H v H' → g v σ H' fun σ2 H2 => tb { D with nx := N, ct := N, bk := D.nx } σ2 H2) := by
  refine ⟨fun i m σ H => m = xs.length - i ∧ i ≤ xs.length ∧ Pv i σ H, ⟨xs.length, rfl, Nat.zero_le _, h0⟩, ?_⟩
  rintro i m σ H ⟨rfl, hi, p⟩
  have q := hq i σ H hi p
  by_cases hlt : i < xs.length
  · refine .inr ⟨⟨xs, xs[i], q, List.getElem?_eq_getElem hlt⟩, Pv (i + 1), fun σ' H' p' => ⟨xs.length - (i + 1), by omega, rfl, hlt, p'⟩, ?_⟩
    rintro v H' ⟨T, x, rfl, hT, rfl, f⟩
    exact hs i x T σ H (f xs q) p hT
  · have e : i = xs.length := by omega
    subst e
    exact .inl ⟨⟨xs, q, Nat.le_refl _⟩, hd σ H p⟩
/-- for i, x in enumerate(list or tuple) -/
theorem for_enumA {K : PySem.W.Frag} {a : Addr} {xs : List V} {g : TG} {tb : L2.TS} {D : Ends} {σ : L2.St} {H : Hp} (Pv : Nat → L2.St → Hp → Prop) (h0 : Pv 0 σ H)
    (h : (SqL K H a xs ∧ ∀ i σ H, i ≤ xs.length → Pv i σ H → SqL K H a xs) ∨ (SqT K H a xs ∧ ∀ i σ H, i ≤ xs.length → Pv i σ H → SqT K H a xs))
    (hs : ∀ (i : Nat) (x : V) (T : Addr) (σ : L2.St) (H : Hp), xs[i]? = some x → Pv i σ H → H T = none → g (.ref T) σ (upd H T (.tup [.int (i : Nat), x])) fun σ2 H2 => tb { D with nx := Pv (i + 1), ct := Pv (i + 1), bk := D.nx } σ2 H2)
    (hd : ∀ σ H, Pv xs.length σ H → D.nx σ H) :
    (SqL K H a xs ∧ ∃ W : Nat → Nat → L2.St → Hp → Prop, (∃ m, W 0 m σ H) ∧ ∀ i m σ H, W i m σ H →
      ((Ite K a).stop i H ∧ D.nx σ H) ∨ ((Ite K a).go i H ∧ ∃ N : L2.St → Hp → Prop, (∀ σ' H', N σ' H' → ∃ m', m' < m ∧ W (i + 1) m' σ' H') ∧ ∀ v H', (Ite K a).yld i H v H' → g v σ H' fun σ2 H2 => tb { D with nx := N, ct := N, bk := D.nx } σ2 H2)) ∨
    (SqT K H a xs ∧ ∃ W : Nat → Nat → L2.St → Hp → Prop, (∃ m, W 0 m σ H) ∧ ∀ i m σ H, W i m σ H →
      ((IteT K a).stop i H ∧ D.nx σ H) ∨ ((IteT K a).go i H ∧ ∃ N : L2.St → Hp → Prop, (∀ σ' H', N σ' H' → ∃ m', m' < m ∧ W (i + 1) m' σ' H') ∧ ∀ v H', (IteT K a).yld i H v H' → g v σ H' fun σ2 H2 => tb { D with nx := N, ct := N, bk := D.nx } σ2 H2)) := by
  rcases h with ⟨h, q⟩ | ⟨h, q⟩
  · exact .inl ⟨h, for_enum Pv h0 q hs hd⟩
  · exact .inr ⟨h, for_enumT Pv h0 q hs hd⟩
theorem sqT_but {L : List Addr} {K : PySem.W.Frag} {H H' : Hp} (s : But L H H') {a : Addr} {xs : List V} (n : ∀ b ∈ L, ∀ o, H b = some o → ∀ xs o', o ≠ .tup xs ∧ o ≠ .frz o' (.tup xs)) (h : SqT K H a xs) : SqT K H' a xs := by
  rcases h with (h | ⟨o, h⟩) | h
  · exact .inl (.inl (s _ _ (fun z => (n a z _ h xs default).1 rfl) h))
  · exact .inl (.inr ⟨o, s _ _ (fun z => (n a z _ h xs o).2 rfl) h⟩)
  · exact .inr h
/-- over data -/
def wiEA (we : WA) : WI := fun δ M R => we δ M fun ds M1 => match ds with
  | [.lst l] => R (enm 0 l) M1
  | [.tup l] => R (enm 0 l) M1
  | _ => False
theorem di_eA {X : Cx} {U : Ev} {a tgt : Expr} {p pos : Pos} {wr : WA} (hK : X.K = U.K) (h : ∀ {t : TA}, PA X [a] t → PI X tgt (.Call (.Name "enumerate" p) [a] [] pos) (iEnumA X.K t)) (ha : DA X U [a] wr) : DI X U tgt (.Call (.Name "enumerate" p) [a] [] pos) (wiEA wr) := PI.mono (h ha) fun _ _ _ ⟨δ, M, R, E, w, l⟩ => by
  refine ⟨δ, M, _, E, w, fun vs ds M1 H1 g k r w1 => ?_⟩
  have itd : ∀ (J : It) (ls : List Dt) (ws : List V) (G : Hp → Prop), Walk J ws.length G (YPair (fun i => some (.int (i : Nat))) (fun i => ws[i]?)) → (∀ H', KPm U H1 H' → G H') → Rps U H1 ws ls → ItD U J (enm 0 ls) H1 := by
    intro J ls ws G W hG c
    refine ⟨G, (YPair (fun i => some (.int (i : Nat))) (fun i => ws[i]?)), ?_, hG, fun i H1 x H2 d hi hd kp y => .inr ?_⟩
    · rw [enm_len, ← c.len]
      exact W
    · obtain ⟨T, x1, y1, rfl, hT, rfl, e1, e2⟩ := y
      cases e1
      rw [enm_get] at hd
      obtain ⟨d', h1, rfl⟩ := Option.map_eq_some_iff.mp hd
      obtain ⟨v', h2, h3⟩ := c.get h1
      have e3 : ws[i]? = some y1 := e2
      rw [h2] at e3
      cases e3
      refine ⟨T, _, hT, rfl, .tup (SqT.of upd_same) (by show 2 ≤ sizeLine; decide) (.cons ?_ (.cons ((h3.k kp).k fun b o e _ => same_upd hT b o e) .nil))⟩
      rw [Nat.zero_add]
      exact .int
  split at w1
  · obtain ⟨v, ev, r1⟩ := one_rps r
    subst ev
    cases r1 with | @lst aa vs _ o a b c =>
    rw [hK]
    exact ⟨_, _, rfl, .inl ⟨.inl (.inr ⟨_, a⟩), l _ _ _ _ g k (itd _ _ _ _ walk_enum (fun H' kp => .inl (.inr ⟨_, kp _ _ a trivial⟩)) c) w1⟩⟩
  · obtain ⟨v, ev, r1⟩ := one_rps r
    subst ev
    cases r1 with | @tup aa vs _ a b c =>
    rw [hK]
    exact ⟨_, _, rfl, .inr ⟨a, l _ _ _ _ g k (itd _ _ _ _ walk_enumT (fun H' kp => sqT_k kp a) c) w1⟩⟩
  · exact w1.elim
end Lw
namespace Lw
open PySem PySem.Spec PyProof.Rows L2
/-! ### len(set(xs)), xs a list of ints -/
/-- how many unlike ones -/
def ndup (ns : List Int) : Nat := (PyProof.Rows.firstMet (fun i => ns.getD i 0) ns.length).length
def tLenSetI (K : PySem.W.Frag) (ta : TE) : TE := fun σ H Q => ta σ H fun x H1 => ∃ (l : Addr) (ns : List Int), x = .ref l ∧ SqL K H1 l (ns.map V.int) ∧ ns.length ≤ 1000 ∧ Q (.int (ndup ns : Nat)) H1
theorem pe_lenSetI {X : Cx} {a : Expr} {ta : TE} {p p2 q pos : Pos} (hc : X.calm = true) (hg : Gl X "len") (hm : X.mg "len" = none) (hg2 : Gl X "set") (hm2 : X.mg "set" = none) (ha : PE X a ta)
    (na : starEach [a] X.env = (false, eval a X.env) :: starEach [] X.env := by rfl) : PE X (.Call (.Name "len" p) [.Call (.Name "set" p2) [a] [] q] [] pos) (tLenSetI X.K ta) := by
  refine ⟨fun pins s σ H Q I h => ?_⟩
  refine Call_ (ld_blt I hg hm boot_len ?_)
  refine PyProof.Rows.callWith_builtin1 (PyProof.Rows.args_cons ?_ rfl) rfl rfl
  refine Call_ (ld_blt I hg2 hm2 boot_set ?_)
  refine PyProof.Rows.callWith_type1 (PyProof.Rows.args_cons (thn (ha.run pins s σ H _ I h) fun v s1 ⟨x, H1, I1, r1, q1⟩ => PyProof.Rows.args_nil ?_) na) na rfl
  obtain ⟨l, ns, rfl, hq, h1, q1⟩ := q1
  cases r1
  obtain ⟨its, r, pl, hz⟩ := I1.list hq
  have hl : its.toArray.size = ns.length := by rw [List.size_toArray, ← r.length, List.length_map]
  refine PySem.call_set_list (I1.ok.hd hc) pl.isList (by simpa using ints_of_vals r) (by rw [hl]; unfold scanBound; omega) fun h' tk hS hk => ?_
  refine PyProof.Rows.args_nil ?_
  rw [hl] at hS
  obtain ⟨o, es, ep, t, ho, hex, hd, _, _, hb, hf, hn⟩ := hS
  have I2 : Inv X pins σ H1 { s1 with heap := h', toks := tk } := I1.kept fun b o e => hk b o (Heap.lt_size e) e
  have hle := PyProof.Rows.firstMet_length_le (fun i => ns.getD i 0) ns.length
  refine call_len_set ho hex hd hf (by rw [hn]; omega) ⟨.int (ndup ns : Nat), H1, I2.tok _, ⟨_, by rw [hn]; rfl⟩, q1⟩
/-- the ints of a list -/
def dis : List Dt → Option (List Int)
  | [] => some []
  | .int i :: r => (dis r).map (i :: ·)
  | _ => none
theorem dis_ok {U : Ev} {H : Hp} : ∀ {l : List Dt} {vs : List V} {ns : List Int}, Rps U H vs l → dis l = some ns → vs = ns.map V.int
  | [], _, _, r, h => by cases r; cases h; rfl
  | d :: l, _, _, r, h => by
    cases r with | cons a b =>
    cases d with
    | int i =>
      rw [dis] at h
      obtain ⟨m, h1, rfl⟩ := Option.map_eq_some_iff.mp h
      cases a
      rw [List.map_cons, dis_ok b h1]
    | _ => simp [dis] at h
def wLenSet (we : WE) : WE := fun δ M R => we δ M fun x M1 => match sql M1 x with
  | some l => match dis l with
    | some ns => ns.length ≤ 1000 ∧ R (.int (ndup ns : Nat)) M1
    | none => False
  | none => False
theorem d_lenSet {X : Cx} {U : Ev} {a : Expr} {wa : WE} {p p2 q pos : Pos} (hK : X.K = U.K) (hc : X.calm = true) (hg : Gl X "len") (hm : X.mg "len" = none) (hg2 : Gl X "set") (hm2 : X.mg "set" = none) (ha : DE X U a wa)
    (na : starEach [a] X.env = (false, eval a X.env) :: starEach [] X.env := by rfl) : DE X U (.Call (.Name "len" p) [.Call (.Name "set" p2) [a] [] q] [] pos) (wLenSet wa) :=
  PE.mono (pe_lenSetI hc hg hm hg2 hm2 ha na) fun σ H Q ⟨δ, M, R, E, w, l⟩ => by
    refine ⟨δ, M, _, E, w, fun v d M1 H1 g k r w1 => ?_⟩
    split at w1
    · rename_i ls q1
      split at w1
      · rename_i ns q2
        obtain ⟨p, vs, rfl, hs, rs, hl⟩ := sql_ok k r q1
        have e := dis_ok rs q2
        subst e
        rw [hK]
        exact ⟨p, ns, rfl, hs, w1.1, l _ _ M1 H1 g k .int w1.2⟩
      · exact w1.elim
    · exact w1.elim
end Lw
namespace Lw
open PySem PySem.Spec PyProof.Rows L2
/-! ### repr over data -/
section
variable {X : Cx} {U : Ev} {pins : List (Addr × Obj)} {σ : L2.St} {H : Hp} {s : Shared}
mutual
theorem rp_reads (I : L2.Inv X pins σ H s) (hK : X.K = U.K) : ∀ (d : Dt) {v : V} {u : Value} {p : PyData}, Rp U H v d → L2.RelV v u → py d = some p → ∃ as, PySem.Reads s.heap u p as
  | .non, _, _, _, r, ru, e => by cases r; cases (show _ = Value.none from ru); simp [py] at e; subst e; exact ⟨_, .none⟩
  | .bl b, _, _, _, r, ru, e => by cases r; cases (show _ = Value.bool b from ru); simp [py] at e; subst e; exact ⟨_, .bool b⟩
  | .int i, _, _, _, r, ru, e => by cases r; obtain ⟨t, rfl⟩ := (show ∃ t, _ = Value.int i t from ru); simp [py] at e; subst e; exact ⟨_, .int i t⟩
  | .str x, _, _, _, r, ru, e => by cases r; obtain ⟨t, rfl⟩ := (show ∃ t, _ = Value.str x t from ru); simp [py] at e; subst e; exact ⟨_, .str x t⟩
  | .tup l, _, _, _, r, ru, e => by
    cases r with | @tup a vs _ a1 a2 a3 =>
    cases (show _ = Value.ref a from ru)
    rw [py] at e
    obtain ⟨q, h1, rfl⟩ := Option.map_eq_some_iff.mp e
    rw [← hK] at a1
    obtain ⟨its, rv, ⟨o, ho, hc, n, hd⟩, _⟩ := I.tuple a1
    obtain ⟨as, hR⟩ := rps_reads I hK l a3 rv h1
    exact ⟨as, .tuple ho hc hd hR⟩
  | .lst l, _, _, _, r, ru, e => by
    cases r with | @lst a vs _ o a1 a2 a3 =>
    cases (show _ = Value.ref a from ru)
    rw [py] at e
    obtain ⟨q, h1, rfl⟩ := Option.map_eq_some_iff.mp e
    obtain ⟨_, its, n, rv, ho⟩ := Rd.ok (.inr ⟨_, a1⟩) I.hok
    obtain ⟨as, hR⟩ := rps_reads I hK l a3 rv h1
    exact ⟨_, .list ho rfl rfl hR⟩
  | .obj _ _, _, _, _, _, _, e => by simp [py] at e
  | .dic _ _, _, _, _, _, _, e => by simp [py] at e
  | .ptr _, _, _, _, _, _, e => by simp [py] at e
  | .ty _, _, _, _, _, _, e => by simp [py] at e
  | .scr _, _, _, _, _, _, e => by simp [py] at e
theorem rps_reads (I : L2.Inv X pins σ H s) (hK : X.K = U.K) : ∀ (l : List Dt) {vs : List V} {us : List Value} {ps : List PyData}, Rps U H vs l → Vals vs us → pys l = some ps → ∃ as, PySem.ReadsAll s.heap us ps as
  | [], _, _, _, r, rv, e => by cases r; cases rv; simp [pys] at e; subst e; exact ⟨_, .nil⟩
  | d :: l, _, _, _, r, rv, e => by
    cases r with | cons r rr =>
    cases rv with | cons v1 v2 =>
    rw [pys] at e
    rcases q1 : py d with _ | p
    · simp [q1] at e
    · rcases q2 : pys l with _ | ps
      · simp [q1, q2] at e
      · simp only [q1, q2] at e
        cases e
        obtain ⟨as, h1⟩ := rp_reads I hK d r v1 q1
        obtain ⟨bs, h2⟩ := rps_reads I hK l rr v2 q2
        exact ⟨_, .cons h1 h2⟩
end
mutual
theorem py_nodict : ∀ (d : Dt) {p : PyData}, py d = some p → p.hasDict = false
  | .non, _, e => by simp [py] at e; subst e; rfl
  | .bl b, _, e => by simp [py] at e; subst e; rfl
  | .int i, _, e => by simp [py] at e; subst e; rfl
  | .str x, _, e => by simp [py] at e; subst e; rfl
  | .tup l, _, e => by
    rw [py] at e
    obtain ⟨q, h1, rfl⟩ := Option.map_eq_some_iff.mp e
    rw [PyData.hasDict]
    exact pys_nodict l h1
  | .lst l, _, e => by
    rw [py] at e
    obtain ⟨q, h1, rfl⟩ := Option.map_eq_some_iff.mp e
    rw [PyData.hasDict]
    exact pys_nodict l h1
  | .obj _ _, _, e => by simp [py] at e
  | .dic _ _, _, e => by simp [py] at e
  | .ptr _, _, e => by simp [py] at e
  | .ty _, _, e => by simp [py] at e
  | .scr _, _, e => by simp [py] at e
theorem pys_nodict : ∀ (l : List Dt) {ps : List PyData}, pys l = some ps → PyData.hasDictAll ps = false
  | [], _, e => by simp [pys] at e; subst e; rfl
  | d :: l, _, e => by
    rw [pys] at e
    rcases q1 : py d with _ | p
    · simp [q1] at e
    · rcases q2 : pys l with _ | ps
      · simp [q1, q2] at e
      · simp only [q1, q2] at e
        cases e
        rw [PyData.hasDictAll, py_nodict d q1, pys_nodict l q2]
        rfl
end
/-- what is read: also lists that may change, {} -/
def pyR (M : Mh) : Dt → Option PyData
  | .ptr a => match M a with
    | some (.lst l) => (pys l).map .list
    | some (.dic _ _) => some (.dict [])
    | _ => none
  | d => py d
theorem pyR_reads {M : Mh} (I : L2.Inv X pins σ H s) (hK : X.K = U.K) (k : MOk U H M) {d : Dt} {v : V} {u : Value} {p : PyData} (r : Rp U H v d) (ru : L2.RelV v u) (e : pyR M d = some p) : ∃ as, PySem.Reads s.heap u p as ∧ (p.hasDict = true → sysModules ∉ as) := by
  unfold pyR at e
  split at e
  · rename_i a
    cases r
    cases (show _ = Value.ref a from ru)
    split at e
    · rename_i l q
      obtain ⟨vs, h1, h2, h3⟩ := k _ _ q
      obtain ⟨ps, e1, rfl⟩ := Option.map_eq_some_iff.mp e
      obtain ⟨_, its, n, rv, ho⟩ := Rd.ok (.inl h1) I.hok
      obtain ⟨as, hR⟩ := rps_reads I hK l h3 rv e1
      refine ⟨_, .list ho rfl rfl hR, PyData.noDict_hsm ?_⟩
      rw [PyData.hasDict]
      exact pys_nodict l e1
    · rename_i k1 v1 q
      cases e
      have h1 := (k _ _ q).2.2
      obtain ⟨_, h2, vs, rk, o, es, ep, g1, g2, g3, g4, g5, g6⟩ := (show ObjOk X.prog X.w H s.heap a (.dK []) from I.hok a _ h1)
      cases rk
      have e0 : es.toList = [] := by
        generalize es.toList = l at g5
        cases g5
        rfl
      refine ⟨[a] ++ [] ++ [], .dict g1 g2.1 g3 (by rw [e0]; exact .nil) (by rw [e0]; exact .nil), fun _ z => ?_⟩
      have z' : sysModules = a := by simpa using z
      rw [← z'] at h2
      have c : (sysModules == sysModules) = true := beq_self_eq_true _
      rw [c] at h2
      cases h2
    · cases e
  · obtain ⟨as, h⟩ := rp_reads I hK _ r ru e
    exact ⟨as, h, PyData.noDict_hsm (py_nodict _ e)⟩
/-- small: its text is short and a text -/
structure SmD (n : Nat) (d : PyData) : Prop where
  show_ : d.showable = true
  dep : d.depth ≤ 60
  len : d.shown.length ≤ n
  ok : PyData.strOk d.shown = true
def gRepr : WC := fun ds M R => match ds with
  | [d] => match pyR M d with
    | some p => SmD 1000000 p ∧ R (.str p.shown) M
    | none => False
  | _ => False
theorem c_repr (hK : X.K = U.K) (hg : X.A.guards = some []) (hu : X.A.units + 64 < cLine) : CallR X (.builtin "repr") (cW U gRepr) := by
  rintro pins s σ H xs us Q I rs ⟨ds, M, R, k, rr, w, l⟩
  unfold gRepr at w
  split at w
  · rename_i d
    obtain ⟨v, rfl, r⟩ := one_rps rr
    obtain ⟨u, rfl, ru⟩ := vals1 rs
    split at w
    · rename_i p q
      obtain ⟨sm, w⟩ := w
      have hsz : p.shown.length ≤ sizeLine := by have := sm.len; rw [sizeLine_eq]; omega
      have fin : ∀ (h' : Heap) (t tk : Nat), (∀ b o, s.heap.get? b = some o → h'.get? b = some o) → EP X pins σ Q (.str p.shown t) { s with heap := h', toks := tk } := fun h' t tk hk =>
        ⟨.str p.shown, H, I.kept (t' := tk) hk, ⟨t, rfl⟩, l _ _ M H .refl k (.str sm.ok hsz) w⟩
      obtain ⟨as, hR, hsm⟩ := pyR_reads I hK k r ru q
      cases hR with
      | none => exact PySem.P.repr_of_none (fin s.heap _ _ fun _ _ z => z)
      | bool b => exact PySem.P.repr_of_bool (fin s.heap _ _ fun _ _ z => z)
      | int i t => exact PySem.P.repr_of_int (of_decide_eq_true sm.show_) (fin s.heap _ _ fun _ _ z => z)
      | str x t => exact PySem.P.repr_of_str (fin s.heap _ _ fun _ _ z => z) hsz
      | list h1 h2 h3 h4 => exact repr_of_reads' (.list h1 h2 h3 h4) sm.show_ hsm hg (by have := sm.dep; omega) (fun _ _ z => z) (fun h' u tk hk => fin h' u tk hk) hsz
      | tuple h1 h2 h3 h4 => exact repr_of_reads' (.tuple h1 h2 h3 h4) sm.show_ hsm hg (by have := sm.dep; omega) (fun _ _ z => z) (fun h' u tk hk => fin h' u tk hk) hsz
      | dict h1 h2 h3 h4 h5 => exact repr_of_reads' (.dict h1 h2 h3 h4 h5) sm.show_ hsm hg (by have := sm.dep; omega) (fun _ _ z => z) (fun h' u tk hk => fin h' u tk hk) hsz
    · exact w.elim
  · exact w.elim
end
/-! small things -/
theorem from_ok : ∀ (ts : List Str) (k : Nat) (acc : Str), PyData.strOk acc = true → (∀ t ∈ ts, PyData.strOk t = true) → PyData.strOk (PySem.textFrom k acc ts) = true
  | [], _, _, h, _ => h
  | t :: ts, k, acc, h, g => by
    unfold PySem.textFrom
    refine from_ok ts (k + 1) _ (strOk_app2 (strOk_app2 h ?_) (g t (by simp))) fun x hx => g x (by simp [hx])
    split <;> decide +kernel
theorem from_len : ∀ (ts : List Str) (k n : Nat) (acc : Str), (∀ t ∈ ts, t.length ≤ n) → (PySem.textFrom k acc ts).length ≤ acc.length + ts.length * (n + 2)
  | [], _, _, _, _ => by simp [PySem.textFrom]
  | t :: ts, k, n, acc, g => by
    unfold PySem.textFrom
    have h := from_len ts (k + 1) n (acc ++ (if k > 0 then ", " else "" : String) ++ t) fun x hx => g x (by simp [hx])
    have e : (acc ++ (if k > 0 then ", " else "" : String) ++ t).length ≤ acc.length + 2 + n := by
      rw [str_len_app, str_len_app]
      have h1 := g t (by simp)
      have h2 : ((if k > 0 then ", " else "" : String) : Str).length ≤ 2 := by split <;> decide
      omega
    rw [List.length_cons, Nat.succ_mul]
    omega
theorem shownAll_mem : ∀ {ps : List PyData} {t : Str}, t ∈ PyData.shownAll ps → ∃ p ∈ ps, t = p.shown
  | [], _, h => by simp [PyData.shownAll] at h
  | p :: ps, t, h => by
    rw [PyData.shownAll] at h
    rcases List.mem_cons.mp h with h | h
    · exact ⟨p, by simp, h⟩
    · obtain ⟨q, h1, h2⟩ := shownAll_mem h
      exact ⟨q, by simp [h1], h2⟩
theorem shownAll_len : ∀ ps : List PyData, (PyData.shownAll ps).length = ps.length
  | [] => rfl
  | p :: ps => by rw [PyData.shownAll, List.length_cons, List.length_cons, shownAll_len ps]
theorem depthAll_le {n : Nat} : ∀ {ps : List PyData}, (∀ p ∈ ps, p.depth ≤ n) → PyData.depthAll ps ≤ n
  | [], _ => by simp [PyData.depthAll]
  | p :: ps, h => by
    rw [PyData.depthAll]
    exact Nat.max_le.mpr ⟨h p (by simp), depthAll_le fun q hq => h q (by simp [hq])⟩
theorem showableAll_of : ∀ {ps : List PyData}, (∀ p ∈ ps, p.showable = true) → PyData.showableAll ps = true
  | [], _ => rfl
  | p :: ps, h => by
    rw [PyData.showableAll, h p (by simp), showableAll_of fun q hq => h q (by simp [hq])]
    rfl
theorem SmD.list {n : Nat} {ps : List PyData} (h : ∀ p ∈ ps, SmD n p ∧ p.depth ≤ 50) : SmD (2 + ps.length * (n + 2)) (.list ps) := by
  refine ⟨by rw [PyData.showable]; exact showableAll_of fun p hp => (h p hp).1.show_, ?_, ?_, ?_⟩
  · rw [PyData.depth]
    have := depthAll_le fun p hp => (h p hp).2
    omega
  · rw [PyData.shown]
    unfold PySem.listText
    rw [str_len_app]
    have := from_len (PyData.shownAll ps) 0 n "[" fun t ht => by
      obtain ⟨p, hp, rfl⟩ := shownAll_mem ht
      exact (h p hp).1.len
    rw [shownAll_len] at this
    have e1 : ("[" : Str).length = 1 := rfl
    have e2 : ("]" : Str).length = 1 := rfl
    omega
  · rw [PyData.shown]
    unfold PySem.listText
    refine strOk_app2 (from_ok _ _ _ (by decide +kernel) fun t ht => ?_) (by decide +kernel)
    obtain ⟨p, hp, rfl⟩ := shownAll_mem ht
    exact (h p hp).1.ok
theorem SmD.mono {n m : Nat} {p : PyData} (h : SmD n p) (k : n ≤ m) : SmD m p := ⟨h.show_, h.dep, Nat.le_trans h.len k, h.ok⟩
end Lw
namespace Lw
open PySem PySem.Spec PyProof.Rows L2
theorem walk_mut {K : PySem.W.Frag} {a : Addr} {n : Nat} : Walk (Itl K a) n (fun H => ∃ xs : List V, SqL K H a xs ∧ xs.length = n) (fun i H x H' => H' = H ∧ ∀ xs : List V, SqL K H a xs → xs[i]? = some x) :=
  ⟨fun i H hi ⟨xs, q, e⟩ => ⟨xs, xs[i]'(by omega), q, by simp [show i < xs.length by omega]⟩, fun H ⟨xs, q, e⟩ => ⟨xs, q, by omega⟩, fun i H x H' hi ⟨xs, q, e⟩ y => y⟩
section
variable {X : Cx} {U : Ev} {EX : XK} {a b c e : Expr} {es : List Expr} {pos pos' : Pos} {wa wb we : WE} {g : W2} {ta tb : WT} {ws wt : WS} {wr : WA} {tgt : Expr}
/-! ### [.. for x in xs if ..], xs a list that may change but does not meanwhile -/
def lcP (p : Addr) (full : List Dt) (g : WG) (tt : WT) (te : WE) (δ : Sl) : List Dt → List Dt → Mh → (List Dt → Mh → Prop) → Prop
  | [], acc, M, R => M p = some (.lst full) ∧ R acc M
  | d :: ds, acc, M, R => M p = some (.lst full) ∧ g d δ M fun δ1 M1 => tt δ1 M1 fun b M2 => match b with
    | true => te δ1 M2 fun y M3 => lcP p full g tt te δ ds (acc ++ [y]) M3 R
    | false => lcP p full g tt te δ ds acc M2 R
theorem lcP_at {p : Addr} {full : List Dt} {g : WG} {tt : WT} {te : WE} {δ : Sl} : ∀ {l acc : List Dt} {M : Mh} {R : List Dt → Mh → Prop}, lcP p full g tt te δ l acc M R → M p = some (.lst full)
  | [], _, _, _, h => h.1
  | _ :: _, _, _, _, h => h.1
def wLcP (we : WE) (own : List Nat) (g : WG) (tt : WT) (te : WE) : WE := fun δ M R => we δ M fun x M1 => match x with
  | .ptr p => match M1 p with
    | some (.lst l) => lcP p l g tt te (wipD δ own) l [] M1 fun acc M2 => R (.lst acc) M2
    | _ => False
  | .lst l => lcL g tt te (wipD δ own) l [] M1 fun acc M2 => R (.lst acc) M2
  | _ => False
theorem lcp_ok {wi : WE} {own : List Nat} {wg : WG} {tt : WT} {te : WE} {K : PySem.W.Frag} {σ : L2.St} {H1 : Hp} {Q : VK} {δ : Sl} {M1 : Mh} {p : Addr} {ls : List Dt} {R : List Dt → Mh → Prop} (E1 : DEnv U σ H1 δ M1) (w1 : lcP p ls wg tt te (wipD δ own) ls [] M1 R)
    (fin : ∀ D acc vs M' H', Go M1 H1 M' H' → MOk U H' M' → M' D = none → H' D = some (.lst vs) → Rps U H' vs acc → acc.length ≤ sizeLine → (M1 D ≠ none ∨ H1 D = none) → R acc M' → Q (.ref D) H') :
    ∀ D, H1 D = none → ∃ W : Nat → Nat → Hp → Prop, (∃ m, W 0 m (upd H1 D (.lst []))) ∧ ∀ i m H, W i m H →
      ((Itl K p).stop i H ∧ Q (.ref D) H) ∨ ((Itl K p).go i H ∧ ∃ Nx : Hp → Prop, (∀ H', Nx H' → ∃ m', m' < m ∧ W (i + 1) m' H') ∧ ∀ x H', (Itl K p).yld i H x H' → gWo U own wg x (wipe σ own) H' fun σ2 H2 => wipe σ2 own = wipe σ own ∧ bW U tt σ2 H2 fun b H3 =>
        if b = true then tW U te σ2 H3 fun y H4 => ∃ acc, H4 D = some (.lst acc) ∧ acc.length < sizeLine ∧ Nx (upd H4 D (.lst (acc ++ [y]))) else Nx H3) := by
  intro D hD
  have k := E1.mem
  have hDM : M1 D ≠ none ∨ H1 D = none := .inr hD
  have n1 : M1 D = none := k.nw hD
  have hls : ls.length ≤ sizeLine := by
    obtain ⟨vs, _, h2, _⟩ := k _ _ (lcP_at w1)
    exact h2
  refine lc_it (walk_mut (n := ls.length)) (fun i H' => ∃ acc vs M', H' D = some (.lst vs) ∧ M' D = none ∧ Rps U H' vs acc ∧ acc.length ≤ i ∧ DEnv U (wipe σ own) H' (wipD δ own) M' ∧ Go M1 H1 M' H' ∧ lcP p ls wg tt te (wipD δ own) (ls.drop i) acc M' R)
    ⟨[], [], M1, upd_same, n1, .nil, Nat.le_refl _, (E1.go (.new hD) (k.new hD)).wip own, .new hD, w1⟩ (fun i H' _ ⟨_, _, M', _, _, _, _, E', _, w'⟩ => ?_) ?_ ?_
  · obtain ⟨vs, h1, _, h3⟩ := E'.mem _ _ (lcP_at w')
    exact ⟨vs, SqL.of h1, h3.len⟩
  · rintro i x H2 H3 hi ⟨acc, vs, M2, h1, n2, r2, l2, E2, g2, w2⟩ ⟨rfl, y⟩
    have hd := List.getElem?_eq_getElem hi
    have hp := lcP_at w2
    rw [List.drop_eq_getElem_cons hi] at w2
    have r4 : Rp U H3 x ls[i] := by
      obtain ⟨ws, q1, _, q3⟩ := E2.mem _ _ hp
      obtain ⟨v, e1, e2⟩ := q3.get hd
      have := y ws (SqL.of q1)
      rw [e1] at this
      cases this
      exact e2
    have w2' := w2.2
    refine ⟨_, _, M2, _, E2, r4, w2', fun σ5 δ5 e5 E5 w5 => ⟨e5.trans wipe_wipe, δ5, M2, _, E5, w5, fun b M6 H6 g6 k6 w6 => ?_⟩⟩
    have h6 : H6 D = some (.lst vs) := g6.keep D _ h1 n2
    have n6 : M6 D = none := by
      rcases q : M6 D with _ | m
      · rfl
      · rcases g6.ext D (by rw [q]; exact Option.some_ne_none m) with z | z
        · exact absurd n2 z
        · rw [h1] at z; cases z
    have G6 := g2.trans g6
    cases b with
    | false =>
      exact ⟨acc, vs, M6, h6, n6, r2.k (g6.kp E2.mem), Nat.le_succ_of_le l2, E2.go g6 k6, G6, w6⟩
    | true =>
      refine ⟨δ5, M6, _, E5.go g6 k6, w6, fun v d M7 H7 g7 k7 r7 w7 => ?_⟩
      have h7 : H7 D = some (.lst vs) := g7.keep D _ h6 n6
      have n7 : M7 D = none := by
        rcases q : M7 D with _ | m
        · rfl
        · rcases g7.ext D (by rw [q]; exact Option.some_ne_none m) with z | z
          · exact absurd n6 z
          · rw [h6] at z; cases z
      have rr := (r2.k (g6.kp E2.mem)).k (g7.kp k6)
      have G7 := G6.trans g7
      refine ⟨vs, h7, by rw [rr.len]; exact Nat.lt_of_le_of_lt l2 (Nat.lt_of_lt_of_le hi hls), acc ++ [d], vs ++ [v], M7, upd_same, n7, ?_, ?_, ?_, ?_, w7⟩
      · exact (rr.app (.cons r7 .nil)).k (kpm_at h7)
      · rw [List.length_append]
        exact Nat.succ_le_succ l2
      · have E7 := (E2.go g6 k6).go g7 k7
        exact ⟨E7.len, fun i d h => by obtain ⟨v, a1, a2⟩ := E7.get i d h; exact ⟨v, a1, a2.k (kpm_at h7)⟩, k7.at h7 n7⟩
      · refine ⟨fun b o h n => ?_, G7.ext⟩
        rw [upd_ne (by rintro rfl; rw [hD] at h; cases h)]
        exact G7.keep b o h n
  · rintro H2 ⟨acc, vs, M2, h1, n2, r2, l2, E2, g2, w2⟩
    rw [List.drop_length] at w2
    exact fin D acc vs M2 H2 g2 E2.mem n2 h1 r2 (Nat.le_trans l2 hls) hDM w2.2
variable {own : List (Str × Nat)} {elt iter : Expr} {ifs : List Expr} {scope : Scope} {wg : WG} {tt : WT} {te : WE}
theorem d_lcP (hK : X.K = U.K) (hc : X.calm = true) (hN : X.N.Nodup) (hi : DE X U iter we) (ok : BlkOk X.N X.env.scope scope own)
    (hg : ∀ (s : Shared) (H : Hp) (C : Addr) (cl : List (Str × Addr)) (fp : List Addr), DGo (X.blk s H scope (compEnvC scope cl C X.env) fp) U (own.map (·.2)) tgt wg) (ht : ∀ (s : Shared) (H : Hp) (C : Addr) (cl : List (Str × Addr)) (fp : List Addr), DTs (X.blk s H scope (compEnvC scope cl C X.env) fp) U ifs tt)
    (he : ∀ (s : Shared) (H : Hp) (C : Addr) (cl : List (Str × Addr)) (fp : List Addr), DE (X.blk s H scope (compEnvC scope cl C X.env) fp) U elt te) (hs : ∀ x, foldedSetIterable iter X.env x = pure x := by intro _; rfl) : DE X U (.ListComp elt [⟨tgt, iter, ifs, 0⟩] scope pos) (wLcP we (own.map (·.2)) wg tt te) :=
  PE.mono (pe_lock (pe_lc hc hN (pi_list hi) ok hg ht he hs)) fun σ H Q ⟨δ, M, R, E, w, l⟩ => by
    refine ⟨δ, M, _, E, w, fun v d M1 H1 g k r w1 => ?_⟩
    have out : ∀ D acc vs M' H', Go M1 H1 M' H' → MOk U H' M' → M' D = none → H' D = some (.lst vs) → Rps U H' vs acc → acc.length ≤ sizeLine → (M1 D ≠ none ∨ H1 D = none) → R (.lst acc) M' →
        ∃ p u, V.ref D = .ref p ∧ H' p = some u ∧ Mut (some u) ∧ ∀ od, Q (V.ref D) (upd H' p (.frz od u)) := fun D acc vs M' H' g2 k n h r hl hDM w' => by
      refine ⟨D, _, rfl, h, trivial, fun od => ?_⟩
      refine l _ _ M' _ (g.trans ?_) (k.at h n) (.lst upd_same hl (r.k (kpm_at h))) w'
      refine ⟨fun b o hb nb => ?_, g2.ext⟩
      rw [upd_ne]
      · exact g2.keep b o hb nb
      · rintro rfl
        rcases hDM with z | z
        · exact z nb
        · rw [z] at hb; cases hb
    split at w1
    · rename_i p
      cases r
      split at w1
      · rename_i ls q
        obtain ⟨vs, h1, _, h3⟩ := k _ _ q
        have z := lcp_ok (wi := we) (K := X.K) (Q := fun v H' => ∃ p u, v = .ref p ∧ H' p = some u ∧ Mut (some u) ∧ ∀ od, Q v (upd H' p (.frz od u))) (E.go g k) w1 fun D acc vs M' H' g2 k n h r hl hDM w' => out D acc vs M' H' g2 k n h r hl hDM w'
        exact ⟨p, rfl, ⟨vs, SqL.of h1⟩, z⟩
      · exact w1.elim
    · rename_i ls
      cases r with | @lst aa vs _ o a b c =>
      refine ⟨aa, rfl, ⟨vs, .inl (.inr ⟨o, a⟩)⟩, ?_⟩
      obtain ⟨δ', M', R', E', w', h'⟩ := lc_ok (H := H1) (wi := fun δ M R => R ls M) (own := own.map (·.2)) (wg := wg) (tt := tt) (te := te) (Q := fun v H' => ∃ p u, v = .ref p ∧ H' p = some u ∧ Mut (some u) ∧ ∀ od, Q v (upd H' p (.frz od u))) (E.go g k) ⟨b, w1⟩ fun D acc vs M' H' g2 k n h r hl hDM w' => out D acc vs M' H' g2 k n h r hl hDM w'
      have z := h' (Itl U.K aa) ls M' H1 .refl E'.mem (itd_seq walk_list (fun H' kp => .inl (.inr ⟨_, kp _ _ a trivial⟩)) c) w'
      rw [← hK] at z
      exact z
    · exact w1.elim
end
end Lw
namespace Lw
open PySem PySem.Spec PyProof.Rows L2
section
variable {X : Cx} {U : Ev} {EX : XK} {a b c e : Expr} {es : List Expr} {pos pos' : Pos} {wa wb we : WE} {wr : WA}
/-! a slice of a list: a new list that may change -/
def wSlM (we : WE) (wl wh : WO) : WE := fun δ M R => we δ M fun x M1 => wl δ M1 fun lo M2 => wh δ M2 fun hi M3 => match sql M3 x with
  | some l => ∀ p, M3 p = none → R (.ptr p) (updM M3 p (.lst (cutD l lo hi)))
  | none => False
variable {lo hi : Option Expr} {wl wh : WO} {p2 : Pos}
theorem d_slM (hK : X.K = U.K) (he : DE X U e we) (hl : DO X U lo wl) (hu : DO X U hi wh) : DE X U (.Subscript e (.Slice lo hi none p2) pos) (wSlM we wl wh) :=
  PE.mono (pe_slice sl_list he hl hu) fun _ _ _ ⟨δ, M, R, E, w, l⟩ => by
    refine ⟨δ, M, _, E, w, fun x d M1 H1 g1 k1 r1 w1 => ⟨δ, M1, _, E.go g1 k1, w1, fun lo M2 H2 g2 k2 w2 => ⟨δ, M2, _, E.go (g1.trans g2) k2, w2, fun hi M3 H3 g3 k3 w3 => ?_⟩⟩⟩
    have r3 := r1.k ((g2.trans g3).kp k1)
    have g := (g1.trans g2).trans g3
    rw [hK]
    split at w3
    · rename_i ls q
      obtain ⟨p, vs, rfl, hs, rs, hl⟩ := sql_ok k3 r3 q
      refine ⟨_, _, rfl, hs, fun q hq => ?_⟩
      have hz : (cutD ls lo hi).length ≤ sizeLine := Nat.le_trans cutD_len hl
      exact l _ _ _ _ (g.trans (.newM hq)) (k3.put (m := .lst (cutD ls lo hi)) (.inr hq) ⟨_, upd_same, hz, (cut_rps (lo := lo) (hi := hi) rs).k fun b o e _ => same_upd hq b o e⟩) .ptr (w3 q (k3.nw hq))
    · exact w3.elim
/-! list(range(n)) -/
def wRngL (we : WE) : WE := fun δ M R => we δ M fun x M1 => match x with
  | .int n => 0 ≤ n ∧ n ≤ 1000 ∧ R (.lst (rng 0 n.toNat)) M1
  | _ => False
theorem rng_rps {H : Hp} (n : Int) : Rps U H (rgV 0 n) (rng 0 n.toNat) := by
  unfold rgV rng
  rw [Int.sub_zero]
  generalize List.range n.toNat = l
  induction l with
  | nil => exact .nil
  | cons i l ih => exact .cons .int ih
theorem d_listR {p q : Pos} (hK : X.K = U.K) (hc : X.calm = true) (hg : Gl X "list") (hm : X.mg "list" = none) (hg2 : Gl X "range") (hm2 : X.mg "range" = none) (ha : DE X U a wa)
    (na : starEach [a] X.env = (false, eval a X.env) :: starEach [] X.env := by rfl) (na2 : starEach [.Call (.Name "range" q) [a] [] pos'] X.env = (false, eval (.Call (.Name "range" q) [a] [] pos') X.env) :: starEach [] X.env := by rfl) :
    DE X U (.Call (.Name "list" p) [.Call (.Name "range" q) [a] [] pos'] [] pos) (wRngL wa) := PE.mono (pe_lock (pe_listRg hc hg hm (prg_1 hg2 hm2 ha na) na2)) fun σ H Q ⟨δ, M, R, E, w, l⟩ => by
  refine ⟨δ, M, _, E, w, fun v d M1 H1 g k r w1 => ?_⟩
  split at w1
  · rename_i n
    cases r
    refine ⟨n, rfl, .of_le (by omega) (by omega) (by omega) w1.1, fun q hq => ⟨q, _, rfl, upd_same, trivial, fun od => ?_⟩⟩
    obtain ⟨g4, k4, r4⟩ := lock_new k hq (l := rng 0 n.toNat) (by
      unfold rng
      rw [List.length_map, List.length_range]
      exact szle (by omega)) (rng_rps n) od
    exact l _ _ M1 _ (g.trans g4) k4 r4 w1.2.2
  · exact w1.elim
/-! 10 ** 30 -/
def gPow : W2 := fun x y M R => match x, y with
  | .int i, .int j => CPowW i j ∧ R (.int (i ^ j.toNat)) M
  | _, _ => False
theorem op_gPow : OpR X (binaryOp .Pow) (oW U gPow) := OpR.mono op_powW fun x y H Q ⟨a, b, M, R, k, ra, rb, w, l⟩ => by
  unfold gPow at w
  split at w
  · cases ra; cases rb
    exact ⟨_, _, rfl, rfl, w.1, l _ _ M H .refl k .int w.2⟩
  · exact w.elim
theorem rps_perm {H : Hp} : ∀ {ys vs : List V}, ys.Perm vs → ∀ {l : List Dt}, Rps U H vs l → ∃ l' : List Dt, Rps U H ys l' ∧ l'.Perm l := by
  intro ys vs h
  induction h with
  | nil => exact fun r => ⟨_, r, .refl _⟩
  | cons x _ ih =>
    intro l r
    cases r with | cons a b =>
    obtain ⟨l', h1, h2⟩ := ih b
    exact ⟨_ :: l', .cons a h1, h2.cons _⟩
  | swap x y l0 =>
    intro l r
    cases r with | cons a b =>
    cases b with | cons b c =>
    exact ⟨_, .cons b (.cons a c), .swap ..⟩
  | trans _ _ ih1 ih2 =>
    intro l r
    obtain ⟨l1, h1, h2⟩ := ih2 r
    obtain ⟨l2, h3, h4⟩ := ih1 h1
    exact ⟨l2, h3, h4.trans h2⟩
end
section
variable {X : Cx} {CX : CXT} {k : Nat} {ps : List Str} {U : Ev} {S : DSpec} {x : Str} {p pos : Pos} {e : Expr} {es : List Expr} {wr : WA}
/-- f(..), f called where no repr is under way -/
theorem d_g {E : XK} (D : DefG X.prog X.w X.K X.mg X.base CX k x ps [] (spD U S)) (gd : X.A.guards = some []) (hr : Room k X.A) (hx : Passes CX X E) (ha : DA X U (e :: es) wr) (hg : Gl X x := by rfl)
    (hdb : (x == ("__debug__" : Str)) = false := by decide) (he : starEach (e :: es) X.env = (false, eval e X.env) :: starEach es X.env := by rfl) (hpl : (backTo pos (starEach es X.env)).any (·.1) = false := by rfl) :
    DE X U (.Call (.Name x p) (e :: es) [] pos) (wFn S wr) := PE.mono (pe_g (E := E) D gd hr hx ha hg hdb he hpl) fun _ _ _ h => fn_ok h
end
end Lw
namespace Lw
open PySem PySem.Spec PyProof.Rows L2
/-- a thing of a built-in kind: its type is looked up -/
theorem ky_looks {X : Cx} {U : Ev} {pins : List (Addr × Obj)} {σ : L2.St} {H : Hp} {s : Shared} {M : Mh} {v : V} {u : Value} {d : Dt} {k : Kd} (I : L2.Inv X pins σ H s) (hK : X.K = U.K) (km : MOk U H M) (r : Rp U H v d) (ru : L2.RelV v u) (h : ky M d = some (.b k)) :
    PySem.W.Looks (model X.prog X.w) s.heap (typeOf u) (.type k.nm) := by
  have refs : ∀ {a : Addr} {o : Obj} {n : String}, s.heap.get? a = some o → o.cls = .type n → PySem.W.Looks (model X.prog X.w) s.heap (typeOf (.ref a)) (.type n) := fun h1 h2 A Q E s' k' q => wpAny_typeOf (s := s') ⟨_, k' _ _ h1, h2⟩ q
  unfold ky at h
  split at h
  · cases r; cases (show u = Value.none from ru); cases h; exact fun A Q E s' _ q => wpAny_typeOf (PySem.typeIs_none s') q
  · rename_i b
    cases r; cases (show u = Value.bool b from ru); cases h; exact fun A Q E s' _ q => wpAny_typeOf (PySem.typeIs_bool s' b) q
  · rename_i i
    cases r; obtain ⟨t, rfl⟩ := (show ∃ t, u = Value.int i t from ru); cases h; exact fun A Q E s' _ q => wpAny_typeOf (PySem.typeIs_int s' i t) q
  · rename_i x
    cases r; obtain ⟨t, rfl⟩ := (show ∃ t, u = Value.str x t from ru); cases h; exact fun A Q E s' _ q => wpAny_typeOf (PySem.typeIs_str s' x t) q
  · cases r with | @tup a vs _ a1 a2 a3 =>
    cases (show u = Value.ref a from ru)
    cases h
    rw [← hK] at a1
    obtain ⟨its, rv, ⟨o, ho, hc, n, hd⟩, _⟩ := I.tuple a1
    exact refs ho hc
  · cases r with | @lst a vs _ o a1 a2 a3 =>
    cases (show u = Value.ref a from ru)
    cases h
    obtain ⟨_, its, n, rv, ho⟩ := Rd.ok (.inr ⟨_, a1⟩) I.hok
    exact refs ho rfl
  · cases h
  · rename_i a
    cases r
    cases (show u = Value.ref a from ru)
    split at h
    · rename_i q
      cases h
      obtain ⟨vs, h1, _⟩ := km _ _ q
      obtain ⟨_, its, n, rv, ho⟩ := Rd.ok (.inl h1) I.hok
      exact refs ho rfl
    · cases h
    · rename_i q
      cases h
      have h1 := (km _ _ q).2.2
      obtain ⟨_, h2, vs, rk, o, es, ep, g1, g2, g3, g4, g5, g6⟩ := (show ObjOk X.prog X.w H s.heap a (.dK []) from I.hok a _ h1)
      exact refs g1 g2.1
    · cases h
  · cases h
end Lw
namespace Lw
open PySem PySem.Spec PyProof.Rows L2
/-! ### rows that are made of a row -/
/-- the form of a stage, wherever it stands -/
def formS (s : Sx) : Prop := okS 1 s
def FormR (r : List Sx) : Prop := ∀ s ∈ r, formS s
theorem form_of_okS {d : Int} : ∀ {s : Sx}, okS d s → formS s
  | .nm _ _, h => h
  | .nu _ _, h => h
  | .flat, _ => by show (0 : Int) < 1; decide
  | .zip _ _, h => h
theorem form_of_okR : ∀ {r : List Sx} {d : Int}, okR d r → FormR r
  | [], _, _ => fun _ h => nomatch h
  | s :: r, d, h => by
    rw [okR] at h
    intro t ht
    rcases List.mem_cons.mp ht with e | e
    · subst e; exact form_of_okS h.1
    · exact form_of_okR h.2 t e
theorem okS_of_form {d : Int} : ∀ {s : Sx}, formS s → (s.isFlat = true → 0 < d) → okS d s
  | .nm _ _, h, _ => h
  | .nu _ _, h, _ => h
  | .flat, _, g => by rw [okS]; exact g rfl
  | .zip _ _, h, _ => h
theorem hgS_pos {d : Int} {s : Sx} (h : okS d s) (hd : 0 ≤ d) : 0 ≤ hgS d s := by
  have q := (hgR_pos [s] d hd (by rw [okR, okR]; exact ⟨h, trivial⟩)).1
  rw [hgR, hgR] at q
  exact q
/-- the position of the first flat that finds nothing -/
def fb : Int → Nat → List Sx → Option Nat
  | _, _, [] => none
  | d, n, s :: r => if s.isFlat = true ∧ d = 0 then some n else fb (hgS d s) (n + 1) r
theorem fb_none : ∀ {r : List Sx} {d : Int} {n : Nat}, FormR r → 0 ≤ d → fb d n r = none → okR d r
  | [], _, _, _, _, _ => by rw [okR]; trivial
  | s :: r, d, n, h, hd, e => by
    rw [fb] at e
    split at e
    · cases e
    · rename_i g
      have o : okS d s := okS_of_form (h s (by simp)) fun q => by
        have : ¬ d = 0 := fun z => g ⟨q, z⟩
        omega
      rw [okR]
      exact ⟨o, fb_none (fun t ht => h t (by simp [ht])) (hgS_pos o hd) e⟩
theorem fb_some : ∀ {r : List Sx} {d : Int} {n m : Nat}, FormR r → 0 ≤ d → fb d n r = some m → ∃ r0 r1, r = r0 ++ .flat :: r1 ∧ okR d r0 ∧ hgR d r0 = 0 ∧ m = n + r0.length
  | [], _, _, _, _, _, e => nomatch e
  | s :: r, d, n, m, h, hd, e => by
    rw [fb] at e
    split at e
    · rename_i g
      cases e
      refine ⟨[], r, ?_, by rw [okR]; trivial, by rw [hgR]; exact g.2, rfl⟩
      cases s with
      | flat => rfl
      | nm _ _ => exact absurd g.1 (by simp [Sx.isFlat])
      | nu _ _ => exact absurd g.1 (by simp [Sx.isFlat])
      | zip _ _ => exact absurd g.1 (by simp [Sx.isFlat])
    · rename_i g
      have o : okS d s := okS_of_form (h s (by simp)) fun q => by
        have : ¬ d = 0 := fun z => g ⟨q, z⟩
        omega
      obtain ⟨r0, r1, rfl, h1, h2, h3⟩ := fb_some (fun t ht => h t (by simp [ht])) (hgS_pos o hd) e
      exact ⟨s :: r0, r1, rfl, by rw [okR]; exact ⟨o, h1⟩, by rw [hgR]; exact h2, by rw [h3, List.length_cons]; omega⟩
/-- .. of a row that stands, with one stage more -/
theorem fb_ok : ∀ {r : List Sx} {d : Int} {n : Nat}, okR d r → fb d n r = none
  | [], _, _, _ => rfl
  | s :: r, d, n, h => by
    rw [okR] at h
    rw [fb, if_neg]
    · exact fb_ok h.2
    · rintro ⟨q, rfl⟩
      cases s with
      | flat => have := h.1; rw [okS] at this; omega
      | _ => simp [Sx.isFlat] at q
theorem fb_snoc : ∀ {r : List Sx} {d : Int} {n : Nat} {s : Sx}, okR d r → fb d n (r ++ [s]) = if s.isFlat = true ∧ hgR d r = 0 then some (n + r.length) else none
  | [], d, n, s, _ => by
    rw [List.nil_append, fb, hgR]
    rfl
  | t :: r, d, n, s, h => by
    rw [okR] at h
    rw [List.cons_append, fb, if_neg, fb_snoc h.2, hgR, List.length_cons]
    · have e : n + 1 + r.length = n + (r.length + 1) := by omega
      rw [e]
    · rintro ⟨q, rfl⟩
      cases t with
      | flat => have := h.1; rw [okS] at this; omega
      | _ => simp [Sx.isFlat] at q
theorem dpR_map : ∀ r : List Sx, dpR r = r.map dpS
  | [] => by rw [dpR]; rfl
  | s :: r => by rw [dpR, dpR_map r]; rfl
theorem dgR_map : ∀ r : List Sx, dgR r = r.map dgS
  | [] => by rw [dgR]; rfl
  | s :: r => by rw [dgR, dgR_map r]; rfl
theorem lvR_flat : ∀ r : List Sx, lvR r = r.flatMap lvS
  | [] => by rw [lvR]; rfl
  | s :: r => by rw [lvR, lvR_flat r]; rfl
/-- those at the positions that P says -/
def keepL {α : Type} (P : Nat → Bool) : Nat → List α → List α
  | _, [] => []
  | n, a :: l => if P n = true then a :: keepL P (n + 1) l else keepL P (n + 1) l
theorem keepL_map {α β : Type} (P : Nat → Bool) (f : α → β) : ∀ (l : List α) (n : Nat), keepL P n (l.map f) = (keepL P n l).map f
  | [], _ => rfl
  | a :: l, n => by
    rw [List.map_cons, keepL, keepL, keepL_map P f l]
    split <;> rfl
theorem keepL_sub {α : Type} (P : Nat → Bool) : ∀ (l : List α) (n : Nat), (keepL P n l).Sublist l
  | [], _ => .slnil
  | a :: l, n => by
    rw [keepL]
    split
    · exact (keepL_sub P l _).cons_cons a
    · exact (keepL_sub P l _).cons a
/-- the i-th and the next one exchanged -/
def exL {α : Type} (i : Nat) (l : List α) : List α := l.take i ++ ((l.drop (i + 1)).take 1 ++ (l.drop i).take 1) ++ l.drop (i + 2)
theorem exL_map {α β : Type} (f : α → β) (i : Nat) (l : List α) : exL i (l.map f) = (exL i l).map f := by
  unfold exL
  simp [List.map_take, List.map_drop]
theorem exL_eq {α : Type} {i : Nat} {l : List α} (h : i + 1 < l.length) : exL i l = l.take i ++ [l[i + 1], l[i]] ++ l.drop (i + 2) := by
  unfold exL
  rw [List.drop_eq_getElem_cons (show i + 1 < l.length from h), List.drop_eq_getElem_cons (show i < l.length by omega)]
  rfl
theorem exL_perm {α : Type} {i : Nat} {l : List α} (h : i + 1 < l.length) : (exL i l).Perm l := by
  rw [exL_eq h]
  have e : l = l.take i ++ [l[i], l[i + 1]] ++ l.drop (i + 2) := by
    have h1 := (List.take_append_drop i l).symm
    rw [List.drop_eq_getElem_cons (show i < l.length by omega), List.drop_eq_getElem_cons (show i + 1 < l.length from h)] at h1
    rw [List.append_assoc]
    exact h1
  conv => rhs; rw [e]
  exact (List.Perm.append_left _ (.swap ..)).append_right _
theorem sub_flat {α β : Type} (f : α → List β) {l m : List α} (h : l.Sublist m) : (l.flatMap f).Sublist (m.flatMap f) := by
  induction h with
  | slnil => exact .slnil
  | cons a _ ih =>
    rw [List.flatMap_cons]
    exact ih.trans (List.sublist_append_right _ _)
  | cons_cons a _ ih =>
    rw [List.flatMap_cons, List.flatMap_cons]
    exact (List.Sublist.refl _).append ih
/-- a row that may be a program's if its flats find what they want -/
structure RowOk (x : Str) (r : List Sx) : Prop where
  form : FormR r
  len : r.length ≤ 6
  ls : LsOk (x :: lvR r)
theorem RowOk.plan {x : Str} {r : List Sx} (h : RowOk x r) (e : fb 0 0 r = none) : PlanOk x r := ⟨fb_none h.form (by decide) e, h.len, h.ls⟩
theorem RowOk.of {x : Str} {r : List Sx} (h : PlanOk x r) : RowOk x r := ⟨form_of_okR h.1, h.2.1, h.2.2⟩
theorem RowOk.sub {x : Str} {r r' : List Sx} (h : RowOk x r) (s : r'.Sublist r) : RowOk x r' := by
  refine ⟨fun t ht => h.form t (s.subset ht), Nat.le_trans s.length_le h.len, h.ls.sub ?_⟩
  rw [lvR_flat, lvR_flat]
  exact (sub_flat lvS s).cons_cons x
theorem RowOk.perm {x : Str} {r r' : List Sx} (h : RowOk x r) (s : r'.Perm r) : RowOk x r' := by
  refine ⟨fun t ht => h.form t (s.subset ht), by rw [s.length_eq]; exact h.len, h.ls.perm ?_⟩
  rw [lvR_flat, lvR_flat]
  exact ((s.flatMap_right lvS).symm).cons x
end Lw
namespace K02
open PySem PySem.Spec PyProof.Rows L2 Lw
local macro_rules | `(tactic| walk_at "rd") => `(tactic| repeat (first | refine ⟨_, rfl, ?_⟩ | refine ⟨_, _, rfl, rfl, ?_⟩))
def top (i : Nat) : Stmt := PySem.Challenge.pw_pulledonce_k02_programs_changed_and_comp.main.body.getD i (.Pass ⟨0, 0, 0, 0⟩)
abbrev sBadSource_init : Stmt := inClass (top 2) 0
abbrev sBadStages_init : Stmt := inClass (top 3) 0
abbrev sBadStage_init : Stmt := inClass (top 4) 0
abbrev sBadPositions_init : Stmt := inClass (top 5) 0
abbrev sis_name : Stmt := top 13
abbrev sis_source : Stmt := top 14
abbrev sis_number : Stmt := top 15
abbrev sis_stage : Stmt := top 16
abbrev sdepth_behind : Stmt := top 17
abbrev sProgram_init : Stmt := inClass (top 18) 0
abbrev sProgram_can_stand : Stmt := inClass (top 18) 1
abbrev sProgram_source : Stmt := inClass (top 18) 2
abbrev sProgram_stages : Stmt := inClass (top 18) 3
abbrev sProgram_sources : Stmt := inClass (top 18) 4
abbrev sProgram_depth : Stmt := inClass (top 18) 5
abbrev sProgram_eq : Stmt := inClass (top 18) 6
abbrev sProgram_then : Stmt := inClass (top 18) 7
abbrev sProgram_without : Stmt := inClass (top 18) 8
abbrev sProgram_exchanged : Stmt := inClass (top 18) 9
abbrev sis_position : Stmt := top 19
abbrev sL_source : Stmt := top 21
abbrev sL_draw : Stmt := top 22
abbrev sL_pick : Stmt := top 23
abbrev sL_mixed : Stmt := top 24
abbrev sL_height : Stmt := top 25
abbrev sL_depth : Stmt := top 26
abbrev sL_name : Stmt := top 27
abbrev sL_stage : Stmt := top 28
abbrev sL_plan : Stmt := top 29
abbrev sL_program : Stmt := top 30
abbrev sL_first_bad : Stmt := top 31
abbrev sL_told : Stmt := top 32
abbrev sL_is_place : Stmt := top 33
abbrev sL_due : Stmt := top 34
abbrev sL_asked_right : Stmt := top 35
abbrev sL_odd_right : Stmt := top 36
abbrev sL_compared : Stmt := top 37
abbrev slaw : Stmt := top 38
abbrev FnP (K : PySem.W.Frag) (x q : Str) (st : Stmt) (f : Addr) (fd : FuncData) : Prop := FunD K x q (defArgs st) (defBody st) (defScope st) [] [] f fd
structure Tx (K : PySem.W.Frag) (mg : Str → Option Value) : Prop where
  z_len : mg "len" = none
  z_int : mg "int" = none
  z_str : mg "str" = none
  z_bool : mg "bool" = none
  z_isinstance : mg "isinstance" = none
  z_enumerate : mg "enumerate" = none
  z_range : mg "range" = none
  z_list : mg "list" = none
  z_tuple : mg "tuple" = none
  z_all : mg "all" = none
  z_any : mg "any" = none
  z_max : mg "max" = none
  z_min : mg "min" = none
  z_ValueError : mg "ValueError" = none
  g_LETTERS : ∃ t, mg "LETTERS" = some (.str letters t)
  g_GREATEST : ∃ t, mg "GREATEST" = some (.int 4 t)
  g_MOST_STAGES : ∃ t, mg "MOST_STAGES" = some (.int 6 t)
  g_SOURCES : mg "SOURCES" = some (.ref (He.ga K "SOURCES"))
  t_SOURCES : ∀ H, SqT K H (He.ga K "SOURCES") (sources.map V.str)
  g_NAMED : mg "NAMED" = some (.ref (He.ga K "NAMED"))
  t_NAMED : ∀ H, SqT K H (He.ga K "NAMED") (named.map V.str)
  g_NUMBERED : mg "NUMBERED" = some (.ref (He.ga K "NUMBERED"))
  t_NUMBERED : ∀ H, SqT K H (He.ga K "NUMBERED") (counted.map V.str)
structure Ty (P : Program) (w : World) (K : PySem.W.Frag) (mg : Str → Option Value) (base : Heap) : Prop extends Tx K mg where
  pc : PcF K (He.ga K "Program")
  g_Program : mg "Program" = some (.ref (He.ga K "Program"))
  e_BadSource : ErrOk P w K mg base "BadSource" "value"
  e_BadStages : ErrOk P w K mg base "BadStages" "value"
  e_BadStage : ErrOk P w K mg base "BadStage" "position"
  e_BadPositions : ErrOk P w K mg base "BadPositions" "value"
/-! ### programs.py -/
section
variable {P : Program} {w : World} {K : PySem.W.Frag} {mg : Str → Option Value} {base : Heap} {f : Addr} {fd : FuncData}
def spName (K : PySem.W.Frag) : Sp := fun vs H Q _ => ∃ v, vs = [v] ∧ ((∃ x : Str, v = .str x ∧ x.length ≤ 1000 ∧ ∀ H', Same H H' → Q (.bl (nameB x)) H') ∨
  ∃ t, TyX K H v t ∧ PySem.W.kitOne K t (.type "str") = some false ∧ ∀ H', Same H H' → Q (.bl false) H')
theorem scis_name : FnScope ["value", "letter"] ["value"] (defScope sis_name) := ⟨rfl, rfl, rfl, by decide +kernel, rfl, by decide +kernel, by decide +kernel⟩
theorem d_is_name (F : FnP K "is_name" "is_name" sis_name f fd) (gm : mg "is_name" = some (.ref f)) (T : Tx K mg) : DefOk P w K mg base CX0 1 "is_name" ["value"] [] (spName K) := by
  obtain ⟨tL, gLET⟩ := T.g_LETTERS
  refine ⟨f, fd, [], F.ok scis_name (fun vs H Q E h => ?_) (fun cdv A outer s H vs Q E hr h => ?_), gm, F.kp, F.bindsN fun _ _ _ _ _ _ us hl => match us, hl with | [_], _ => rfl, .nil⟩
  · obtain ⟨_, rfl, _⟩ := h
    rfl
  · obtain ⟨v, rfl, h⟩ := h
    refine ⟨_, PSs.nox (pss_one (ps_ret (pe_and (pe_callB call_isi (by rfl) T.z_isinstance (by decide +kernel) (pa_cons (pv 0) (pa_cons (pe_bltn (v := .ty "str") (by rfl) T.z_str (by decide +kernel) rfl) pa_nil))) (pe_and (pe_chain op_le op_le pe_int (pe_callB call_len (by rfl) T.z_len PySem.boot_len (pa_cons (pv 0) pa_nil)) pe_int) (pe_one (pe_callB (cr_all rfl) (by rfl) T.z_all (by decide +kernel) (pa_cons (pe_lc (own := [("letter", 1)]) (g := gName 1) (tt := tYes) (by rfl) scis_name.nd (pi_str (pv 0)) (blkOk_by (own := [("letter", 1)]) (N := ["value", "letter"]) (sc := defScope sis_name) (by decide +kernel)) (fun _ _ _ _ _ => pg_name (i := 1) scis_name.nd rfl (Or.inl rfl)) (fun _ _ _ _ _ => pts_nil) (fun _ _ _ _ _ => (pe_cmpR op_in_sign (pv 1) (pe_glob (v := .str letters) (by rfl) gLET ⟨_, rfl⟩) (by rfl)))) pa_nil))))))), ?_⟩
    rcases h with ⟨x, rfl, hx, k⟩ | ⟨t, ht, kt, k⟩
    · refine ⟨_, rfl, _, _, _, _, true, rfl, .ty _, .base (.str x), kit_ty (by decide +kernel), _, rfl, ?_⟩
      refine ⟨_, rfl, _, _, rfl, ⟨szle hx, rfl⟩, _, _, rfl, rfl, _, rfl, ?_⟩
      unfold nameB at k
      by_cases h1 : (1 : Int) ≤ (x.length : Int)
      · rw [decide_eq_true h1]
        rw [decide_eq_true (show 1 ≤ x.length by omega), Bool.true_and] at k
        refine ⟨_, _, rfl, rfl, _, rfl, ?_⟩
        by_cases h2 : (x.length : Int) ≤ 8
        · rw [decide_eq_true h2]
          rw [decide_eq_true (show x.length ≤ 8 by omega), Bool.true_and] at k
          refine ⟨_, rfl, _, rfl, fun D hD => ?_⟩
          refine lc_one walk_str 1 (fun i => V.bl (decide (x.cps.toList.getD i 0 ∈ letters.cps.toList))) (by show x.cps.size ≤ 16000000; have : x.cps.size = x.length := rfl; omega) (fun _ => trivial) (fun _ => rfl) (fun _ _ _ _ y => y.1) ?_ ?_
          · rintro i y l R hi ⟨_, c, hc, rfl⟩ hR
            refine ⟨_, rfl, c, letters, rfl, rfl, ?_⟩
            have e : x.cps.toList.getD i 0 = c := by
              rw [List.getD_eq_getElem?_getD, Array.getElem?_toList, hc]
              rfl
            rw [e] at hR
            exact hR
          · refine ⟨D, (List.range x.cps.size).map fun i => decide (x.cps.toList.getD i 0 ∈ letters.cps.toList), rfl, SqL.of ?_, ?_⟩
            · rw [upd_same, List.map_map]
              rfl
            · have e : ((List.range x.cps.size).map fun i => decide (x.cps.toList.getD i 0 ∈ letters.cps.toList)).all id = x.cps.toList.all fun c => decide (c ∈ letters.cps.toList) := by
                rw [List.all_map]
                have key : ∀ l : List Nat, ((List.range l.length).all ((id : Bool → Bool) ∘ fun i => decide (l.getD i 0 ∈ letters.cps.toList))) = l.all fun c => decide (c ∈ letters.cps.toList) := by
                  intro l
                  rw [Bool.eq_iff_iff, List.all_eq_true, List.all_eq_true]
                  constructor
                  · intro h c hc
                    obtain ⟨i, hi, rfl⟩ := List.mem_iff_getElem.mp hc
                    have q := h i (List.mem_range.mpr hi)
                    simpa [List.getD_eq_getElem?_getD, List.getElem?_eq_getElem hi] using q
                  · intro h i hi
                    have hi' := List.mem_range.mp hi
                    have q := h l[i] (List.getElem_mem hi')
                    simpa [List.getD_eq_getElem?_getD, List.getElem?_eq_getElem hi'] using q
                exact key x.cps.toList
              rw [e]
              exact k _ (same_upd hD)
        · rw [decide_eq_false h2]
          rw [decide_eq_false (show ¬ x.length ≤ 8 by omega), Bool.false_and] at k
          exact k _ (Same.refl _)
      · rw [decide_eq_false h1]
        rw [decide_eq_false (show ¬ 1 ≤ x.length by omega), Bool.false_and] at k
        exact ⟨_, rfl, k _ (Same.refl _)⟩
    · exact ⟨_, rfl, _, _, _, _, false, rfl, .ty _, ht, kt, _, rfl, k _ (Same.refl _)⟩
def spSource (K : PySem.W.Frag) : Sp := fun vs H Q _ => ∃ v, vs = [v] ∧ ((∃ x : Str, v = .str x ∧ Q (.bl (decide (x ∈ sources))) H) ∨ ∃ t, TyX K H v t ∧ PySem.W.kitOne K t (.type "str") = some false ∧ Q (.bl false) H)
theorem scis_source : FnScope ["value"] ["value"] (defScope sis_source) := ⟨rfl, rfl, rfl, by decide +kernel, rfl, by decide +kernel, by decide +kernel⟩
theorem d_is_source (F : FnP K "is_source" "is_source" sis_source f fd) (gm : mg "is_source" = some (.ref f)) (T : Tx K mg) : DefOk P w K mg base CX0 1 "is_source" ["value"] [] (spSource K) := by
  refine ⟨f, fd, [], F.ok scis_source (fun vs H Q E h => ?_) (fun cdv A outer s H vs Q E hr h => ?_), gm, F.kp, F.bindsN fun _ _ _ _ _ _ us hl => match us, hl with | [_], _ => rfl, .nil⟩
  · obtain ⟨_, rfl, _⟩ := h
    rfl
  · obtain ⟨v, rfl, h⟩ := h
    refine ⟨_, PSs.nox (pss_one (ps_ret (pe_and (pe_callB call_isi (by rfl) T.z_isinstance (by decide +kernel) (pa_cons (pv 0) (pa_cons (pe_bltn (v := .ty "str") (by rfl) T.z_str (by decide +kernel) rfl) pa_nil))) (pe_one (pe_cmpR op_in_seq (pv 0) (pe_glob (v := .ref _) (by rfl) T.g_SOURCES rfl) (by rfl)))))), ?_⟩
    rcases h with ⟨x, rfl, k⟩ | ⟨t, ht, kt, k⟩
    · refine ⟨_, rfl, _, _, _, _, true, rfl, .ty _, .base (.str x), kit_ty (by decide +kernel), _, rfl, ?_⟩
      refine ⟨_, rfl, _, sources.map V.str, rfl, .inr (T.t_SOURCES H), rfl, all_str _, ?_⟩
      rw [inV_str]
      exact k
    · exact ⟨_, rfl, _, _, _, _, false, rfl, .ty _, ht, kt, _, rfl, k⟩
def spNumber (K : PySem.W.Frag) : Sp := fun vs H Q _ => ∃ v, vs = [v] ∧ ((∃ n : Int, v = .int n ∧ Q (.bl (decide (1 ≤ n ∧ n ≤ 4))) H) ∨ (∃ b, v = .bl b ∧ Q (.bl false) H) ∨ ∃ t, TyX K H v t ∧ PySem.W.kitOne K t (.type "int") = some false ∧ Q (.bl false) H)
theorem scis_number : FnScope ["value"] ["value"] (defScope sis_number) := ⟨rfl, rfl, rfl, by decide +kernel, rfl, by decide +kernel, by decide +kernel⟩
theorem d_is_number (F : FnP K "is_number" "is_number" sis_number f fd) (gm : mg "is_number" = some (.ref f)) (T : Tx K mg) : DefOk P w K mg base CX0 1 "is_number" ["value"] [] (spNumber K) := by
  obtain ⟨tG, gGRE⟩ := T.g_GREATEST
  refine ⟨f, fd, [], F.ok scis_number (fun vs H Q E h => ?_) (fun cdv A outer s H vs Q E hr h => ?_), gm, F.kp, F.bindsN fun _ _ _ _ _ _ us hl => match us, hl with | [_], _ => rfl, .nil⟩
  · obtain ⟨_, rfl, _⟩ := h
    rfl
  · obtain ⟨v, rfl, h⟩ := h
    refine ⟨_, PSs.nox (pss_one (ps_ret (pe_and (pe_callB call_isi (by rfl) T.z_isinstance (by decide +kernel) (pa_cons (pv 0) (pa_cons (pe_bltn (v := .ty "int") (by rfl) T.z_int (by decide +kernel) rfl) pa_nil))) (pe_and (pe_not (pe_callB call_isi (by rfl) T.z_isinstance (by decide +kernel) (pa_cons (pv 0) (pa_cons (pe_bltn (v := .ty "bool") (by rfl) T.z_bool (by decide +kernel) rfl) pa_nil)))) (pe_one (pe_chain op_le op_le pe_int (pv 0) (pe_glob (v := .int 4) (by rfl) gGRE ⟨_, rfl⟩))))))), ?_⟩
    rcases h with ⟨n, rfl, k⟩ | ⟨b, rfl, k⟩ | ⟨t, ht, kt, k⟩
    · refine ⟨_, rfl, _, _, _, _, true, rfl, .ty _, .base (.int n), kit_ty (by decide +kernel), _, rfl, _, rfl, _, _, _, _, false, rfl, .ty _, .base (.int n), kit_ty (by decide +kernel), _, rfl, _, rfl, ?_⟩
      refine ⟨_, rfl, _, _, rfl, rfl, _, rfl, ?_⟩
      by_cases h1 : 1 ≤ n
      · rw [decide_eq_true h1]
        refine ⟨_, _, rfl, rfl, ?_⟩
        have e : decide (1 ≤ n ∧ n ≤ 4) = decide (n ≤ 4) := by simp [h1]
        rw [e] at k
        exact k
      · rw [decide_eq_false h1]
        have e : decide (1 ≤ n ∧ n ≤ 4) = false := by simp [h1]
        rw [e] at k
        exact k
    · exact ⟨_, rfl, _, _, _, _, true, rfl, .ty _, .base (.bl b), kit_ty (by decide +kernel), _, rfl, _, rfl, _, _, _, _, true, rfl, .ty _, .base (.bl b), kit_ty (by decide +kernel), _, rfl, _, rfl, k⟩
    · exact ⟨_, rfl, _, _, _, _, false, rfl, .ty _, ht, kt, _, rfl, k⟩
def spStage (C : Addr) (K : PySem.W.Frag) : Sp := fun vs H Q _ => ∃ v, vs = [v] ∧ (((∃ s, StG C K H v s) ∧ ∀ H', Same H H' → Q (.bl true) H') ∨ (Bad C K H v ∧ ∀ H', Same H H' → Q (.bl false) H'))
theorem scis_stage : FnScope ["value"] ["value"] (defScope sis_stage) := ⟨rfl, rfl, rfl, by decide +kernel, rfl, by decide +kernel, by decide +kernel⟩
theorem d_is_stage (F : FnP K "is_stage" "is_stage" sis_stage f fd) (gm : mg "is_stage" = some (.ref f)) (T : Ty P w K mg base) (D_is_name : DefOk P w K mg base CX0 1 "is_name" ["value"] [] (spName K)) (D_is_number : DefOk P w K mg base CX0 1 "is_number" ["value"] [] (spNumber K)) :
    DefOk P w K mg base CX0 2 "is_stage" ["value"] [] (spStage (He.ga K "Program") K) := by
  refine ⟨f, fd, [], F.ok scis_stage (fun vs H Q E h => ?_) (fun cdv A outer s H vs Q E hr h => ?_), gm, F.kp, F.bindsN fun _ _ _ _ _ _ us hl => match us, hl with | [_], _ => rfl, .nil⟩
  · obtain ⟨_, rfl, _⟩ := h
    rfl
  · obtain ⟨v, rfl, h⟩ := h
    refine ⟨_, PSs.nox (pss_cons (ps_if (PW.pt (pw_or (pt_not (pt_val (pe_callB call_isi (by rfl) T.z_isinstance (by decide +kernel) (pa_cons (pv 0) (pa_cons (pe_bltn (v := .ty "tuple") (by rfl) T.z_tuple (by decide +kernel) rfl) pa_nil))))) (pw_or (pt_cmpR (op_eq0 hr.units0) (pv 0) (pe_tup pa_nil) (nomark _)) (pw_or1 (pt_not (pt_val (pe_callB call_isi (by rfl) T.z_isinstance (by decide +kernel) (pa_cons (pe_ix ix_tup (pv 0) pe_int (fun _ _ => rfl)) (pa_cons (pe_bltn (v := .ty "str") (by rfl) T.z_str (by decide +kernel) rfl) pa_nil))))))))) (pss_one (ps_ret pe_bl))
  pss_nil)
  (pss_cons (ps_if (pt_cmpR op_eq (pe_ix ix_tup (pv 0) pe_int (fun _ _ => rfl)) pe_str (nomark _)) (pss_one (ps_ret (pe_cmpR op_eq (pe_callB call_len (by rfl) T.z_len PySem.boot_len (pa_cons (pv 0) pa_nil)) pe_int (nomark _))))
  pss_nil)
  (pss_cons (ps_if (pt_cmpR op_ne (pe_callB call_len (by rfl) T.z_len PySem.boot_len (pa_cons (pv 0) pa_nil)) pe_int (nomark _)) (pss_one (ps_ret pe_bl))
  pss_nil)
  (pss_cons (ps_if (pt_cmpR op_eq (pe_ix ix_tup (pv 0) pe_int (fun _ _ => rfl)) pe_str (nomark _)) (pss_one (ps_ret (pe_callB call_isi (by rfl) T.z_isinstance (by decide +kernel) (pa_cons (pe_ix ix_tup (pv 0) pe_int (fun _ _ => rfl)) (pa_cons (pe_glob (v := .ref _) (by rfl) T.g_Program rfl) pa_nil)))))
  pss_nil)
  (pss_one (ps_ret (pe_or (pe_and (pe_cmpR op_in_seq (pe_ix ix_tup (pv 0) pe_int (fun _ _ => rfl)) (pe_glob (v := .ref _) (by rfl) T.g_NAMED rfl) (by rfl)) (pe_one (pe_d D_is_name (hr.mono (by decide)) pass0 (pa_cons (pe_ix ix_tup (pv 0) pe_int (fun _ _ => rfl)) pa_nil)))) (pe_one (pe_and (pe_cmpR op_in_seq (pe_ix ix_tup (pv 0) pe_int (fun _ _ => rfl)) (pe_glob (v := .ref _) (by rfl) T.g_NUMBERED rfl) (by rfl)) (pe_one (pe_d D_is_number (hr.mono (by decide)) pass0 (pa_cons (pe_ix ix_tup (pv 0) pe_int (fun _ _ => rfl)) pa_nil)))))))))))), ?_⟩
    have main : (∃ a w r b, v = .ref a ∧ SqT K H a (.str w :: r) ∧ Tl (He.ga K "Program") K H w r b ∧ ∀ H', Same H H' → Q (.bl b) H') ∨ (((∃ t, TyX K H v t ∧ PySem.W.kitOne K t (.type "tuple") = some false) ∨ (∃ a, v = .ref a ∧ SqT K H a []) ∨
        (∃ a x r t, v = .ref a ∧ SqT K H a (x :: r) ∧ TyX K H x t ∧ PySem.W.kitOne K t (.type "str") = some false)) ∧ ∀ H', Same H H' → Q (.bl false) H') := by
      rcases h with ⟨⟨s, h⟩, k⟩ | ⟨h, k⟩
      · obtain ⟨a, w, r, e, h1, h2⟩ := h.tl T.pc
        exact .inl ⟨a, w, r, true, e, h1, h2, k⟩
      · rcases h.tl with h | h | h | ⟨a, w, r, e, h1, h2⟩
        · exact .inr ⟨.inl h, k⟩
        · exact .inr ⟨.inr (.inl h), k⟩
        · exact .inr ⟨.inr (.inr h), k⟩
        · exact .inl ⟨a, w, r, false, e, h1, h2, k⟩
    clear h
    rcases main with ⟨a, wd, r, b, rfl, hS, ht, k⟩ | ⟨⟨t, ht, kt⟩ | ⟨a, rfl, hS⟩ | ⟨a, x, r, t, rfl, hS, ht, kt⟩, k⟩
    · refine ⟨_, rfl, _, _, _, _, true, rfl, .ty _, ty_tup hS, kit_ty (by decide +kernel), _, rfl, ?_⟩
      refine ⟨_, rfl, szl rfl, fun p hp => ⟨_, _, _, rfl, rfl, .inl ⟨sqT_same (same_upd hp) hS, SqT.of upd_same⟩, _, rfl, ?_⟩⟩
      have s1 := same_upd (o := .tup []) hp
      have hS1 := sqT_same s1 hS
      have ht1 := ht.same s1
      have k1 : ∀ H', Same (upd H p (.tup [])) H' → Q (.bl b) H' := fun H' s2 => k H' (same_trans s1 s2)
      clear k ht hS
      generalize upd H p (.tup []) = H1 at hS1 ht1 k1 ⊢
      refine ⟨_, rfl, _, _, _, _, rfl, rfl, hS1, atI_nat (j := 0) rfl, _, _, _, _, true, rfl, .ty _, .base (.str wd), kit_ty (by decide +kernel), _, rfl, ?_⟩
      refine ⟨_, rfl, _, _, _, _, rfl, rfl, hS1, atI_nat (j := 0) rfl, rfl, _, rfl, ?_⟩
      rw [sc_str]
      by_cases hf : wd = "flat"
      · rw [decide_eq_true hf]
        refine ⟨_, rfl, _, _, rfl, .inr ⟨_, hS1, rfl⟩, rfl, ?_⟩
        have eb : b = decide (V.int (((V.str wd :: r).length : Nat) : Int) = V.int 1) := by
          cases ht1 with
          | flat e =>
            cases r with
            | nil => rfl
            | cons y r =>
              rw [decide_eq_false]
              · rfl
              · intro z
                have := V.int.inj z
                simp only [List.length_cons] at this
                omega
          | len e => exact absurd hf e
          | zip e => rw [hf] at e; exact absurd e (by decide +kernel)
          | word e => exact absurd hf e
          | nmS e => exact absurd hf (named_ne e).1
          | nmT e => exact absurd hf (named_ne e).1
          | nuI e => exact absurd hf (numbered_ne e).1
          | nuB e => exact absurd hf (numbered_ne e).1
          | nuT e => exact absurd hf (numbered_ne e).1
        have q := k1 H1 (Same.refl _)
        rw [eb] at q
        exact q
      rw [decide_eq_false hf]
      refine ⟨_, rfl, _, _, rfl, .inr ⟨_, hS1, rfl⟩, rfl, _, rfl, ?_⟩
      by_cases hl : r.length = 1
      · have e2 : (!decide (V.int (((V.str wd :: r).length : Nat) : Int) = V.int 2)) = false := by
          rw [decide_eq_true]
          · rfl
          · rw [List.length_cons, hl]
            rfl
        rw [e2]
        match r, hl with
        | [y], _ =>
          refine ⟨_, rfl, _, _, _, _, rfl, rfl, hS1, atI_nat (j := 0) rfl, rfl, _, rfl, ?_⟩
          rw [sc_str]
          by_cases hz : wd = "zip"
          · rw [decide_eq_true hz]
            have zz : ∃ t, TyX K H1 y t ∧ PySem.W.kitOne K t (.ref (He.ga K "Program")) = some b := by
              cases ht1 with
              | flat e => exact absurd e hf
              | len e e' => exact absurd rfl e'
              | zip e a c => exact ⟨_, a, c⟩
              | word e e' => exact absurd hz e'
              | nmS e => exact absurd hz (named_ne e).2.1
              | nmT e => exact absurd hz (named_ne e).2.1
              | nuI e => exact absurd hz (numbered_ne e).2.1
              | nuB e => exact absurd hz (numbered_ne e).2.1
              | nuT e => exact absurd hz (numbered_ne e).2.1
            obtain ⟨t, h1, h2⟩ := zz
            exact ⟨_, rfl, _, _, _, _, rfl, rfl, hS1, atI_nat (j := 1) rfl, _, _, _, _, b, rfl, .own _, h1, h2, k1 _ (Same.refl _)⟩
          · rw [decide_eq_false hz]
            refine ⟨_, rfl, _, _, _, _, rfl, rfl, hS1, atI_nat (j := 0) rfl, _, named.map V.str, rfl, .inr (T.t_NAMED _), rfl, all_str _, ?_⟩
            rw [inV_str]
            by_cases hn : wd ∈ named
            · rw [decide_eq_true hn]
              refine ⟨_, rfl, ?_⟩
              have nn : ((∃ x : Str, y = .str x ∧ x.length ≤ 1000 ∧ b = nameB x) ∨ ∃ t, TyX K H1 y t ∧ PySem.W.kitOne K t (.type "str") = some false ∧ b = false) := by
                cases ht1 with
                | flat e => exact absurd e hf
                | len e e' => exact absurd rfl e'
                | zip e => exact absurd e hz
                | word _ _ e => exact absurd hn e
                | nmS e l => exact .inl ⟨_, rfl, l, rfl⟩
                | nmT e a c => exact .inr ⟨_, a, c, rfl⟩
                | nuI e => exact absurd e (named_ne hn).2.2
                | nuB e => exact absurd e (named_ne hn).2.2
                | nuT e => exact absurd e (named_ne hn).2.2
              refine ⟨_, rfl, _, _, _, _, rfl, rfl, hS1, atI_nat (j := 1) rfl, _, rfl, ?_⟩
              have fin : ∀ c : Bool, c = b → ∀ H', Same H1 H' → ∃ c', V.bl c = V.bl c' ∧ (if c' = true then Q (.bl true) H' else tAndV (tOp (rIn K false) (tOp (rIxT K) (tVar 0) (tC (.int 0))) (tC (.ref (He.ga K "NUMBERED")))) (tCall (spNumber K) [] E0 (tCons (tOp (rIxT K) (tVar 0) (tC (.int 1))) tNil)) (start ["value"] [V.ref a]) H' Q) := by
                rintro c rfl H' s2
                refine ⟨c, rfl, ?_⟩
                cases c with
                | true => exact k1 H' s2
                | false =>
                  refine ⟨_, rfl, _, _, _, _, rfl, rfl, sqT_same s2 hS1, atI_nat (j := 0) rfl, _, counted.map V.str, rfl, .inr (T.t_NUMBERED _), rfl, all_str _, ?_⟩
                  rw [inV_str, if_neg Bool.false_ne_true, decide_eq_false (named_ne hn).2.2]
                  exact ⟨_, rfl, k1 H' s2⟩
              rcases nn with ⟨x, rfl, hx, e⟩ | ⟨t, h1, h2, e⟩
              · exact .inl ⟨x, rfl, hx, fun H' s2 => fin _ e.symm H' s2⟩
              · exact .inr ⟨t, h1, h2, fun H' s2 => fin _ e.symm H' s2⟩
            · rw [decide_eq_false hn]
              refine ⟨_, rfl, _, rfl, _, rfl, _, _, _, _, rfl, rfl, hS1, atI_nat (j := 0) rfl, _, counted.map V.str, rfl, .inr (T.t_NUMBERED _), rfl, all_str _, ?_⟩
              rw [inV_str]
              by_cases hm : wd ∈ counted
              · rw [decide_eq_true hm]
                refine ⟨_, rfl, ?_⟩
                refine ⟨_, rfl, _, _, _, _, rfl, rfl, hS1, atI_nat (j := 1) rfl, _, rfl, ?_⟩
                have q := k1 _ (Same.refl _)
                cases ht1 with
                | flat e => exact absurd e hf
                | len e e' => exact absurd rfl e'
                | zip e => exact absurd e hz
                | word _ _ _ e => exact absurd hm e
                | nmS e => exact absurd e hn
                | nmT e => exact absurd e hn
                | nuI e => exact .inl ⟨_, rfl, q⟩
                | nuB e => exact .inr (.inl ⟨_, rfl, q⟩)
                | nuT e a c => exact .inr (.inr ⟨_, a, c, q⟩)
              · rw [decide_eq_false hm]
                have q := k1 _ (Same.refl _)
                have eb : b = false := by
                  cases ht1 with
                  | flat e => exact absurd e hf
                  | len e e' => exact absurd rfl e'
                  | zip e => exact absurd e hz
                  | word _ _ _ e => rfl
                  | nmS e => exact absurd e hn
                  | nmT e => exact absurd e hn
                  | nuI e => exact absurd e hm
                  | nuB e => exact absurd e hm
                  | nuT e => exact absurd e hm
                rw [eb] at q
                exact ⟨_, rfl, q⟩
      · have e2 : (!decide (V.int (((V.str wd :: r).length : Nat) : Int) = V.int 2)) = true := by
          rw [decide_eq_false]
          · rfl
          · intro z
            have := V.int.inj z
            rw [List.length_cons] at this
            omega
        rw [e2]
        have eb : b = false := by
          cases ht1 with
          | flat e => exact absurd e hf
          | len e => rfl
          | zip e => exact absurd rfl hl
          | word e => exact absurd rfl hl
          | nmS e => exact absurd rfl hl
          | nmT e => exact absurd rfl hl
          | nuI e => exact absurd rfl hl
          | nuB e => exact absurd rfl hl
          | nuT e => exact absurd rfl hl
        have q := k1 _ (Same.refl _)
        rw [eb] at q
        exact q
    · refine ⟨_, rfl, _, _, _, _, false, rfl, .ty _, ht, kt, _, rfl, ?_⟩
      exact k _ (Same.refl _)
    · refine ⟨_, rfl, _, _, _, _, true, rfl, .ty _, ty_tup hS, kit_ty (by decide +kernel), _, rfl, ?_⟩
      refine ⟨_, rfl, szl rfl, fun p hp => ⟨_, _, _, rfl, rfl, .inl ⟨sqT_same (same_upd hp) hS, SqT.of upd_same⟩, _, rfl, ?_⟩⟩
      exact k _ (same_upd hp)
    · refine ⟨_, rfl, _, _, _, _, true, rfl, .ty _, ty_tup hS, kit_ty (by decide +kernel), _, rfl, ?_⟩
      refine ⟨_, rfl, szl rfl, fun p hp => ⟨_, _, _, rfl, rfl, .inl ⟨sqT_same (same_upd hp) hS, SqT.of upd_same⟩, _, rfl, ?_⟩⟩
      have s1 := same_upd (o := .tup []) hp
      refine ⟨_, rfl, _, _, _, _, rfl, rfl, sqT_same s1 hS, atI_nat (j := 0) rfl, _, _, _, _, false, rfl, .ty _, tyx_same s1 ht, kt, _, rfl, ?_⟩
      exact k _ s1
def spDepth (C : Addr) (K : PySem.W.Frag) : Sp := fun vs H Q _ => ∃ p hs ls row, vs = [.ref p] ∧ PrI C K H p hs ls row ∧ Q (.int (lastI hs)) H
theorem at_last : ∀ {hs : List Int}, hs ≠ [] → atI (hs.map V.int) (-1) = some (.int (lastI hs)) := by
  intro hs h
  obtain ⟨l, x, rfl⟩ : ∃ l x, hs = l ++ [x] := ⟨hs.dropLast, hs.getLast h, (List.dropLast_concat_getLast h).symm⟩
  rw [List.map_append]
  unfold lastI
  rw [List.getLast?_concat]
  exact atI_last _ _
theorem scProgram_depth : FnScope ["self"] ["self"] (defScope sProgram_depth) := ⟨rfl, rfl, rfl, by decide +kernel, rfl, by decide +kernel, by decide +kernel⟩
theorem p_depth (F : FnP K "depth" "Program.depth" sProgram_depth f fd) {p : Addr} (hp : PropOf K (He.ga K "Program") "depth" p f) (T : Ty P w K mg base) : PropOk P w K mg base CX0 1 (He.ga K "Program") "depth" (spDepth (He.ga K "Program") K) := by
  refine ⟨p, f, fd, F.ok scProgram_depth (fun vs H Q E h => ?_) (fun cdv A outer s H vs Q E hr h => ?_), hp, F.bindsN fun _ _ _ _ _ _ us hl => match us, hl with | [_], _ => rfl, T.pc.cl⟩
  · obtain ⟨_, _, _, _, rfl, _⟩ := h
    rfl
  · obtain ⟨q, hs, ls, row, rfl, ⟨dx, a, l, r, oh, ol, h1, h2, h3, h4, h5, h6⟩, k⟩ := h
    refine ⟨_, PSs.nox (pss_one (ps_ret (pe_ix ix_list (pe_fld (pv 0) rfl) (pe_un un_neg pe_int) (fun _ _ => rfl)))), ?_⟩
    exact ⟨_, rfl, _, _, _, _, _, rfl, h1, T.pc.cl, T.pc.nH, lookup_1, _, rfl, _, _, _, _, rfl, rfl, .inl (.inr ⟨_, h2⟩), at_last h5, k⟩
def spSourceP (C : Addr) (K : PySem.W.Frag) : Sp := fun vs H Q _ => ∃ p hs ls row, vs = [.ref p] ∧ PrI C K H p hs ls row ∧ Q (.str (ls.headD Str.empty)) H
theorem scProgram_source : FnScope ["self"] ["self"] (defScope sProgram_source) := ⟨rfl, rfl, rfl, by decide +kernel, rfl, by decide +kernel, by decide +kernel⟩
theorem p_source (F : FnP K "source" "Program.source" sProgram_source f fd) {p : Addr} (hp : PropOf K (He.ga K "Program") "source" p f) (T : Ty P w K mg base) : PropOk P w K mg base CX0 1 (He.ga K "Program") "source" (spSourceP (He.ga K "Program") K) := by
  refine ⟨p, f, fd, F.ok scProgram_source (fun vs H Q E h => ?_) (fun cdv A outer s H vs Q E hr h => ?_), hp, F.bindsN fun _ _ _ _ _ _ us hl => match us, hl with | [_], _ => rfl, T.pc.cl⟩
  · obtain ⟨_, _, _, _, rfl, _⟩ := h
    rfl
  · obtain ⟨q, hs, ls, row, rfl, ⟨dx, a, l, r, oh, ol, h1, h2, h3, h4, h5, _, h6, h7⟩, k⟩ := h
    refine ⟨_, PSs.nox (pss_one (ps_ret (pe_ix ix_list (pe_fld (pv 0) rfl) pe_int (fun _ _ => rfl)))), ?_⟩
    refine ⟨_, rfl, _, _, _, _, _, rfl, h1, T.pc.cl, T.pc.nL, (lookup_2).trans lookup_1, _, _, _, _, rfl, rfl, .inl (.inr ⟨_, h3⟩), ?_, k⟩
    match ls, h6 with
    | x :: _, _ => exact atI_nat (j := 0) rfl
def spStages (C : Addr) (K : PySem.W.Frag) : Sp := fun vs H Q _ => ∃ p hs ls row, vs = [.ref p] ∧ PrI C K H p hs ls row ∧ ∀ r, SqT K H r row → Q (.ref r) H
theorem scProgram_stages : FnScope ["self"] ["self"] (defScope sProgram_stages) := ⟨rfl, rfl, rfl, by decide +kernel, rfl, by decide +kernel, by decide +kernel⟩
theorem p_stages (F : FnP K "stages" "Program.stages" sProgram_stages f fd) {p : Addr} (hp : PropOf K (He.ga K "Program") "stages" p f) (T : Ty P w K mg base) : PropOk P w K mg base CX0 1 (He.ga K "Program") "stages" (spStages (He.ga K "Program") K) := by
  refine ⟨p, f, fd, F.ok scProgram_stages (fun vs H Q E h => ?_) (fun cdv A outer s H vs Q E hr h => ?_), hp, F.bindsN fun _ _ _ _ _ _ us hl => match us, hl with | [_], _ => rfl, T.pc.cl⟩
  · obtain ⟨_, _, _, _, rfl, _⟩ := h
    rfl
  · obtain ⟨q, hs, ls, row, rfl, ⟨dx, a, l, r, oh, ol, h1, h2, h3, h4, _⟩, k⟩ := h
    refine ⟨_, PSs.nox (pss_one (ps_ret (pe_fld (pv 0) rfl))), ?_⟩
    exact ⟨_, rfl, _, _, _, _, _, rfl, h1, T.pc.cl, T.pc.nR, (lookup_2).trans ((lookup_2).trans lookup_1), k _ h4⟩
def spSources (C : Addr) (K : PySem.W.Frag) : Sp := fun vs H Q _ => ∃ p hs ls row, vs = [.ref p] ∧ PrI C K H p hs ls row ∧ ∀ r H', Same H H' → SqT K H' r (ls.map V.str) → Q (.ref r) H'
theorem scProgram_sources : FnScope ["self"] ["self"] (defScope sProgram_sources) := ⟨rfl, rfl, rfl, by decide +kernel, rfl, by decide +kernel, by decide +kernel⟩
theorem p_sources (F : FnP K "sources" "Program.sources" sProgram_sources f fd) {p : Addr} (hp : PropOf K (He.ga K "Program") "sources" p f) (T : Ty P w K mg base) : PropOk P w K mg base CX0 1 (He.ga K "Program") "sources" (spSources (He.ga K "Program") K) := by
  refine ⟨p, f, fd, F.ok scProgram_sources (fun vs H Q E h => ?_) (fun cdv A outer s H vs Q E hr h => ?_), hp, F.bindsN fun _ _ _ _ _ _ us hl => match us, hl with | [_], _ => rfl, T.pc.cl⟩
  · obtain ⟨_, _, _, _, rfl, _⟩ := h
    rfl
  · obtain ⟨q, hs, ls, row, rfl, ⟨dx, a, l, r, oh, ol, h1, h2, h3, h4, _⟩, k⟩ := h
    refine ⟨_, PSs.nox (pss_one (ps_ret (pe_callTy call_tuple_of (by rfl) T.z_tuple (by decide +kernel) (pa_cons (pe_fld (pv 0) rfl) pa_nil)))), ?_⟩
    refine ⟨_, rfl, _, _, _, _, _, rfl, h1, T.pc.cl, T.pc.nL, (lookup_2).trans lookup_1, ?_⟩
    exact ⟨_, _, rfl, .inl ⟨.inl (.inr ⟨_, h3⟩), fun t ht => k _ _ (same_upd ht) (SqT.of upd_same)⟩⟩
/-! the depth behind a stage -/
def spBehind (C : Addr) (K : PySem.W.Frag) : Sp := fun vs H Q _ => ∃ d v s, vs = [.int d, v] ∧ StG C K H v s ∧ Q (.int (behind d s)) H
theorem scdepth_behind : FnScope ["depth", "stage"] ["depth", "stage"] (defScope sdepth_behind) := ⟨rfl, rfl, rfl, by decide +kernel, rfl, by decide +kernel, by decide +kernel⟩
theorem d_depth_behind (F : FnP K "depth_behind" "depth_behind" sdepth_behind f fd) (gm : mg "depth_behind" = some (.ref f)) (T : Ty P w K mg base) (P_depth : PropOk P w K mg base CX0 1 (He.ga K "Program") "depth" (spDepth (He.ga K "Program") K)) :
    DefOk P w K mg base CX0 3 "depth_behind" ["depth", "stage"] [] (spBehind (He.ga K "Program") K) := by
  refine ⟨f, fd, [], F.ok scdepth_behind (fun vs H Q E h => ?_) (fun cdv A outer s H vs Q E hr h => ?_), gm, F.kp, F.bindsN fun _ _ _ _ _ _ us hl => match us, hl with | [_, _], _ => rfl, .nil⟩
  · obtain ⟨_, _, _, rfl, _⟩ := h
    rfl
  · obtain ⟨d, v, s, rfl, hS, k⟩ := h
    refine ⟨_, PSs.nox (pss_cons (ps_if (pt_cmpR op_eq (pe_ix ix_tup (pv 1) pe_int (fun _ _ => rfl)) pe_str (nomark _)) (pss_one (ps_ret (pe_op op_add pe_int (pe_callB (call_min2 rfl) (by rfl) T.z_min (by decide +kernel) (pa_cons (pv 0) (pa_cons (pe_pp P_depth (hr.mono (by decide)) pass0 (pe_ix ix_tup (pv 1) pe_int (fun _ _ => rfl))) pa_nil))))))
  pss_nil)
  (pss_cons (ps_if (pt_cmpR op_eq (pe_ix ix_tup (pv 1) pe_int (fun _ _ => rfl)) pe_str (nomark _)) (pss_one (ps_ret (pe_op op_add (pv 0) pe_int)))
  pss_nil)
  (pss_cons (ps_if (pt_cmpR op_eq (pe_ix ix_tup (pv 1) pe_int (fun _ _ => rfl)) pe_str (nomark _)) (pss_one (ps_ret (pe_op op_sub (pv 0) pe_int)))
  pss_nil)
  (pss_one (ps_ret (pe_ifExp (pt_cmpR op_eq (pe_ix ix_tup (pv 1) pe_int (fun _ _ => rfl)) pe_str (nomark _)) pe_int (pv 0))))))), ?_⟩
    cases hS with
    | @zip _ q hs ls row a p =>
      obtain ⟨dx, _, _, _, _, _, h1, _⟩ := id p
      refine ⟨_, rfl, _, _, _, _, rfl, rfl, a, atI_nat (j := 0) rfl, rfl, _, rfl, ?_⟩
      rw [sc_str, decide_eq_true rfl]
      refine ⟨_, rfl, _, rfl, _, _, _, _, rfl, rfl, a, atI_nat (j := 1) rfl, _, _, _, rfl, h1, _, _, _, _, rfl, p, _, _, rfl, _, _, rfl, rfl, ?_⟩
      have e : behind d (.zip q hs ls row) = 1 + (if lastI hs < d then lastI hs else d) := by
        show 1 + min d (lastI hs) = _
        congr 1
        split <;> omega
      rw [e] at k
      exact k
    | flat a =>
      refine ⟨_, rfl, _, _, _, _, rfl, rfl, a, atI_nat (j := 0) rfl, rfl, _, rfl, ?_⟩
      rw [sc_str, decide_eq_false (by decide +kernel)]
      refine ⟨_, rfl, _, _, _, _, rfl, rfl, a, atI_nat (j := 0) rfl, rfl, _, rfl, ?_⟩
      rw [sc_str, decide_eq_false (by decide +kernel)]
      refine ⟨_, rfl, _, _, _, _, rfl, rfl, a, atI_nat (j := 0) rfl, rfl, _, rfl, ?_⟩
      rw [sc_str, decide_eq_true rfl]
      exact ⟨_, rfl, _, _, rfl, rfl, k⟩
    | @nm _ wd x a b c =>
      have key : ∀ w ∈ named, w ≠ "zip" ∧ w ≠ "lots" ∧ w ≠ "flat" := by decide +kernel
      obtain ⟨n1, n2, n3⟩ := key wd b
      refine ⟨_, rfl, _, _, _, _, rfl, rfl, a, atI_nat (j := 0) rfl, rfl, _, rfl, ?_⟩
      rw [sc_str, decide_eq_false n1]
      refine ⟨_, rfl, _, _, _, _, rfl, rfl, a, atI_nat (j := 0) rfl, rfl, _, rfl, ?_⟩
      rw [sc_str, decide_eq_false n2]
      refine ⟨_, rfl, _, _, _, _, rfl, rfl, a, atI_nat (j := 0) rfl, rfl, _, rfl, ?_⟩
      rw [sc_str, decide_eq_false n3]
      refine ⟨_, rfl, _, _, _, _, rfl, rfl, a, atI_nat (j := 0) rfl, rfl, _, rfl, ?_⟩
      rw [sc_str]
      have e : behind d (.nm wd x) = if wd = "map" then 0 else d := rfl
      rw [e] at k
      by_cases hm : wd = "map"
      · rw [decide_eq_true hm]
        rw [if_pos hm] at k
        exact k
      · rw [decide_eq_false hm]
        rw [if_neg hm] at k
        exact ⟨_, rfl, k⟩
    | @nu _ wd n a b c e =>
      have key : ∀ w ∈ counted, w ≠ "zip" ∧ w ≠ "map" ∧ w ≠ "flat" := by decide +kernel
      obtain ⟨n1, n2, n3⟩ := key wd b
      refine ⟨_, rfl, _, _, _, _, rfl, rfl, a, atI_nat (j := 0) rfl, rfl, _, rfl, ?_⟩
      rw [sc_str, decide_eq_false n1]
      refine ⟨_, rfl, _, _, _, _, rfl, rfl, a, atI_nat (j := 0) rfl, rfl, _, rfl, ?_⟩
      rw [sc_str]
      have e : behind d (.nu wd n) = if wd = "lots" then d + 1 else d := rfl
      rw [e] at k
      by_cases hm : wd = "lots"
      · rw [decide_eq_true hm]
        rw [if_pos hm] at k
        exact ⟨_, rfl, _, _, rfl, rfl, k⟩
      · rw [decide_eq_false hm]
        rw [if_neg hm] at k
        refine ⟨_, rfl, _, _, _, _, rfl, rfl, a, atI_nat (j := 0) rfl, rfl, _, rfl, ?_⟩
        rw [sc_str, decide_eq_false n3]
        refine ⟨_, rfl, _, _, _, _, rfl, rfl, a, atI_nat (j := 0) rfl, rfl, _, rfl, ?_⟩
        rw [sc_str, decide_eq_false n2]
        exact ⟨_, rfl, k⟩
/-! what can stand -/
def spStand (C : Addr) (K : PySem.W.Frag) : Sp := fun vs H Q _ => ∃ a dx fs h l hs ls v, vs = [.ref a, v] ∧ H a = some (.ins C dx fs) ∧ List.lookup ("heights" : Str) fs = some (V.ref h) ∧ List.lookup ("leaves" : Str) fs = some (V.ref l) ∧ SqL K H h (hs.map V.int) ∧ SqL K H l (ls.map V.str) ∧ hs ≠ [] ∧
  ((Bad C K H v ∧ ∀ H', Same H H' → Q (.bl false) H') ∨ ∃ s, StG C K H v s ∧ ∀ H', Same H H' → Q (.bl (stands (lastI hs) ls s)) H')
theorem scProgram_can_stand : FnScope ["self", "stage", "source"] ["self", "stage"] (defScope sProgram_can_stand) := ⟨rfl, rfl, rfl, by decide +kernel, rfl, by decide +kernel, by decide +kernel⟩
theorem m_can_stand (F : FnP K "can_stand" "Program.can_stand" sProgram_can_stand f fd) (hm : Meth K (He.ga K "Program") "can_stand" f) (T : Ty P w K mg base) (D_is_stage : DefOk P w K mg base CX0 2 "is_stage" ["value"] [] (spStage (He.ga K "Program") K)) :
    MethOk P w K mg base CX0 3 (He.ga K "Program") "can_stand" ["self", "stage"] (spStand (He.ga K "Program") K) := by
  refine ⟨f, fd, F.ok scProgram_can_stand (fun vs H Q E h => ?_) (fun cdv A outer s H vs Q E hr h => ?_), hm, F.bindsN fun _ _ _ _ _ _ us hl => match us, hl with | [_, _], _ => rfl, T.pc.cl⟩
  · obtain ⟨_, _, _, _, _, _, _, _, rfl, _⟩ := h
    rfl
  · obtain ⟨a, dx, fs, hh, ll, hs, ls, v, rfl, hA, fH, fL, qH, qL, hne, h⟩ := h
    refine ⟨_, PSs.nox (pss_cons (ps_if (pt_not (pt_val (pe_d D_is_stage (hr.mono (by decide)) pass0 (pa_cons (pv 1) pa_nil)))) (pss_one (ps_ret pe_bl))
  pss_nil)
  (pss_cons (ps_if (pt_cmpR op_eq (pe_ix ix_tup (pv 1) pe_int (fun _ _ => rfl)) pe_str (nomark _)) (pss_one (ps_ret (pe_not (pe_callB (cr_any rfl) (by rfl) T.z_any (by decide +kernel) (pa_cons (pe_lc (own := [("source", 2)]) (g := gName 2) (tt := tYes) (te := tOp (rIn K false) (tVar 2) (tFld K (tVar 0) "leaves")) (by rfl) scProgram_can_stand.nd (pi_list (pe_fld (pe_ix ix_tup (pv 1) pe_int (fun _ _ => rfl)) rfl)) (blkOk_by (own := [("source", 2)]) (N := ["self", "stage", "source"]) (sc := defScope sProgram_can_stand) (by decide +kernel)) (fun _ _ _ _ _ => pg_name (i := 2) scProgram_can_stand.nd rfl (Or.inl rfl)) (fun _ _ _ _ _ => pts_nil) (fun _ _ _ _ _ => (pe_cmpR op_in_seq (pv 2) (pe_fld (pv 0) rfl) (by rfl)))) pa_nil)))))
  pss_nil)
  (pss_one (ps_ret (pe_or (pe_cmpR op_ne (pe_ix ix_tup (pv 1) pe_int (fun _ _ => rfl)) pe_str (nomark _)) (pe_one (pe_cmpR op_gt (pe_ix ix_list (pe_fld (pv 0) rfl) (pe_un un_neg pe_int) (fun _ _ => rfl)) pe_int (nomark _)))))))), ?_⟩
    rcases h with ⟨hB, k⟩ | ⟨s, hS, k⟩
    · exact ⟨_, rfl, _, rfl, .inr ⟨hB, fun H' s2 => ⟨_, rfl, k _ s2⟩⟩⟩
    · refine ⟨_, rfl, _, rfl, .inl ⟨⟨s, hS⟩, fun H1 s1 => ⟨_, rfl, ?_⟩⟩⟩
      have hS1 := hS.kp (.of s1)
      have hA1 := s1 _ _ hA
      have qH1 := sqL_same s1 qH
      have qL1 := sqL_same s1 qL
      have k1 : ∀ H', Same H1 H' → Q (.bl (stands (lastI hs) ls s)) H' := fun H' s2 => k H' (same_trans s1 s2)
      cases hS1 with
      | @zip _ q hs' ls' row a p =>
        obtain ⟨dq, b1, b2, b3, o1, o2, h1, h2, h3, _, _, lk, _, _, _⟩ := id p
        have hl64 := lk.len
        refine ⟨_, rfl, _, _, _, _, rfl, rfl, a, atI_nat (j := 0) rfl, rfl, _, rfl, ?_⟩
        rw [sc_str, decide_eq_true rfl]
        refine ⟨_, rfl, _, _, _, _, rfl, rfl, a, atI_nat (j := 1) rfl, _, _, _, _, _, rfl, h1, T.pc.cl, T.pc.nL, (lookup_2).trans lookup_1, _, rfl, ⟨_, .inl (.inr ⟨_, h3⟩)⟩, fun D hD => ?_⟩
        refine lc_one walk_list 2 (fun i => V.bl (decide (ls'.getD i Str.empty ∈ ls))) (by rw [List.length_map]; omega) (fun _ => .inl (.inr ⟨_, (same_upd hD _ _ h3)⟩)) (fun _ => rfl) (fun _ _ _ _ y => y.1) ?_ ?_
        · rintro i y l R hi ⟨_, hc⟩ hR
          have sD : Same H1 (upd H1 D (.lst l)) := same_upd hD
          rw [List.getElem?_map] at hc
          obtain ⟨y, hy, rfl⟩ := Option.map_eq_some_iff.mp hc
          refine ⟨_, rfl, _, rfl, _, _, _, _, _, rfl, sD _ _ hA1, T.pc.cl, T.pc.nL, fL, _, _, rfl, .inl (sqL_same sD qL1), rfl, all_str _, ?_⟩
          rw [inV_str]
          rw [List.getD_eq_getElem?_getD, hy] at hR
          exact hR
        · refine ⟨D, (List.range ls'.length).map fun i => decide (ls'.getD i Str.empty ∈ ls), rfl, SqL.of ?_, ?_⟩
          · rw [upd_same, List.map_map, List.length_map]
            rfl
          · have e : ((List.range ls'.length).map fun i => decide (ls'.getD i Str.empty ∈ ls)).any id = ls'.any fun x => decide (x ∈ ls) := by
              rw [List.any_map]
              rw [Bool.eq_iff_iff, List.any_eq_true, List.any_eq_true]
              constructor
              · rintro ⟨i, hi, h⟩
                have hi' := List.mem_range.mp hi
                exact ⟨ls'[i], List.getElem_mem hi', by simpa [List.getD_eq_getElem?_getD, List.getElem?_eq_getElem hi'] using h⟩
              · rintro ⟨c, hc, h⟩
                obtain ⟨i, hi, rfl⟩ := List.mem_iff_getElem.mp hc
                exact ⟨i, List.mem_range.mpr hi, by simpa [List.getD_eq_getElem?_getD, List.getElem?_eq_getElem hi] using h⟩
            rw [e]
            exact ⟨_, rfl, k1 _ (same_upd hD)⟩
      | flat a =>
        refine ⟨_, rfl, _, _, _, _, rfl, rfl, a, atI_nat (j := 0) rfl, rfl, _, rfl, ?_⟩
        rw [sc_str, decide_eq_false (by decide +kernel)]
        refine ⟨_, rfl, _, _, _, _, rfl, rfl, a, atI_nat (j := 0) rfl, rfl, ?_⟩
        rw [sc_str, decide_eq_true rfl]
        exact ⟨_, rfl, _, rfl, _, _, _, _, _, rfl, hA1, T.pc.cl, T.pc.nH, fH, _, rfl, _, _, _, _, rfl, rfl, qH1, at_last hne, _, _, rfl, rfl, k1 _ (Same.refl _)⟩
      | @nm _ wd x a b c =>
        have key : ∀ w ∈ named, w ≠ "zip" ∧ w ≠ "flat" := by decide +kernel
        obtain ⟨n1, n2⟩ := key wd b
        refine ⟨_, rfl, _, _, _, _, rfl, rfl, a, atI_nat (j := 0) rfl, rfl, _, rfl, ?_⟩
        rw [sc_str, decide_eq_false n1]
        refine ⟨_, rfl, _, _, _, _, rfl, rfl, a, atI_nat (j := 0) rfl, rfl, ?_⟩
        rw [sc_str, decide_eq_false n2]
        exact ⟨_, rfl, k1 _ (Same.refl _)⟩
      | @nu _ wd n a b c e =>
        have key : ∀ w ∈ counted, w ≠ "zip" ∧ w ≠ "flat" := by decide +kernel
        obtain ⟨n1, n2⟩ := key wd b
        refine ⟨_, rfl, _, _, _, _, rfl, rfl, a, atI_nat (j := 0) rfl, rfl, _, rfl, ?_⟩
        rw [sc_str, decide_eq_false n1]
        refine ⟨_, rfl, _, _, _, _, rfl, rfl, a, atI_nat (j := 0) rfl, rfl, ?_⟩
        rw [sc_str, decide_eq_false n2]
        exact ⟨_, rfl, k1 _ (Same.refl _)⟩
end

end K02
namespace K02
open PySem PySem.Spec PyProof.Rows L2 Lw
local macro_rules | `(tactic| walk_at "rd") => `(tactic| repeat (first | refine ⟨_, rfl, ?_⟩ | refine ⟨_, _, rfl, rfl, ?_⟩))
/-! ### Program.__init__ -/
section
variable {P : Program} {w : World} {K : PySem.W.Frag} {mg : Str → Option Value} {base : Heap} {f : Addr} {fd : FuncData}
/-- any source, any stages: what is raised, or the program -/
def spInit (C : Addr) (K : PySem.W.Frag) : Sp := fun vs H Q E => ∃ a dx src st, vs = [.ref a, src, st] ∧ H a = some (.ins C dx []) ∧
  ((((∃ x : Str, src = .str x ∧ x ∉ sources) ∨ ∃ t, TyX K H src t ∧ PySem.W.kitOne K t (.type "str") = some false) ∧ ∀ d H', But [a] H H' → H d = none → H' d = some (.xd [("value", src)]) → E (.ref (He.ga K "BadSource")) (some d) H') ∨
   ∃ x : Str, src = .str x ∧ x ∈ sources ∧
    ((((∃ t, TyX K H st t ∧ PySem.W.kitOne K t (.type "list") = some false ∧ PySem.W.kitOne K t (.type "tuple") = some false) ∨ (∃ p xs, st = .ref p ∧ (SqL K H p xs ∨ SqT K H p xs) ∧ 6 < xs.length)) ∧ ∀ d H', But [a] H H' → H d = none → H' d = some (.xd [("value", st)]) → E (.ref (He.ga K "BadStages")) (some d) H') ∨
     ∃ p xs, st = .ref p ∧ (SqL K H p xs ∨ SqT K H p xs) ∧ xs.length ≤ 6 ∧
      ((∃ n, Run C K H 0 [0] [x] xs (.inl n) ∧ ∀ d H', But [a] H H' → H d = none → H' d = some (.xd [("position", .int n)]) → E (.ref (He.ga K "BadStage")) (some d) H') ∨
       ∃ hs ls, Run C K H 0 [0] [x] xs (.inr (hs, ls)) ∧ ∀ H', But [a] H H' → PrI C K H' a hs ls xs → Q .non H')))
theorem scProgram_init : FnScope ["self", "source", "stages", "position", "stage"] ["self", "source", "stages"] (defScope sProgram_init) := ⟨rfl, rfl, rfl, by decide +kernel, rfl, by decide +kernel, by decide +kernel⟩
theorem i_Program {e0 : Addr} (F : FunD K "__init__" "Program.__init__" (defArgs sProgram_init) (defBody sProgram_init) (defScope sProgram_init) [.ref e0] [] f fd) (T : Ty P w K mg base) (D_is_source : DefOk P w K mg base CX0 1 "is_source" ["value"] [] (spSource K))
    (D_depth_behind : DefOk P w K mg base CX0 3 "depth_behind" ["depth", "stage"] [] (spBehind (He.ga K "Program") K)) (M_stand : MethOk P w K mg base CX0 3 (He.ga K "Program") "can_stand" ["self", "stage"] (spStand (He.ga K "Program") K)) :
    FnOk P w K mg base (L2.CX P w) 4 f fd ["self", "source", "stages"] (spInit (He.ga K "Program") K) ∧ Binds K fd ["self", "source", "stages"] [] ∧ ∃ ds, Vals [.ref e0] ds ∧ Binds K fd ["self", "source", "stages"] ds := by
  obtain ⟨tM, gMOS⟩ := T.g_MOST_STAGES
  refine ⟨F.ok scProgram_init (fun vs H Q E h => ?_) (fun cdv A outer s H vs Q E hr h => ?_), ?_, ?_⟩
  · obtain ⟨_, _, _, _, rfl, _⟩ := h
    rfl
  · obtain ⟨a, dx, src, st, rfl, hA, h⟩ := h
    refine ⟨_, (pss_cons (ps_if (pt_not (pt_val (pe_d D_is_source (hr.mono (by decide)) pass0 (pa_cons (pv 1) pa_nil)))) (pss_one (ps_raise rfl (takes_of rfl rfl rfl rfl) (pmk_er T.e_BadSource (hr.mono (by decide)) (pa_cons (pv 1) pa_nil))))
  pss_nil)
  (pss_cons (ps_if (PW.pt (pw_or (pt_not (pt_val (pe_callB call_isiT (by rfl) T.z_isinstance (by decide +kernel) (pa_cons (pv 2) (pa_cons (pe_tup (pa_cons (pe_bltn (v := .ty "list") (by rfl) T.z_list (by decide +kernel) rfl) (pa_cons (pe_bltn (v := .ty "tuple") (by rfl) T.z_tuple (by decide +kernel) rfl) pa_nil))) pa_nil))))) (pw_or1 (pt_cmpR op_gt (pe_callB call_len (by rfl) T.z_len PySem.boot_len (pa_cons (pv 2) pa_nil)) (pe_glob (v := .int 6) (by rfl) gMOS ⟨_, rfl⟩) (nomark _))))) (pss_one (ps_raise rfl (takes_of rfl rfl rfl rfl) (pmk_er T.e_BadStages (hr.mono (by decide)) (pa_cons (pv 2) pa_nil))))
  pss_nil)
  (pss_cons (ps_fld (pv 0) (pe_lst (pa_cons pe_int pa_nil)) rfl)
  (pss_cons (ps_fld (pv 0) (pe_lst (pa_cons (pv 1) pa_nil)) rfl)
  (pss_cons (ps_for (passes_of rfl) rfl (pi_enumA (by rfl) T.z_enumerate (pa_cons (pv 2) pa_nil)) (pg_tup rfl (pgs_cons (pg_name (i := 3) scProgram_init.nd rfl (.inl rfl)) (pgs_cons (pg_name (i := 4) scProgram_init.nd rfl (.inl rfl)) pgs_nil)))
  (pss_cons (ps_if (pt_not (pt_val (pe_mt M_stand hr pass0 (pv 0) (pa_cons (pv 4) pa_nil)))) (pss_one (ps_raise rfl (takes_of rfl rfl rfl rfl) (pmk_er T.e_BadStage (hr.mono (by decide)) (pa_cons (pv 3) pa_nil))))
  pss_nil)
  (pss_cons (ps_expr (pe_bm PySem.F.plainAttrs_list PySem.F.slot_list_append PySem.F.type_list_append mt_append (pe_fld (pv 0) rfl) (pa_cons (pe_d D_depth_behind (hr.mono (by decide)) pass0 (pa_cons (pe_ix ix_list (pe_fld (pv 0) rfl) (pe_un un_neg pe_int) (fun _ _ => rfl)) (pa_cons (pv 4) pa_nil))) pa_nil)))
  (pss_one (ps_if (pt_cmpR op_eq (pe_ix ix_tup (pv 4) pe_int (fun _ _ => rfl)) pe_str (nomark _)) (pss_one (ps_expr (pe_bm PySem.F.plainAttrs_list PySem.F.slot_list_extend PySem.F.type_list_extend mt_extendR (pe_fld (pv 0) rfl) (pa_cons (pe_fld (pe_ix ix_tup (pv 4) pe_int (fun _ _ => rfl)) rfl) pa_nil))))
  pss_nil)))))
  (pss_one (ps_frz (ps_frz (ps_fld (pv 0) (pe_callTy call_list_or (by rfl) T.z_tuple (by decide +kernel) (pa_cons (pv 2) pa_nil)) rfl))))))))), ?_⟩
    rcases h with ⟨hb, k⟩ | ⟨x, rfl, hx, h⟩
    · have hr1 : ∀ d H', But [a] H H' → H d = none → H' d = some (.xd [("value", src)]) → E (.ref (He.ga K "BadSource")) (some d) H' := k
      rcases hb with ⟨x, rfl, hx⟩ | ⟨t, ht, kt⟩
      · refine ⟨_, rfl, _, rfl, .inl ⟨x, rfl, _, rfl, ?_⟩⟩
        rw [decide_eq_false hx]
        exact ⟨_, rfl, _, rfl, fun d H' s1 nd e => k d H' (.of s1) nd e⟩
      · exact ⟨_, rfl, _, rfl, .inr ⟨t, ht, kt, _, rfl, _, rfl, _, rfl, fun d H' s1 nd e => k d H' (.of s1) nd e⟩⟩
    refine ⟨_, rfl, _, rfl, .inl ⟨x, rfl, _, rfl, ?_⟩⟩
    rw [decide_eq_true hx]
    refine ⟨_, rfl, ?_⟩
    rcases h with ⟨hb, k⟩ | ⟨p, xs, rfl, hS, hl6, h⟩
    · rcases hb with ⟨t, ht, kl, kt⟩ | ⟨p, xs, rfl, hS, hl6⟩
      · refine ⟨szl rfl, fun tp hp => ⟨_, _, _, t, [.type "list", .type "tuple"], false, rfl, upd_same, .cons (.ty _) (.cons (.ty _) .nil), tyx_same (same_upd hp) ht, kitAny_cons kl (fun _ => kitAny_cons kt (fun _ => rfl) (fun z => nomatch z)) (fun z => nomatch z), _, rfl, ?_⟩⟩
        exact ⟨_, rfl, _, rfl, fun d H' s1 nd e => k d H' (.of (same_trans (same_upd hp) s1)) (none_same (same_upd hp) nd) e⟩
      · have ht : ∃ n : String, TyX K H (.ref p) (.type n) ∧ PySem.W.kitAny K (.type n) [.type "list", .type "tuple"] = some true := by
          rcases hS with hS | hS
          · exact ⟨_, ty_lst hS, kitAny_cons (b := true) (kit_ty (by decide +kernel)) (fun z => nomatch z) fun _ => rfl⟩
          · exact ⟨_, ty_tup hS, kitAny_cons (b := false) (kit_ty (by decide +kernel)) (fun _ => kitAny_cons (b := true) (kit_ty (by decide +kernel)) (fun z => nomatch z) fun _ => rfl) fun z => nomatch z⟩
        obtain ⟨n, ht, kt⟩ := ht
        refine ⟨szl rfl, fun tp hp => ⟨_, _, _, _, [.type "list", .type "tuple"], true, rfl, upd_same, .cons (.ty _) (.cons (.ty _) .nil), tyx_same (same_upd hp) ht, kt, _, rfl, ?_⟩⟩
        have s0 := same_upd (o := .tup [.ty "list", .ty "tuple"]) hp
        have eL : decide ((6 : Int) < (xs.length : Int)) = true := decide_eq_true (by omega)
        have fin : ∀ H1, Same H H1 → tCons (tVar 2) tNil (start ["self", "source", "stages", "position", "stage"] [V.ref a, V.str x, V.ref p]) H1 fun vs H1 => ∃ v, vs = [v] ∧ ∀ (d : Addr) (H' : Hp), Same H1 H' → H1 d = none → H' d = some (HO.xd [("value", v)]) → E (.ref (He.ga K "BadStages")) (some d) H' :=
          fun H1 s1 => ⟨_, rfl, _, rfl, fun d H' s2 nd e => k d H' (.of (same_trans s1 s2)) (none_same s1 nd) e⟩
        rcases hS with hS | hS
        · refine ⟨_, rfl, _, _, rfl, .inl ⟨_, sqL_same s0 hS, rfl⟩, _, _, rfl, rfl, _, rfl, ?_⟩
          rw [eL]
          exact fin _ s0
        · refine ⟨_, rfl, _, _, rfl, .inr ⟨_, sqT_same s0 hS, rfl⟩, _, _, rfl, rfl, _, rfl, ?_⟩
          rw [eL]
          exact fin _ s0
    have ht : ∃ n : String, TyX K H (.ref p) (.type n) ∧ PySem.W.kitAny K (.type n) [.type "list", .type "tuple"] = some true := by
      rcases hS with hS | hS
      · exact ⟨_, ty_lst hS, kitAny_cons (b := true) (kit_ty (by decide +kernel)) (fun z => nomatch z) fun _ => rfl⟩
      · exact ⟨_, ty_tup hS, kitAny_cons (b := false) (kit_ty (by decide +kernel)) (fun _ => kitAny_cons (b := true) (kit_ty (by decide +kernel)) (fun z => nomatch z) fun _ => rfl) fun z => nomatch z⟩
    obtain ⟨nty, ht, kt⟩ := ht
    refine ⟨szl rfl, fun tp hp => ⟨_, _, _, _, [.type "list", .type "tuple"], true, rfl, upd_same, .cons (.ty _) (.cons (.ty _) .nil), tyx_same (same_upd hp) ht, kt, _, rfl, ?_⟩⟩
    have s0 := same_upd (o := .tup [.ty "list", .ty "tuple"]) hp
    refine ⟨_, rfl, _, xs.length, rfl, (hS.elim (fun h => .inl ⟨_, sqL_same s0 h, rfl⟩) fun h => .inr ⟨_, sqT_same s0 h, rfl⟩), _, _, rfl, rfl, _, rfl, ?_⟩
    rw [decide_eq_false (by omega : ¬ (6 : Int) < (xs.length : Int))]
    generalize upd H tp (.tup [.ty "list", .ty "tuple"]) = H0 at s0 ⊢
    have hA0 := s0 _ _ hA
    refine ⟨szl rfl, fun hh hn => ⟨_, rfl, a, _, dx, [], rfl, same_upd hn _ _ hA0, T.pc.cl, T.pc.nH, by decide, ?_⟩⟩
    refine ⟨_, rfl, szl rfl, fun ll ln => ⟨_, rfl, a, _, dx, _, rfl, same_upd ln _ _ upd_same, T.pc.cl, T.pc.nL, (by show 1 < 1000; decide), ?_⟩⟩
    have eP : putF "leaves" (V.ref ll) (putF "heights" (V.ref hh) []) = [(("heights" : Str), V.ref hh), (("leaves" : Str), V.ref ll)] := rfl
    rw [eP]
    have eQ : putF "heights" (V.ref hh) [] = [(("heights" : Str), V.ref hh)] := rfl
    rw [eQ] at ln ⊢
    have J : Ini (He.ga K "Program") a dx hh ll H (upd (upd (upd (upd H0 hh (.lst [.int 0])) a (.ins (He.ga K "Program") dx [("heights", .ref hh)])) ll (.lst [.str x])) a (.ins (He.ga K "Program") dx [("heights", .ref hh), ("leaves", .ref ll)])) [0] [x] := by
      have nha : hh ≠ a := by
        rintro rfl
        rw [hA0] at hn
        cases hn
      have nla : ll ≠ a := by
        rintro rfl
        rw [upd_same] at ln
        cases ln
      have nlh : ll ≠ hh := by
        rintro rfl
        rw [upd_ne nla, upd_same] at ln
        cases ln
      rw [upd_ne nla, upd_ne nlh] at ln
      have nh : H hh = none := none_same s0 hn
      have nl : H ll = none := none_same s0 ln
      exact ⟨upd_same, by rw [upd_ne nha, upd_ne nlh.symm, upd_ne nha, upd_same]; rfl, by rw [upd_ne nla, upd_same]; rfl, (((((But.of s0).updN nh).trans (.upd (by simp))).updN nl).trans (.upd (by simp))), nh, nl, nlh.symm, nha, nla⟩
    generalize (upd (upd (upd (upd H0 hh (.lst [.int 0])) a (.ins (He.ga K "Program") dx [("heights", .ref hh)])) ll (.lst [.str x])) a (.ins (He.ga K "Program") dx [("heights", .ref hh), ("leaves", .ref ll)])) = H1 at J ⊢
    clear hA0 s0 hn ln
    obtain ⟨o, hR, kE, kQ⟩ : ∃ o, Run (He.ga K "Program") K H 0 [0] [x] xs o ∧ (∀ n, o = .inl n → ∀ d H', But [a] H H' → H d = none → H' d = some (.xd [("position", .int n)]) → E (.ref (He.ga K "BadStage")) (some d) H') ∧
        ∀ hs ls, o = .inr (hs, ls) → ∀ H', But [a] H H' → PrI (He.ga K "Program") K H' a hs ls xs → Q .non H' := by
      rcases h with ⟨n, h, k⟩ | ⟨hs, ls, h, k⟩
      · exact ⟨_, h, (fun m e => by cases e; exact k), (fun _ _ e => by cases e)⟩
      · exact ⟨_, h, (fun m e => by cases e), (fun _ _ e => by cases e; exact k)⟩
    clear h
    have hSJL : SqL K H p xs → ∀ H', But [a] H H' → SqL K H' p xs := by
      intro hS H' b
      refine sqL_but b ?_ hS
      rintro b hb o e
      rw [List.mem_singleton.mp hb, hA] at e
      cases e
      exact fun _ _ => ⟨(fun z => by cases z), fun z => by cases z⟩
    have hSJT : SqT K H p xs → ∀ H', But [a] H H' → SqT K H' p xs := by
      intro hS H' b
      refine sqT_but b ?_ hS
      rintro b hb o e
      rw [List.mem_singleton.mp hb, hA] at e
      cases e
      exact fun _ _ => ⟨(fun z => by cases z), fun z => by cases z⟩
    refine ⟨_, rfl, p, xs, rfl, for_enumA (K := K) (a := p) (xs := xs) (fun i σ H' => ∃ (hs : List Int) (ls : List Str) (c3 c4 : Option V), σ = [some (.ref a), some (.str x), some (.ref p), c3, c4] ∧ Ini (He.ga K "Program") a dx hh ll H H' hs ls ∧ hs.length = i + 1 ∧ LsOk ls ∧ ls ≠ [] ∧ Run (He.ga K "Program") K H i hs ls (xs.drop i) o)
      ⟨[0], [x], _, _, rfl, J, rfl, .one hx, by simp, hR⟩ (hS.imp (fun h => ⟨hSJL h _ J.but, fun i σ H' _ ⟨_, _, _, _, _, I, _⟩ => hSJL h _ I.but⟩) fun h => ⟨hSJT h _ J.but, fun i σ H' _ ⟨_, _, _, _, _, I, _⟩ => hSJT h _ I.but⟩) ?_ ?_⟩
    · rintro i v t σ H2 hv ⟨hs, ls, c3, c4, rfl, I, l1, lk, l0, R⟩ ht
      have sT := same_upd (o := .tup [.int (i : Nat), v]) ht
      obtain ⟨hi, ev⟩ := List.getElem?_eq_some_iff.mp hv
      rw [List.drop_eq_getElem_cons hi, ev] at R
      have I2 := I.same sT
      have hne : hs ≠ [] := by
        rintro rfl
        cases l1
      refine ⟨t, _, rfl, SqT.of upd_same, rfl, _, _, rfl, _, _, rfl, rfl, ?_⟩
      generalize upd H2 t (.tup [.int (i : Nat), v]) = H3 at I2 ⊢
      refine ⟨_, rfl, a, dx, _, rfl, I2.hA, rfl, _, rfl, a, dx, _, hh, ll, hs, ls, v, rfl, I2.hA, lookup_1, (lookup_2).trans lookup_1, SqL.of I2.hH, SqL.of I2.hL, hne, ?_⟩
      cases R with
      | bad hb =>
        exact .inl ⟨hb.Kp (I2.Kp hA), fun H4 s4 => ⟨_, rfl, _, rfl, _, rfl, fun d H' s5 nd e => kE i rfl d H' ((I2.same s4).but.trans (.of s5)) (I2.none s4 nd) e⟩⟩
      | off hg hs0 =>
        refine .inr ⟨_, hg.Kp (I2.Kp hA), fun H4 s4 => ⟨_, rfl, ?_⟩⟩
        rw [hs0]
        exact ⟨_, rfl, _, rfl, fun d H' s5 nd e => kE i rfl d H' ((I2.same s4).but.trans (.of s5)) (I2.none s4 nd) e⟩
      | @on _ _ _ _ _ g0 _ hg0 hs0 R =>
        refine .inr ⟨_, hg0.Kp (I2.Kp hA), fun H4 s4 => ⟨_, rfl, ?_⟩⟩
        rw [hs0]
        have I4 := I2.same s4
        have hg4 := hg0.Kp (I4.Kp hA)
        refine ⟨_, rfl, a, _, dx, _, _, rfl, I4.hA, T.pc.cl, T.pc.nH, lookup_1, .inl ⟨rfl, _, SqL.of I4.hH⟩, ?_⟩
        refine ⟨_, rfl, a, _, dx, _, _, rfl, I4.hA, T.pc.cl, T.pc.nH, lookup_1, _, rfl, _, _, _, _, rfl, rfl, SqL.of I4.hH, at_last hne, _, rfl, _, _, _, rfl, hg4, _, _, _, rfl, rfl, I4.hH, szlt (by rw [List.length_map]; omega), ?_⟩
        have eh : hs.map V.int ++ [V.int (behind (lastI hs) g0)] = (hs ++ [behind (lastI hs) g0]).map V.int := by simp
        rw [eh]
        have I5 := I4.hgt (hs' := hs ++ [behind (lastI hs) g0])
        have hg5 := hg0.Kp (I5.Kp hA)
        clear hg4 s4 I4
        generalize upd H4 hh (.lst ((hs ++ [behind (lastI hs) g0]).map V.int)) = H5 at I5 hg5 ⊢
        have l5 : (hs ++ [behind (lastI hs) g0]).length = i + 1 + 1 := by rw [List.length_append, l1]; rfl
        cases hg5 with
        | @zip _ q hs' ls' row tA pA =>
          obtain ⟨dq, b1, b2, b3, o1, o2, h1, h2, h3, _, _, lk', l0', _, _⟩ := id pA
          have ln4 := lk.len
          have ln4' := lk'.len
          refine ⟨_, rfl, _, _, _, _, rfl, rfl, tA, atI_nat (j := 0) rfl, rfl, _, rfl, ?_⟩
          rw [sc_str, decide_eq_true rfl]
          refine ⟨_, rfl, a, _, dx, _, _, rfl, I5.hA, T.pc.cl, T.pc.nL, (lookup_2).trans lookup_1, .inl ⟨rfl, _, SqL.of I5.hL⟩, ?_⟩
          refine ⟨_, rfl, _, _, _, _, rfl, rfl, tA, atI_nat (j := 1) rfl, _, _, _, _, _, rfl, h1, T.pc.cl, T.pc.nL, (lookup_2).trans lookup_1, ?_⟩
          refine ⟨_, _, _, _, rfl, rfl, I5.hL, .inr ⟨_, h3⟩, szle (by rw [List.length_map, List.length_map]; omega), ?_⟩
          rw [← List.map_append]
          refine ⟨_, _, _, _, rfl, I5.lvs, l5, lk.app lk' ?_, ?_, R⟩
          · simpa [stands] using hs0
          · simp [l0]
        | flat tA =>
          refine ⟨_, rfl, _, _, _, _, rfl, rfl, tA, atI_nat (j := 0) rfl, rfl, _, rfl, ?_⟩
          rw [sc_str, decide_eq_false (by decide +kernel)]
          refine ⟨_, _, _, _, rfl, I5, l5, lk, l0, ?_⟩
          have e : ls ++ leavesOf .flat = ls := List.append_nil _
          rw [e] at R
          exact R
        | @nm _ wd nx tA b c =>
          refine ⟨_, rfl, _, _, _, _, rfl, rfl, tA, atI_nat (j := 0) rfl, rfl, _, rfl, ?_⟩
          rw [sc_str, decide_eq_false (named_ne b).2.1]
          refine ⟨_, _, _, _, rfl, I5, l5, lk, l0, ?_⟩
          have e : ls ++ leavesOf (.nm wd nx) = ls := List.append_nil _
          rw [e] at R
          exact R
        | @nu _ wd n tA b c e =>
          refine ⟨_, rfl, _, _, _, _, rfl, rfl, tA, atI_nat (j := 0) rfl, rfl, _, rfl, ?_⟩
          rw [sc_str, decide_eq_false (numbered_ne b).2.1]
          refine ⟨_, _, _, _, rfl, I5, l5, lk, l0, ?_⟩
          have e : ls ++ leavesOf (.nu wd n) = ls := List.append_nil _
          rw [e] at R
          exact R
    · rintro σ H2 ⟨hs, ls, c3, c4, rfl, I, l1, lk, l0, R⟩
      rw [List.drop_length] at R
      have eo : o = .inr (hs, ls) := by
        cases R
        rfl
      subst eo
      have hne : hs ≠ [] := by
        rintro rfl
        cases l1
      refine ⟨fun σ' H' => ∃ od r H3, Same H2 H3 ∧ SqT K H3 r xs ∧ H' = upd (upd H3 a (.ins (He.ga K "Program") dx [("heights", .ref hh), ("leaves", .ref ll), ("row", .ref r)])) hh (.frz od (.lst (hs.map V.int))), ?_, ?_⟩
      · refine ⟨fun σ' H' => ∃ r H3, Same H2 H3 ∧ SqT K H3 r xs ∧ H' = upd H3 a (.ins (He.ga K "Program") dx [("heights", .ref hh), ("leaves", .ref ll), ("row", .ref r)]), ?_, ?_⟩
        · refine ⟨_, rfl, p, xs, rfl, hS.imp (fun hS => ⟨hSJL hS _ I.but, fun r hr => ⟨_, rfl, a, _, dx, _, rfl, same_upd hr _ _ I.hA, T.pc.cl, T.pc.nR, (by show 2 < 1000; decide), r, _, same_upd hr, SqT.of upd_same, rfl⟩⟩) fun hS => ⟨hSJT hS _ I.but, ?_⟩⟩
          exact ⟨_, rfl, a, _, dx, _, rfl, I.hA, T.pc.cl, T.pc.nR, (by show 2 < 1000; decide), p, _, fun _ _ z => z, hSJT hS _ I.but, rfl⟩
        · rintro σ' H' ⟨r, H3, s3, hr, rfl⟩
          exact ⟨hh, .lst (hs.map V.int), by rw [upd_ne I.nha]; exact (I.same s3).hH, trivial, fun od => ⟨od, r, H3, s3, hr, rfl⟩⟩
      · rintro σ' H' ⟨od, r, H3, s3, hr, rfl⟩
        refine ⟨ll, .lst (ls.map V.str), by rw [upd_ne I.ne.symm, upd_ne I.nla]; exact (I.same s3).hL, trivial, fun ol => ?_⟩
        obtain ⟨q1, q2⟩ := I.fin (oh := od) (ol := ol) hA s3 hr hne lk l0 (by omega) hl6
        exact kQ _ _ rfl _ q1 q2
  · obtain ⟨ds, r, b⟩ := F.binds1 (ps := ["self", "source", "stages"]) 3 1 (by simp) rfl fun _ _ _ _ _ _ _ us its hu hi => match us, its, hu, hi with
      | [_, _, _], [_], _, _ => ⟨_, rfl, rfl⟩
    cases r
    exact b
  · exact F.binds1 (ps := ["self", "source", "stages"]) 2 0 (by simp) rfl fun _ _ _ _ _ _ _ us its hu hi => match us, its, hu, hi with
      | [_, _], [_], _, _ => ⟨_, rfl, rfl⟩
/-- Program(x, a list or a tuple): a new program -/
theorem rd_progA {C : Addr} {H1 : Hp} {x : Str} {p : Addr} {xs : List V} {hs : List Int} {ls : List Str} {Q : Addr → Hp → Prop} {E : XK} (hx : x ∈ sources) (hS : SqL K H1 p xs ∨ SqT K H1 p xs) (h6 : xs.length ≤ 6) (hR : Run C K H1 0 [0] [x] xs (.inr (hs, ls))) (k : ∀ q H2, Same H1 H2 → H1 q = none → PrI C K H2 q hs ls xs → Q q H2) :
    ∀ a dx, H1 a = none → H1 dx = none → dx ≠ a → spInit C K (.ref a :: ([.str x, .ref p] ++ [])) (upd (upd H1 dx (.own a)) a (.ins C dx [])) (fun v H2 => v = .non ∧ Q a H2) E := by
  intro a dx ha hd hn
  have s1 := same_upd (o := .own a) hd
  have ha1 : (upd H1 dx (.own a)) a = none := by
    rw [upd_ne hn.symm]
    exact ha
  have s2 := same_upd (o := .ins C dx []) ha1
  refine ⟨a, dx, _, _, rfl, upd_same, .inr ⟨x, rfl, hx, .inr ⟨p, xs, rfl, hS.imp (sqL_same (same_trans s1 s2)) (sqT_same (same_trans s1 s2)), h6, .inr ⟨hs, ls, hR.Kp (.of (same_trans s1 s2)), fun H' b hP => ⟨rfl, k a H' ?_ ha hP⟩⟩⟩⟩⟩
  intro c o hc
  exact b c o (by simpa using ne_of_none hc ha) (same_trans s1 s2 c o hc)
/-- Program(x, a list): a new program -/
theorem rd_prog {C : Addr} {H1 : Hp} {x : Str} {p : Addr} {xs : List V} {hs : List Int} {ls : List Str} {Q : Addr → Hp → Prop} {E : XK} (hx : x ∈ sources) (hS : SqL K H1 p xs) (h6 : xs.length ≤ 6) (hR : Run C K H1 0 [0] [x] xs (.inr (hs, ls))) (k : ∀ q H2, Same H1 H2 → H1 q = none → PrI C K H2 q hs ls xs → Q q H2) :
    ∀ a dx, H1 a = none → H1 dx = none → dx ≠ a → spInit C K (.ref a :: ([.str x, .ref p] ++ [])) (upd (upd H1 dx (.own a)) a (.ins C dx [])) (fun v H2 => v = .non ∧ Q a H2) E := rd_progA hx (.inl hS) h6 hR k
end

end K02
namespace K02
open PySem PySem.Spec PyProof.Rows L2 Lw
local macro_rules | `(tactic| walk_at "rd") => `(tactic| repeat (first | refine ⟨_, rfl, ?_⟩ | refine ⟨_, _, rfl, rfl, ?_⟩))
/-! ### the law's draws -/
def spSrc (K : PySem.W.Frag) : Sp := fun vs H Q _ => ∃ (a : Addr) (ns : List Int) (st : Int), vs = [.ref a, .int st] ∧ SqL K H a (ns.map V.int) ∧ ns.length ≤ 63 ∧ (∀ z ∈ ns, Builtin.Int.intBits z ≤ 1048576) ∧ 0 ≤ st ∧ st < 4 ∧
  ∀ (p : Addr) (r m : Int), H p = none → Q (.ref p) (upd H p (.lst [.int r, .int m]))
def spDraw : Sp := fun vs H Q _ => ∃ (s : Addr) (n r m : Int), vs = [.ref s, .int n] ∧ 0 < n ∧ n < 1073741824 ∧ H s = some (.lst [.int r, .int m]) ∧
  ∀ (r' m' d : Int), 0 ≤ d → d < n → Q (.int d) (upd H s (.lst [.int r', .int m']))
theorem bits_lt {z : Int} : z.natAbs < 2 ^ Builtin.Int.intBits z := by
  unfold Builtin.Int.intBits
  split
  · rename_i h0
    have h1 : z = 0 := by simpa using h0
    subst h1
    decide
  · exact Nat.lt_log2_self
theorem bits_le {z : Int} {n : Nat} (h : z.natAbs < 2 ^ n) : Builtin.Int.intBits z ≤ n := by
  unfold Builtin.Int.intBits
  split
  · exact Nat.zero_le _
  · rename_i h0
    have h1 : z ≠ 0 := by simpa using h0
    have h2 : z.natAbs ≠ 0 := by omega
    have h3 := (Nat.log2_lt (n := z.natAbs) (k := n) h2).mpr h
    omega
theorem pow_dbl (n : Nat) : 2 ^ (n + 1) = 2 ^ n + 2 ^ n := by
  rw [Nat.pow_succ]
  omega
/-- one step's base: mixed * 40009 + cell -/
theorem bits_step {m c : Int} (h1 : 0 ≤ m) (h2 : m < 2 ^ 32) (hc : Builtin.Int.intBits c ≤ 1048576) : CPowW (m * 40009 + c) 3 := by
  refine ⟨by omega, ?_⟩
  have a : (m * 40009).natAbs < 2 ^ 1048577 := by
    have : (m * 40009).natAbs < 2 ^ 48 := by omega
    exact Nat.lt_of_lt_of_le this (Nat.pow_le_pow_right (by omega) (by omega))
  have b : c.natAbs < 2 ^ 1048577 := Nat.lt_of_lt_of_le bits_lt (Nat.pow_le_pow_right (by omega) (by omega))
  have ab : (m * 40009 + c).natAbs < 2 ^ 1048578 := by
    have e : 2 ^ (1048577 + 1) = 2 ^ 1048577 + 2 ^ 1048577 := pow_dbl 1048577
    have e2 : 2 ^ 1048578 = 2 ^ 1048577 + 2 ^ 1048577 := e
    omega
  have q := bits_le ab
  omega
section
variable {P : Program} {w : World} {K : PySem.W.Frag} {mg : Str → Option Value} {base : Heap} {f : Addr} {fd : FuncData}
theorem scL_source : FnScope ["script", "start", "mixed", "cell", "rest"] ["script", "start"] (defScope sL_source) := ⟨rfl, rfl, rfl, by decide +kernel, rfl, by decide +kernel, by decide +kernel⟩
theorem d_source (F : FnP K "_law_source" "_law_source" sL_source f fd) (gm : mg "_law_source" = some (.ref f)) (T : Tx K mg) : DefOk P w K mg base CX0 1 "_law_source" ["script", "start"] [] (spSrc K) := by
  refine ⟨f, fd, [], F.ok scL_source (fun vs H Q E h => ?_) (fun cdv A outer s H vs Q E hr h => ?_), gm, F.kp, F.bindsN fun _ _ _ _ _ _ us hl => match us, hl with | [_, _], _ => rfl, .nil⟩
  · obtain ⟨_, _, _, rfl, _⟩ := h
    rfl
  · obtain ⟨a, ns, st, rfl, hS, hl, hb, h0, h4, k⟩ := h
    refine ⟨_, PSs.nox (pss_cons (ps_set (i := 2) scL_source.nd rfl (.inl rfl) (pe_op op_add pe_int (pv 1)))
  (pss_cons (ps_for PassesOwn.never rfl (pi_list (pv 0)) (pg_name (i := 3) scL_source.nd rfl (.inl rfl))
  (pss_one (ps_set (i := 2) scL_source.nd rfl (.inl rfl) (pe_op op_add (pe_op op_mod (pe_callTy call_int1 (by rfl) T.z_int (by decide +kernel) (pa_cons (pe_op op_powW (pe_callTy call_int1 (by rfl) T.z_int (by decide +kernel) (pa_cons (pe_op op_add (pe_op op_mul (pv 2) pe_int) (pe_callTy call_int1 (by rfl) T.z_int (by decide +kernel) (pa_cons (pv 3) pa_nil))) pa_nil)) pe_int) pa_nil)) pe_int) pe_int))))
  (pss_cons (ps_set (i := 4) scL_source.nd rfl (.inl rfl) pe_int)
  (pss_cons (ps_if (PW.pt (pw_and (pt_cmpR op_lt (pv 1) (pe_callB call_len (by rfl) T.z_len PySem.boot_len (pa_cons (pv 0) pa_nil)) (nomark _)) (pw_and1 (pt_cmpR op_ge (pe_ix ix_list (pv 0) (pv 1) (fun _ _ => rfl)) (pe_op op_pow pe_int pe_int) (nomark _))))) (pss_one (ps_set (i := 4) scL_source.nd rfl (.inl rfl) (pe_op op_sub (pe_ix ix_list (pv 0) (pv 1) (fun _ _ => rfl)) (pe_op op_pow pe_int pe_int))))
  pss_nil)
  (pss_one (ps_ret (pe_lst (pa_cons (pv 4) (pa_cons (pv 2) pa_nil))))))))), ?_⟩
    walk_at "rd"
    refine ⟨⟨_, hS⟩, for_list (K := K) (a := a) (xs := ns.map V.int) (fun i σ H' => ∃ (m : Int) (c : Option V), σ = [some (.ref a), some (.int st), some (.int m), c, none] ∧ H' = H ∧ 0 ≤ m ∧ m < 2 ^ 32)
      ⟨59 + st, none, rfl, rfl, by omega, by omega⟩ (fun i σ H' _ ⟨_, _, _, e, _⟩ => e ▸ hS) ?_ ?_⟩
    · rintro i y σ H' hi ⟨m, c, rfl, rfl, m0, m1⟩
      rw [List.getElem?_map] at hi
      obtain ⟨z, hz, rfl⟩ := Option.map_eq_some_iff.mp hi
      have hzb := hb z (List.mem_of_getElem? hz)
      refine ⟨_, rfl, _, _, rfl, rfl, .inr ⟨by decide, by decide⟩, _, rfl, .inl ⟨_, rfl, _, _, rfl, rfl, .inl ⟨_, rfl, _, _, rfl, rfl, bits_step m0 m1 hzb, .inl ⟨_, rfl, _, _, rfl, rfl, (by show (0 : Int) < 2147483563; decide), _, _, rfl, rfl, ?_⟩⟩⟩⟩
      exact ⟨_, _, rfl, rfl, by omega, by omega⟩
    · rintro σ H' ⟨m, c, rfl, rfl, m0, m1⟩
      obtain ⟨j, rfl⟩ : ∃ j : Nat, st = (j : Int) := ⟨st.toNat, by omega⟩
      refine ⟨_, rfl, _, rfl, _, _, rfl, .inl ⟨_, hS, rfl⟩, _, _, rfl, rfl, _, rfl, ite2 (fun c1 => ?_) (fun _ => ?_)⟩
      · have hj : j < ns.length := by
          have := of_decide_eq_true c1
          rw [List.length_map] at this
          omega
        have hx : (ns.map V.int)[j]? = some (V.int ns[j]) := by
          rw [List.getElem?_map, List.getElem?_eq_getElem hj]
          rfl
        refine ⟨_, rfl, _, rfl, _, _, _, _, rfl, rfl, hS, atI_nat hx, _, _, rfl, rfl, ⟨by decide, by decide, by decide⟩, _, _, rfl, rfl, _, rfl, ite2 (fun c2 => ?_) (fun _ => ?_)⟩
        · refine ⟨_, rfl, _, rfl, _, _, _, _, rfl, rfl, hS, atI_nat hx, _, _, rfl, rfl, ⟨by decide, by decide, by decide⟩, _, _, rfl, rfl, ?_⟩
          exact ⟨_, rfl, _, rfl, (szl rfl), fun p hp => k p _ _ hp⟩
        · exact ⟨_, rfl, _, rfl, (szl rfl), fun p hp => k p _ _ hp⟩
      · exact ite2 (fun c => nomatch c) fun _ => ⟨_, rfl, _, rfl, (szl rfl), fun p hp => k p _ _ hp⟩
theorem scL_draw : FnScope ["stream", "span", "found"] ["stream", "span"] (defScope sL_draw) := ⟨rfl, rfl, rfl, by decide +kernel, rfl, by decide +kernel, by decide +kernel⟩
theorem d_draw (F : FnP K "_law_draw" "_law_draw" sL_draw f fd) (gm : mg "_law_draw" = some (.ref f)) (T : Tx K mg) : DefOk P w K mg base CX0 1 "_law_draw" ["stream", "span"] [] spDraw := by
  refine ⟨f, fd, [], F.ok scL_draw (fun vs H Q E h => ?_) (fun cdv A outer s H vs Q E hr h => ?_), gm, F.kp, F.bindsN fun _ _ _ _ _ _ us hl => match us, hl with | [_, _], _ => rfl, .nil⟩
  · obtain ⟨_, _, _, _, rfl, _⟩ := h
    rfl
  · obtain ⟨s, n, r, m, rfl, n0, n1, hs, k⟩ := h
    refine ⟨_, PSs.nox (pss_cons (ps_if (pt_cmpR op_ge (pe_ix ix_list (pv 0) pe_int (fun _ _ => rfl)) (pv 1) (nomark _)) (pss_cons (ps_set (i := 2) scL_draw.nd rfl (.inl rfl) (pe_op op_mod (pe_callTy call_int1 (by rfl) T.z_int (by decide +kernel) (pa_cons (pe_ix ix_list (pv 0) pe_int (fun _ _ => rfl)) pa_nil)) (pv 1)))
  (pss_cons (ps_asg (pe_op op_fdiv (pe_ix ix_list (pv 0) pe_int (fun _ _ => rfl)) (pv 1)) (pg_sub (pv 0) pe_int set_list))
  (pss_one (ps_ret (pv 2)))))
  pss_nil)
  (pss_cons (ps_asg (pe_op op_mod (pe_callTy call_int1 (by rfl) T.z_int (by decide +kernel) (pa_cons (pe_op op_add (pe_op op_mul (pe_ix ix_list (pv 0) pe_int (fun _ _ => rfl)) pe_int) pe_int) pa_nil)) pe_int) (pg_sub (pv 0) pe_int set_list))
  (pss_one (ps_ret (pe_op op_mod (pe_callTy call_int1 (by rfl) T.z_int (by decide +kernel) (pa_cons (pe_op op_fdiv (pe_op op_mod (pe_callTy call_int1 (by rfl) T.z_int (by decide +kernel) (pa_cons (pe_op op_pow (pe_callTy call_int1 (by rfl) T.z_int (by decide +kernel) (pa_cons (pe_ix ix_list (pv 0) pe_int (fun _ _ => rfl)) pa_nil)) pe_int) pa_nil)) pe_int) pe_int) pa_nil)) (pv 1)))))), ?_⟩
    refine ⟨_, rfl, s, _, _, _, rfl, rfl, SqL.of hs, atI_nat (j := 0) rfl, _, rfl, _, _, rfl, rfl, _, rfl, ite2 (fun c1 => ?_) (fun c1 => ?_)⟩
    · refine ⟨_, rfl, s, _, _, _, rfl, rfl, SqL.of hs, atI_nat (j := 0) rfl, .inl ⟨_, rfl, _, rfl, _, _, rfl, rfl, n0, ?_⟩⟩
      refine ⟨_, rfl, s, _, _, _, rfl, rfl, SqL.of hs, atI_nat (j := 0) rfl, _, rfl, _, _, rfl, rfl, ⟨n0, n1⟩, _, rfl, s, _, _, 0, rfl, rfl, hs, rfl, ?_⟩
      refine ⟨_, rfl, k _ _ _ (Int.emod_nonneg _ (by omega)) (Int.emod_lt_of_pos _ n0)⟩
    · refine ⟨_, rfl, s, _, _, _, rfl, rfl, SqL.of hs, atI_nat (j := 1) rfl, _, _, rfl, rfl, .inr ⟨by decide, by decide⟩, _, _, rfl, rfl, .inl ⟨_, rfl, _, _, rfl, rfl, (by show (0 : Int) < 2147483647; decide), _, rfl, s, _, _, 1, rfl, rfl, hs, rfl, ?_⟩⟩
      have b0 : 0 ≤ (m * 69621 + 3571) % 2147483647 := Int.emod_nonneg _ (by decide)
      have b1 : (m * 69621 + 3571) % 2147483647 < 2147483647 := Int.emod_lt_of_pos _ (by decide)
      refine ⟨_, rfl, s, _, _, _, rfl, rfl, SqL.of upd_same, atI_nat (j := 1) rfl, .inl ⟨_, rfl, _, _, rfl, rfl, ⟨by decide, by decide, by omega⟩, .inl ⟨_, rfl, _, _, rfl, rfl, (by show (0 : Int) < 1000000007; decide), _, _, rfl, rfl, ⟨by decide, by decide⟩, .inl ⟨_, rfl, _, rfl, _, _, rfl, rfl, n0, ?_⟩⟩⟩⟩
      exact k _ _ _ (Int.emod_nonneg _ (by omega)) (Int.emod_lt_of_pos _ n0)
end

/-! ### the laws' drawn plans -/
section
variable {P : Program} {w : World} {K : PySem.W.Frag} {mg : Str → Option Value} {base : Heap} {f : Addr} {fd : FuncData}
def Strm (H : Hp) (s : Addr) : Prop := ∃ r m : Int, H s = some (.lst [.int r, .int m])
/-- a list or a text is picked from; it is not the stream -/
def spPick (K : PySem.W.Frag) : Sp := fun vs H Q _ => ∃ (s : Addr) (y : V), vs = [.ref s, y] ∧ Strm H s ∧
  ((∃ t xs, y = .ref t ∧ SqL K H t xs ∧ t ≠ s ∧ 0 < xs.length ∧ xs.length ≤ 1000 ∧ ∀ (i : Nat) (x : V) H', But [s] H H' → Strm H' s → xs[i]? = some x → Q x H') ∨
   ∃ z : Str, y = .str z ∧ 0 < z.length ∧ z.length ≤ 1000 ∧ ∀ (i : Nat) (c : Nat) H', But [s] H H' → Strm H' s → z.cps.toList[i]? = some c → Q (.str ⟨#[c]⟩) H')
theorem strm_upd {H : Hp} {s : Addr} {r m : Int} : Strm (upd H s (.lst [.int r, .int m])) s := ⟨r, m, upd_same⟩
theorem scL_pick : FnScope ["stream", "things"] ["stream", "things"] (defScope sL_pick) := ⟨rfl, rfl, rfl, by decide +kernel, rfl, by decide +kernel, by decide +kernel⟩
theorem d_pick (F : FnP K "_law_pick" "_law_pick" sL_pick f fd) (gm : mg "_law_pick" = some (.ref f)) (T : Tx K mg) (D_L_draw : DefOk P w K mg base CX0 1 "_law_draw" ["stream", "span"] [] spDraw) :
    DefOk P w K mg base CX0 2 "_law_pick" ["stream", "things"] [] (spPick K) := by
  refine ⟨f, fd, [], F.ok scL_pick (fun vs H Q E h => ?_) (fun cdv A outer s H vs Q E hr h => ?_), gm, F.kp, F.bindsN fun _ _ _ _ _ _ us hl => match us, hl with | [_, _], _ => rfl, .nil⟩
  · obtain ⟨_, _, rfl, _⟩ := h
    rfl
  · obtain ⟨s, y, rfl, ⟨r, m, hs⟩, h⟩ := h
    refine ⟨_, PSs.nox (pss_one (ps_ret (pe_ix ix_seq (pv 1) (pe_d D_L_draw (hr.mono (by decide)) pass0 (pa_cons (pv 0) (pa_cons (pe_callB call_len (by rfl) T.z_len PySem.boot_len (pa_cons (pv 1) pa_nil)) pa_nil))) (fun _ _ => rfl)))), ?_⟩
    rcases h with ⟨t, xs, rfl, ht, ne, l0, l1, k⟩ | ⟨z, rfl, l0, l1, k⟩
    · refine ⟨_, rfl, _, rfl, _, rfl, _, _, rfl, .inl ⟨_, ht, rfl⟩, s, _, r, m, rfl, by omega, by omega, hs, fun r' m' d d0 d1 => ?_⟩
      obtain ⟨j, rfl⟩ : ∃ j : Nat, d = (j : Int) := ⟨d.toNat, by omega⟩
      have hj : j < xs.length := by omega
      exact .inl ⟨t, xs, _, _, rfl, rfl, sq_upd ne ht, atI_nat (List.getElem?_eq_getElem hj), k j _ _ (.upd (by simp)) strm_upd (List.getElem?_eq_getElem hj)⟩
    · refine ⟨_, rfl, _, rfl, _, rfl, _, _, rfl, ⟨szle l1, rfl⟩, s, _, r, m, rfl, by omega, by omega, hs, fun r' m' d d0 d1 => ?_⟩
      obtain ⟨j, rfl⟩ : ∃ j : Nat, d = (j : Int) := ⟨d.toNat, by omega⟩
      have hj : j < z.cps.toList.length := by
        have : z.cps.toList.length = z.length := by rw [Array.length_toList]; rfl
        omega
      exact .inr (.inr ⟨z, _, _, rfl, rfl, szle l1, atI_nat (List.getElem?_eq_getElem hj), k j _ _ (.upd (by simp)) strm_upd (List.getElem?_eq_getElem hj)⟩)
/-! a list in a drawn order -/
def spMixed (K : PySem.W.Frag) : Sp := fun vs H Q _ => ∃ (s t : Addr) (xs : List V), vs = [.ref s, .ref t] ∧ Strm H s ∧ SqL K H t xs ∧ xs.length ≤ 1000 ∧
  ∀ l ys H', But [s] H H' → Strm H' s → H l = none → H' l = some (.lst ys) → ys.Perm xs → Q (.ref l) H'
theorem scL_mixed : FnScope ["stream", "things", "lot", "found"] ["stream", "things"] (defScope sL_mixed) := ⟨rfl, rfl, rfl, by decide +kernel, rfl, by decide +kernel, by decide +kernel⟩
theorem d_mixed (F : FnP K "_law_mixed" "_law_mixed" sL_mixed f fd) (gm : mg "_law_mixed" = some (.ref f)) (T : Tx K mg) (D_L_draw : DefOk P w K mg base CX0 1 "_law_draw" ["stream", "span"] [] spDraw) :
    DefOk P w K mg base CX0 2 "_law_mixed" ["stream", "things"] [] (spMixed K) := by
  refine ⟨f, fd, [], F.ok scL_mixed (fun vs H Q E h => ?_) (fun cdv A outer s H vs Q E hr h => ?_), gm, F.kp, F.bindsN fun _ _ _ _ _ _ us hl => match us, hl with | [_, _], _ => rfl, .nil⟩
  · obtain ⟨_, _, _, rfl, _⟩ := h
    rfl
  · obtain ⟨s, t, xs, rfl, ⟨r, m, hs⟩, hT, l1, k⟩ := h
    refine ⟨_, PSs.nox (pss_cons (ps_par (i := 2) (j := 3) (by rfl) scL_mixed.nd rfl rfl (by decide) rfl rfl (pa_cons (pe_callTy call_list_of (by rfl) T.z_list (by decide +kernel) (pa_cons (pv 1) pa_nil)) (pa_cons (pe_lst pa_nil) pa_nil)) (by rfl))
  (pss_cons (ps_while PassesOwn.never (pt_cmpR (op_ne0 hr.units0) (pv 2) (pe_lst pa_nil) (nomark _))
  (pss_one (ps_expr (pe_bm PySem.F.plainAttrs_list PySem.F.slot_list_append PySem.F.type_list_append mt_append (pv 3) (pa_cons (pe_bm PySem.F.plainAttrs_list PySem.F.slot_list_pop PySem.F.type_list_pop mt_popAt (pv 2) (pa_cons (pe_d D_L_draw (hr.mono (by decide)) pass0 (pa_cons (pv 0) (pa_cons (pe_callB call_len (by rfl) T.z_len PySem.boot_len (pa_cons (pv 2) pa_nil)) pa_nil))) pa_nil)) pa_nil)))))
  (pss_one (ps_ret (pv 3))))), ?_⟩
    refine ⟨_, rfl, t, xs, rfl, .inl hT, fun la na => ⟨szl rfl, fun lb nb => ⟨_, _, rfl, ?_⟩⟩⟩
    have nal : la ≠ lb := by
      rintro rfl
      rw [upd_same] at nb
      cases nb
    have nb0 : H lb = none := by
      rw [upd_ne nal.symm] at nb
      exact nb
    have sa : la ≠ s := by
      rintro rfl
      rw [hs] at na
      cases na
    have sb : lb ≠ s := by
      rintro rfl
      rw [hs] at nb0
      cases nb0
    refine ⟨fun m σ H' => ∃ lot found : List V, σ = [some (.ref s), some (.ref t), some (.ref la), some (.ref lb)] ∧ m = lot.length ∧ H' la = some (.lst lot) ∧ H' lb = some (.lst found) ∧ (found ++ lot).Perm xs ∧ But [s] H H' ∧ Strm H' s,
      ⟨_, xs, [], rfl, rfl, by rw [upd_ne nal, upd_same], upd_same, .refl _, .of (same_trans (same_upd na) (same_upd nb)), r, m, by rw [upd_ne sb.symm, upd_ne sa.symm]; exact hs⟩, ?_⟩
    rintro m0 σ H1 ⟨lot, found, rfl, rfl, h1, h2, hp, b1, ⟨r1, m1, hs1⟩⟩
    have hl := hp.length_eq
    rw [List.length_append] at hl
    refine ⟨_, rfl, szl rfl, fun p hp0 => ⟨la, p, lot, rfl, rfl, SqL.of (by rw [upd_ne (ne_of_none h1 hp0)]; exact h1), SqL.of upd_same, _, rfl, ?_⟩⟩
    have s2 := same_upd (o := .lst []) hp0
    have h1' := s2 _ _ h1
    have h2' := s2 _ _ h2
    have hs1' := s2 _ _ hs1
    have b2 : But [s] H (upd H1 p (.lst [])) := b1.trans (.of s2)
    generalize upd H1 p (.lst []) = H2 at h1' h2' hs1' b2 ⊢
    cases hlot : lot with
    | nil =>
      subst hlot
      rw [List.append_nil] at hp
      exact ⟨_, rfl, k _ _ _ b2 ⟨_, _, hs1'⟩ nb0 h2' hp⟩
    | cons x0 r0 =>
      rw [← hlot]
      have hpos : 0 < lot.length := by rw [hlot]; exact Nat.zero_lt_succ _
      have e0 : (!lot.isEmpty) = true := by rw [hlot]; rfl
      clear hlot
      rw [e0]
      refine ⟨_, fun _ _ z => z, ?_⟩
      refine ⟨_, rfl, .inl ⟨rfl, _, SqL.of h2'⟩, _, rfl, .inl ⟨rfl, _, SqL.of h1'⟩, _, rfl, _, rfl, _, _, rfl, .inl ⟨_, SqL.of h1', rfl⟩, s, _, r1, m1, rfl, by omega, by omega, hs1', fun r' m' d d0 d1 => ?_⟩
      obtain ⟨j, rfl⟩ : ∃ j : Nat, d = (j : Int) := ⟨d.toNat, by omega⟩
      have hj : j < lot.length := by omega
      refine ⟨la, lot, (j : Int), j, lot[j], rfl, rfl, by rw [upd_ne sa]; exact h1', by omega, by omega, seqIndex_of (by omega) (by omega), List.getElem?_eq_getElem hj, ?_⟩
      refine ⟨lb, found, _, rfl, rfl, by rw [upd_ne nal.symm, upd_ne sb]; exact h2', szlt (by omega), ?_⟩
      refine ⟨_, ?_, lot.eraseIdx j, found ++ [lot[j]], rfl, rfl, by rw [upd_ne nal, upd_same], upd_same, ?_, ((b2.trans (.upd (by simp))).updN na).updN nb0, r', m', by rw [upd_ne sb.symm, upd_ne sa.symm, upd_same]⟩
      · rw [List.length_eraseIdx_of_lt hj]
        omega
      · rw [List.append_assoc]
        exact ((erase_perm hj).append_left found).trans hp
/-! the depths by the law's own words -/
def spHgt (K : PySem.W.Frag) (n : Nat) : Sp := fun vs H Q _ => ∃ d v s, vs = [.int d, v] ∧ StV K H s v ∧ rkS s ≤ n ∧ okS d s ∧ ∀ H', Same H H' → Q (.int (hgS d s)) H'
def spDep (K : PySem.W.Frag) (n : Nat) : Sp := fun vs H Q _ => ∃ p s r, vs = [.ref p] ∧ PlV K H s r p ∧ rkR r < n ∧ okR 0 r ∧ ∀ H', Same H H' → Q (.int (hgR 0 r)) H'
theorem scL_height : FnScope ["height", "stage"] ["height", "stage"] (defScope sL_height) := ⟨rfl, rfl, rfl, by decide +kernel, rfl, by decide +kernel, by decide +kernel⟩
theorem scL_depth : FnScope ["plan", "height", "stage"] ["plan"] (defScope sL_depth) := ⟨rfl, rfl, rfl, by decide +kernel, rfl, by decide +kernel, by decide +kernel⟩
theorem d_height (n : Nat) (F : FnP K "_law_height" "_law_height" sL_height f fd) (gm : mg "_law_height" = some (.ref f)) (T : Tx K mg) (D_L_depth : DefOk P w K mg base CX0 (2 * n + 1) "_law_depth" ["plan"] [] (spDep K n)) :
    DefOk P w K mg base CX0 (2 * n + 2) "_law_height" ["height", "stage"] [] (spHgt K n) := by
  refine ⟨f, fd, [], F.ok scL_height (fun vs H Q E h => ?_) (fun cdv A outer s H vs Q E hr h => ?_), gm, F.kp, F.bindsN fun _ _ _ _ _ _ us hl => match us, hl with | [_, _], _ => rfl, .nil⟩
  · obtain ⟨_, _, _, rfl, _⟩ := h
    rfl
  · obtain ⟨d, v, s, rfl, hV, hk, ho, k⟩ := h
    refine ⟨_, PSs.nox (pss_cons (ps_if (pt_cmpR op_eq (pe_ix ix_tup (pv 1) pe_int (fun _ _ => rfl)) pe_str (nomark _)) (pss_one (ps_ret pe_int))
  pss_nil)
  (pss_cons (ps_if (pt_cmpR op_eq (pe_ix ix_tup (pv 1) pe_int (fun _ _ => rfl)) pe_str (nomark _)) (pss_one (ps_ret (pe_op op_add pe_int (pe_callB (call_min2 rfl) (by rfl) T.z_min (by decide +kernel) (pa_cons (pv 0) (pa_cons (pe_d D_L_depth (hr.mono (by omega)) pass0 (pa_cons (pe_ix ix_tup (pv 1) pe_int (fun _ _ => rfl)) pa_nil)) pa_nil))))))
  pss_nil)
  (pss_one (ps_ret (pe_op op_add (pv 0) (pe_dget2 (units1 hr) (pe_disp (pps_cons pe_str pe_int (pps_cons pe_str (pe_op op_sub pe_int pe_int) pps_nil)) (by rfl) (by rfl) (fun z => by cases z) (by decide)) (pe_ix ix_tup (pv 1) pe_int (fun _ _ => rfl)) pe_int ⟨rfl, rfl, rfl, rfl⟩)))))), ?_⟩
    have low : ∀ (wd : Str) (r : List V) (t : Addr), SqT K H t (.str wd :: r) → (∀ H', Same H H' → Q (.int (d + lowV wd)) H') → tRet (tOp (rI0 fun i j => V.int (i + j)) (tVar 0) (tDGet2 (tDisp [(tC (.str "lots"), tC (.int 1)), (tC (.str "flat"), tOp (rI0 fun i j => V.int (i - j)) (tC (.int 0)) (tC (.int 1)))]) (tOp (rIxT K) (tVar 1) (tC (.int 0))) (tC (.int 0)))) { nx := fun _ H' => Q .non H', rt := Q } (start ["height", "stage"] [.int d, .ref t]) H := by
      intro wd r t a kk
      refine ⟨_, rfl, fun p hp => ⟨_, _, rfl, rfl, upd_same, [(Sum.inr ("lots" : Str), V.int 1), (Sum.inr ("flat" : Str), V.int (0 - 1))], rfl, by show 2 ≤ 15; decide, ?_⟩⟩
      rw [upd_upd]
      have s1 := same_upd (o := .dK (mergeK [] [(Sum.inr ("lots" : Str), V.int 1), (Sum.inr ("flat" : Str), V.int (0 - 1))])) hp
      refine ⟨_, rfl, .inl ⟨_, .inl upd_same⟩, _, rfl, _, _, _, _, rfl, rfl, sqT_same s1 a, atI_nat (j := 0) rfl, _, .inl ⟨_, Sum.inr wd, .inl upd_same, rfl, rfl⟩, ?_⟩
      rw [dget_low]
      exact ⟨_, _, rfl, rfl, kk _ s1⟩
    cases s with
    | nm wd x =>
      obtain ⟨t, rfl, a⟩ := hV
      rw [okS] at ho
      have n2 := (named_ne ho.1).2.1
      refine ⟨_, rfl, _, _, _, _, rfl, rfl, a, atI_nat (j := 0) rfl, rfl, _, rfl, ?_⟩
      rw [sc_str]
      rw [hgS] at k
      by_cases hm : wd = "map"
      · rw [decide_eq_true hm]
        rw [if_pos hm] at k
        exact k _ (Same.refl _)
      · rw [decide_eq_false hm]
        rw [if_neg hm] at k
        refine ⟨_, rfl, _, _, _, _, rfl, rfl, a, atI_nat (j := 0) rfl, rfl, _, rfl, ?_⟩
        rw [sc_str, decide_eq_false n2]
        have key : ∀ w ∈ named, lowV w = 0 := by decide +kernel
        exact low wd _ t a (by rw [key wd ho.1, Int.add_zero]; exact k)
    | nu wd n =>
      obtain ⟨t, rfl, a⟩ := hV
      rw [okS] at ho
      have n2 := (numbered_ne ho.1).2.1
      have key : ∀ w ∈ counted, w ≠ "map" ∧ lowV w = if w = "lots" then 1 else 0 := by decide +kernel
      obtain ⟨n1, e0⟩ := key wd ho.1
      refine ⟨_, rfl, _, _, _, _, rfl, rfl, a, atI_nat (j := 0) rfl, rfl, _, rfl, ?_⟩
      rw [sc_str, decide_eq_false n1]
      refine ⟨_, rfl, _, _, _, _, rfl, rfl, a, atI_nat (j := 0) rfl, rfl, _, rfl, ?_⟩
      rw [sc_str, decide_eq_false n2]
      refine low wd _ t a ?_
      rw [hgS] at k
      rw [e0]
      by_cases hl : wd = "lots"
      · rw [if_pos hl]
        rw [if_pos hl] at k
        exact k
      · rw [if_neg hl, Int.add_zero]
        rw [if_neg hl] at k
        exact k
    | flat =>
      obtain ⟨t, rfl, a⟩ := hV
      refine ⟨_, rfl, _, _, _, _, rfl, rfl, a, atI_nat (j := 0) rfl, rfl, _, rfl, ?_⟩
      rw [sc_str, decide_eq_false (by decide +kernel)]
      refine ⟨_, rfl, _, _, _, _, rfl, rfl, a, atI_nat (j := 0) rfl, rfl, _, rfl, ?_⟩
      rw [sc_str, decide_eq_false (by decide +kernel)]
      refine low "flat" _ t a ?_
      have e0 : lowV "flat" = -1 := by decide +kernel
      rw [hgS] at k
      rw [e0]
      exact k
    | zip sr r =>
      obtain ⟨t, p, q, vs, rfl, a, b, c, e⟩ := hV
      rw [okS] at ho
      rw [rkS] at hk
      rw [hgS] at k
      refine ⟨_, rfl, _, _, _, _, rfl, rfl, a, atI_nat (j := 0) rfl, rfl, _, rfl, ?_⟩
      rw [sc_str, decide_eq_false (by decide +kernel)]
      refine ⟨_, rfl, _, _, _, _, rfl, rfl, a, atI_nat (j := 0) rfl, rfl, _, rfl, ?_⟩
      rw [sc_str, decide_eq_true rfl]
      refine ⟨_, rfl, _, rfl, _, _, _, _, rfl, rfl, a, atI_nat (j := 1) rfl, _, _, _, rfl, ⟨_, _, b, c, e⟩, by omega, ho.2, fun H1 s1 => ⟨_, _, rfl, _, _, rfl, rfl, ?_⟩⟩
      have em : (1 + min d (hgR 0 r)) = 1 + (if hgR 0 r < d then hgR 0 r else d) := by
        congr 1
        split <;> omega
      rw [em] at k
      exact k _ s1
theorem d_depth0 (F : FnP K "_law_depth" "_law_depth" sL_depth f fd) (gm : mg "_law_depth" = some (.ref f)) : DefOk P w K mg base CX0 1 "_law_depth" ["plan"] [] (spDep K 0) := by
  refine ⟨f, fd, [], F.ok scL_depth (fun vs H Q E h => ?_) (fun cdv A outer s H vs Q E hr h => ?_), gm, F.kp, F.bindsN fun _ _ _ _ _ _ us hl => match us, hl with | [_], _ => rfl, .nil⟩
  · obtain ⟨_, _, _, rfl, _⟩ := h
    rfl
  · obtain ⟨_, _, _, _, _, z, _⟩ := h
    exact absurd z (Nat.not_lt_zero _)
theorem d_depthS (n : Nat) (F : FnP K "_law_depth" "_law_depth" sL_depth f fd) (gm : mg "_law_depth" = some (.ref f)) (D_L_height : DefOk P w K mg base CX0 (2 * n + 2) "_law_height" ["height", "stage"] [] (spHgt K n)) :
    DefOk P w K mg base CX0 (2 * (n + 1) + 1) "_law_depth" ["plan"] [] (spDep K (n + 1)) := by
  refine ⟨f, fd, [], F.ok (k := 2 * n + 2) scL_depth (fun vs H Q E h => ?_) (fun cdv A outer s H vs Q E hr h => ?_), gm, F.kp, F.bindsN fun _ _ _ _ _ _ us hl => match us, hl with | [_], _ => rfl, .nil⟩
  · obtain ⟨_, _, _, rfl, _⟩ := h
    rfl
  · obtain ⟨p, s, r, rfl, ⟨q, vs, a, b, c⟩, hk, ho, k⟩ := h
    refine ⟨_, PSs.nox (pss_cons (ps_set (i := 1) scL_depth.nd rfl (.inl rfl) pe_int)
  (pss_cons (ps_for PassesOwn.never rfl (pi_tup (pe_ix ix_tup (pv 0) pe_int (fun _ _ => rfl))) (pg_name (i := 2) scL_depth.nd rfl (.inl rfl))
  (pss_one (ps_set (i := 1) scL_depth.nd rfl (.inl rfl) (pe_d D_L_height (hr.mono (by omega)) pass0 (pa_cons (pv 1) (pa_cons (pv 2) pa_nil))))))
  (pss_one (ps_ret (pv 1))))), ?_⟩
    refine ⟨_, rfl, _, _, _, _, rfl, rfl, a, atI_nat (j := 1) rfl, q, rfl, ⟨vs, b⟩, for_tup (K := K) (a := q) (xs := vs) (fun i σ H' => ∃ (done rest : List Sx) (us : List V) (c2 : Option V), r = done ++ rest ∧ done.length = i ∧ vs.drop i = us ∧ RwV K H rest us ∧ okR (hgR 0 done) rest ∧ σ = [some (.ref p), some (.int (hgR 0 done)), c2] ∧ Same H H')
      ⟨[], r, vs, none, rfl, rfl, rfl, c, by rw [hgR]; exact ho, by rw [hgR]; rfl, Same.refl _⟩ (fun i σ H' _ ⟨_, _, _, _, _, _, _, _, _, _, s1⟩ => sqT_same s1 b) ?_ ?_⟩
    · rintro i v σ H' hi ⟨done, rest, us, c2, er, rfl, ed, hR, hO, rfl, s1⟩
      obtain ⟨hlt, ev⟩ := List.getElem?_eq_some_iff.mp hi
      rw [List.drop_eq_getElem_cons hlt, ev] at ed
      cases rest with
      | nil =>
        rw [show us = [] from hR] at ed
        cases ed
      | cons x rest =>
        obtain ⟨v', us', e, hx, hr'⟩ := hR
        rw [← ed] at e
        cases e
        rw [okR] at hO
        have hkx : rkS x ≤ n := by
          have := rk_mem (r := r) (i := done.length) (s := x) (by rw [er, List.getElem?_append_right (Nat.le_refl _), Nat.sub_self]; rfl)
          omega
        refine ⟨_, rfl, _, rfl, _, _, _, rfl, StV.kp (C := 0) (.of s1) x hx, hkx, hO.1, fun H2 s2 => ?_⟩
        refine ⟨done ++ [x], rest, _, some v, by rw [er, List.append_assoc]; rfl, by simp, rfl, hr', ?_, ?_, same_trans s1 s2⟩
        · rw [hgR_snoc]
          exact hO.2
        · rw [hgR_snoc]
          rfl
    · rintro σ H' ⟨done, rest, us, c2, er, ed, eu, hR, hO, rfl, s1⟩
      rw [List.drop_length] at eu
      subst eu
      cases rest with
      | nil =>
        rw [List.append_nil] at er
        subst er
        exact ⟨_, rfl, k _ s1⟩
      | cons x rest =>
        obtain ⟨_, _, e, _⟩ := hR
        cases e
theorem d_deps {fd2 : FuncData} {f2 : Addr} (F : FnP K "_law_depth" "_law_depth" sL_depth f fd) (gm : mg "_law_depth" = some (.ref f)) (F2 : FnP K "_law_height" "_law_height" sL_height f2 fd2) (gm2 : mg "_law_height" = some (.ref f2)) (T : Tx K mg) :
    ∀ n, DefOk P w K mg base CX0 (2 * n + 1) "_law_depth" ["plan"] [] (spDep K n) ∧ DefOk P w K mg base CX0 (2 * n + 2) "_law_height" ["height", "stage"] [] (spHgt K n)
  | 0 => ⟨d_depth0 F gm, d_height 0 F2 gm2 T (d_depth0 F gm)⟩
  | n + 1 => by
    have h := d_depthS (base := base) (P := P) (w := w) n F gm (d_deps F gm F2 gm2 T n).2
    exact ⟨h, d_height (n + 1) F2 gm2 T h⟩
/-! a drawn name -/
def spNm : Sp := fun vs H Q _ => ∃ s, vs = [.ref s] ∧ Strm H s ∧ ∀ x H', But [s] H H' → Strm H' s → nameB x = true → Q (.str x) H'
theorem strm_same {H H' : Hp} {s : Addr} (e : Same H H') (h : Strm H s) : Strm H' s := let ⟨r, m, h⟩ := h; ⟨r, m, e _ _ h⟩
theorem strm_ne {H : Hp} {s t : Addr} (h : Strm H s) (n : H t = none) : t ≠ s := by
  rintro rfl
  obtain ⟨r, m, h⟩ := h
  rw [h] at n
  cases n
theorem scL_name : FnScope ["stream", "word", "turn"] ["stream"] (defScope sL_name) := ⟨rfl, rfl, rfl, by decide +kernel, rfl, by decide +kernel, by decide +kernel⟩
theorem d_name (F : FnP K "_law_name" "_law_name" sL_name f fd) (gm : mg "_law_name" = some (.ref f)) (T : Tx K mg) (D_L_draw : DefOk P w K mg base CX0 1 "_law_draw" ["stream", "span"] [] spDraw) (D_L_pick : DefOk P w K mg base CX0 2 "_law_pick" ["stream", "things"] [] (spPick K)) :
    DefOk P w K mg base CX0 3 "_law_name" ["stream"] [] spNm := by
  refine ⟨f, fd, [], F.ok scL_name (fun vs H Q E h => ?_) (fun cdv A outer s H vs Q E hr h => ?_), gm, F.kp, F.bindsN fun _ _ _ _ _ _ us hl => match us, hl with | [_], _ => rfl, .nil⟩
  · obtain ⟨_, rfl, _⟩ := h
    rfl
  · obtain ⟨s, rfl, hs, k⟩ := h
    refine ⟨_, PSs.nox (pss_cons (ps_set (i := 1) scL_name.nd rfl (.inl rfl) (pe_d D_L_pick (hr.mono (by decide)) pass0 (pa_cons (pv 0) (pa_cons (pe_lst (pa_cons pe_str (pa_cons pe_str (pa_cons pe_str pa_nil)))) pa_nil))))
  (pss_cons (ps_for PassesOwn.never rfl (pi_range1 (by rfl) T.z_range (pa_cons (pe_op op_add pe_int (pe_d D_L_draw (hr.mono (by decide)) pass0 (pa_cons (pv 0) (pa_cons pe_int pa_nil)))) pa_nil)) (pg_name (i := 2) scL_name.nd rfl (.inl rfl))
  (pss_one (ps_set (i := 1) scL_name.nd rfl (.inl rfl) (pe_op op_add_str (pv 1) (pe_d D_L_pick (hr.mono (by decide)) pass0 (pa_cons (pv 0) (pa_cons pe_str pa_nil)))))))
  (pss_one (ps_ret (pe_d D_L_pick (hr.mono (by decide)) pass0 (pa_cons (pv 0) (pa_cons (pe_lst (pa_cons (pv 1) (pa_cons (pv 1) (pa_cons pe_str (pa_cons pe_str (pa_cons pe_str (pa_cons pe_str (pa_cons pe_str (pa_cons pe_str (pa_cons pe_str (pa_cons pe_str (pa_cons pe_str pa_nil)))))))))))) pa_nil))))))), ?_⟩
    refine ⟨_, rfl, szl rfl, fun p hp => ⟨s, _, rfl, strm_same (same_upd hp) hs, .inl ⟨p, _, rfl, SqL.of upd_same, strm_ne hs hp, (by show 0 < 3; decide), (by show 3 ≤ 1000; decide), fun i x H1 b1 s1 hx => ?_⟩⟩⟩
    obtain ⟨x0, rfl, hx0⟩ : ∃ x0 : Str, x = .str x0 ∧ WordB 2 x0 := by
      match i, hx with
      | 0, hx => cases hx; exact ⟨_, rfl, by unfold WordB; decide +kernel⟩
      | 1, hx => cases hx; exact ⟨_, rfl, by unfold WordB; decide +kernel⟩
      | 2, hx => cases hx; exact ⟨_, rfl, by unfold WordB; decide +kernel⟩
      | i + 3, hx => cases hx
    have b1' : But [s] H H1 := (But.of (same_upd hp)).trans b1
    clear b1 hx hp
    obtain ⟨r1, m1, hs1⟩ := s1
    refine ⟨_, rfl, s, _, r1, m1, rfl, (by decide), (by decide), hs1, fun r2 m2 d d0 d1 => ⟨_, _, rfl, rfl, 1 + d, rfl, by omega, by omega, ?_⟩⟩
    have b2 : But [s] H (upd H1 s (.lst [.int r2, .int m2])) := b1'.trans (.upd (by simp))
    have s2 : Strm (upd H1 s (.lst [.int r2, .int m2])) s := strm_upd
    generalize upd H1 s (.lst [.int r2, .int m2]) = H2 at b2 s2 ⊢
    refine for_range (lo := 0) (n := (1 + d).toNat) (fun i σ H' => ∃ (x : Str) (c : Option V), σ = [some (.ref s), some (.str x), c] ∧ WordB (2 + i) x ∧ i ≤ x.length ∧ But [s] H H' ∧ Strm H' s) ⟨x0, none, rfl, hx0, Nat.zero_le _, b2, s2⟩ ?_ ?_
    · rintro i σ H3 hi ⟨x, c, rfl, hx, hxl, b3, s3⟩
      refine ⟨_, rfl, _, rfl, s, _, rfl, s3, .inr ⟨letters, rfl, (by decide +kernel), (by decide +kernel), fun j cc H4 b4 s4 hj => ?_⟩⟩
      have hx' := hx.app (.one hj)
      have el : (x ++ (⟨#[cc]⟩ : Str)).length = x.length + 1 := str_len_app _ _
      refine ⟨_, _, rfl, rfl, szle (by show x.length + 1 ≤ _; have := hx.1; omega), ?_⟩
      exact ⟨_, some (.int (0 + (i : Int))), rfl, hx', by omega, b3.trans b4, s4⟩
    · rintro σ H3 ⟨x, c, rfl, hx, hxl, b3, s3⟩
      have hname : nameB x = true := hx.name (by omega) (by omega)
      refine ⟨_, rfl, _, rfl, _, rfl, szl rfl, fun p hp => ⟨s, _, rfl, strm_same (same_upd hp) s3, .inl ⟨p, _, rfl, SqL.of upd_same, strm_ne s3 hp, (by show 0 < 11; decide), (by show 11 ≤ 1000; decide), fun j y H4 b4 s4 hy => ?_⟩⟩⟩
      obtain ⟨y0, rfl, hy0⟩ : ∃ y0 : Str, y = .str y0 ∧ nameB y0 = true := by
        have key : ∀ z ∈ (["zip", "unzip", "flat", "from", "take", "map", "end", "a", "b"] : List Str), nameB z = true := by decide +kernel
        match j, hy with
        | 0, hy => cases hy; exact ⟨_, rfl, hname⟩
        | 1, hy => cases hy; exact ⟨_, rfl, hname⟩
        | j + 2, hy =>
          have hy' : (List.map V.str ["zip", "unzip", "flat", "from", "take", "map", "end", "a", "b"])[j]? = some y := hy
          rw [List.getElem?_map] at hy'
          obtain ⟨z, hz, rfl⟩ := Option.map_eq_some_iff.mp hy'
          exact ⟨z, rfl, key z (List.mem_of_getElem? hz)⟩
      exact k _ _ ((b3.trans (.of (same_upd hp))).trans b4) s4 hy0
/-! drawn stages, drawn plans -/
def spStg (K : PySem.W.Frag) (m : Nat) : Sp := fun vs H Q _ => ∃ (s : Addr) (d : Int) (pl : Addr) (mst : Int) (ps : List Str), vs = [.ref s, .int d, .ref pl, .int mst] ∧ Strm H s ∧ H pl = some (.lst (ps.map V.str)) ∧ pl ≠ s ∧ ps.length ≤ m ∧ 1 ≤ mst ∧ mst ≤ 4 ∧
  ∀ x v used rest H', ps = used ++ rest → lvS x = used → okS d x → But [s, pl] H H' → Strm H' s → H' pl = some (.lst (rest.map V.str)) → StV K H' x v → Q v H'
def spPln (K : PySem.W.Frag) (m : Nat) : Sp := fun vs H Q _ => ∃ (s pl : Addr) (mst : Int) (ps : List Str), vs = [.ref s, .ref pl, .int mst] ∧ Strm H s ∧ H pl = some (.lst (ps.map V.str)) ∧ pl ≠ s ∧ ps.length ≤ m ∧ ps ≠ [] ∧ 0 ≤ mst ∧ mst ≤ 6 ∧
  ∀ p x r used rest H', ps = used ++ rest → x :: lvR r = used → okR 0 r → (r.length : Int) ≤ mst → But [s, pl] H H' → Strm H' s → H' pl = some (.lst (rest.map V.str)) → PlV K H' x r p → Q (.ref p) H'
def someW : List Str := ["map", "keep", "while", "after", "take", "skip", "lots", "gather", "flat", "keep", "zip"]
theorem but_kp {C s pl : Addr} {H H' : Hp} {xs : List V} (b : But [s, pl] H H') (hs : Strm H s) (hp : H pl = some (.lst xs)) : KP C H H' := b.kp (by
  intro q hq o ho
  rcases List.mem_cons.mp hq with e | e
  · subst e
    obtain ⟨r, m, h⟩ := hs
    rw [h] at ho
    cases ho
    exact id
  · have e := List.mem_singleton.mp e
    subst e
    rw [hp] at ho
    cases ho
    exact id)
theorem scL_stage : FnScope ["stream", "height", "pool", "most", "some", "word", "name"] ["stream", "height", "pool", "most"] (defScope sL_stage) := ⟨rfl, rfl, rfl, by decide +kernel, rfl, by decide +kernel, by decide +kernel⟩
theorem scL_plan : FnScope ["stream", "pool", "most", "first", "stages", "height", "turn", "stage"] ["stream", "pool", "most"] (defScope sL_plan) := ⟨rfl, rfl, rfl, by decide +kernel, rfl, by decide +kernel, by decide +kernel⟩
theorem d_plan0 (F : FnP K "_law_plan" "_law_plan" sL_plan f fd) (gm : mg "_law_plan" = some (.ref f)) : DefOk P w K mg base CX0 4 "_law_plan" ["stream", "pool", "most"] [] (spPln K 0) := by
  refine ⟨f, fd, [], F.ok scL_plan (fun vs H Q E h => ?_) (fun cdv A outer s H vs Q E hr h => ?_), gm, F.kp, F.bindsN fun _ _ _ _ _ _ us hl => match us, hl with | [_, _, _], _ => rfl, .nil⟩
  · obtain ⟨_, _, _, _, rfl, _⟩ := h
    rfl
  · obtain ⟨_, _, _, _, _, _, _, _, h1, h2, _⟩ := h
    exact absurd (List.length_eq_zero_iff.mp (Nat.le_zero.mp h1)) h2
theorem d_stage (m : Nat) (F : FnP K "_law_stage" "_law_stage" sL_stage f fd) (gm : mg "_law_stage" = some (.ref f)) (T : Tx K mg) (D_L_draw : DefOk P w K mg base CX0 1 "_law_draw" ["stream", "span"] [] spDraw) (D_L_pick : DefOk P w K mg base CX0 2 "_law_pick" ["stream", "things"] [] (spPick K))
    (D_L_name : DefOk P w K mg base CX0 3 "_law_name" ["stream"] [] spNm) (D_L_plan : DefOk P w K mg base CX0 (2 * m + 4) "_law_plan" ["stream", "pool", "most"] [] (spPln K m)) :
    DefOk P w K mg base CX0 (2 * m + 5) "_law_stage" ["stream", "height", "pool", "most"] [] (spStg K m) := by
  refine ⟨f, fd, [], F.ok scL_stage (fun vs H Q E h => ?_) (fun cdv A outer s H vs Q E hr h => ?_), gm, F.kp, F.bindsN fun _ _ _ _ _ _ us hl => match us, hl with | [_, _, _, _], _ => rfl, .nil⟩
  · obtain ⟨_, _, _, _, _, rfl, _⟩ := h
    rfl
  · obtain ⟨s, d, pl, mst, ps, rfl, hs, hpl, nps, hm, m1, m4, k⟩ := h
    refine ⟨_, PSs.nox (pss_cons (ps_set (i := 4) scL_stage.nd rfl (.inl rfl) (pe_lst (pa_cons pe_str (pa_cons pe_str (pa_cons pe_str (pa_cons pe_str (pa_cons pe_str (pa_cons pe_str (pa_cons pe_str (pa_cons pe_str (pa_cons pe_str (pa_cons pe_str (pa_cons pe_str pa_nil)))))))))))))
  (pss_cons (ps_set (i := 5) scL_stage.nd rfl (.inl rfl) (pe_d D_L_pick (hr.mono (by omega)) pass0 (pa_cons (pv 0) (pa_cons (pv 4) pa_nil))))
  (C8.pss_cut (ps_if (PW.pt (pw_and (pt_cmpR op_eq (pv 5) pe_str (nomark _)) (pw_and1 (pt_cmpR (op_ne0 hr.units0) (pv 2) (pe_lst pa_nil) (nomark _))))) (pss_one (ps_ret (pe_tup (pa_cons pe_str (pa_cons (pe_d D_L_plan (hr.mono (by omega)) pass0 (pa_cons (pv 0) (pa_cons (pv 2) (pa_cons pe_int pa_nil)))) pa_nil)))))
  pss_nil)
  (C8.pss_cut (ps_if (PW.pt (pw_and (pt_cmpR op_eq (pv 5) pe_str (nomark _)) (pw_and1 (pt_cmpR op_gt (pv 1) pe_int (nomark _))))) (pss_one (ps_ret (pe_tup (pa_cons pe_str pa_nil))))
  pss_nil)
  (pss_cons (ps_if (pt_cmpR op_in_seq (pv 5) (pe_tup (pa_cons pe_str (pa_cons pe_str (pa_cons pe_str (pa_cons pe_str pa_nil))))) (by rfl)) (pss_one (ps_ret (pe_tup (pa_cons (pv 5) (pa_cons (pe_op op_add pe_int (pe_d D_L_draw (hr.mono (by omega)) pass0 (pa_cons (pv 0) (pa_cons (pv 3) pa_nil)))) pa_nil)))))
  pss_nil)
  (pss_cons (ps_set (i := 6) scL_stage.nd rfl (.inl rfl) (pe_d D_L_pick (hr.mono (by omega)) pass0 (pa_cons (pv 0) (pa_cons (pe_lst (pa_cons pe_str (pa_cons pe_str (pa_cons pe_str (pa_cons pe_str (pa_cons pe_str (pa_cons pe_str (pa_cons pe_str (pa_cons (pe_d D_L_name (hr.mono (by omega)) pass0 (pa_cons (pv 0) pa_nil)) pa_nil))))))))) pa_nil))))
  (pss_one (ps_ret (pe_tup (pa_cons (pe_ifExp (pt_cmpR op_in_seq (pv 5) (pe_tup (pa_cons pe_str (pa_cons pe_str (pa_cons pe_str pa_nil)))) (by rfl)) (pv 5) pe_str) (pa_cons (pv 6) pa_nil))))))))))), ?_⟩
    refine ⟨szl rfl, fun p hp => ⟨_, rfl, _, rfl, s, _, rfl, strm_same (same_upd hp) hs, .inl ⟨p, _, rfl, SqL.of upd_same, strm_ne hs hp, (by show 0 < 11; decide), (by show 11 ≤ 1000; decide), fun i x H1 b1 s1 hx => ?_⟩⟩⟩
    have hx' : (List.map V.str someW)[i]? = some x := hx
    rw [List.getElem?_map] at hx'
    obtain ⟨wd, hwd, rfl⟩ := Option.map_eq_some_iff.mp hx'
    have hw := List.mem_of_getElem? hwd
    have npp : pl ≠ p := by
      rintro rfl
      rw [hp] at hpl
      cases hpl
    have hpl1 : H1 pl = some (.lst (ps.map V.str)) := b1 _ _ (by simpa using nps) (same_upd hp _ _ hpl)
    have b1' : But [s, pl] H H1 := ((But.of (same_upd hp)).trans b1).mono (by simp)
    have kk : ∀ x v used rest H', ps = used ++ rest → lvS x = used → okS d x → But [s, pl] H1 H' → Strm H' s → H' pl = some (.lst (rest.map V.str)) → StV K H' x v → Q v H' := fun x v used rest H' e1 e2 e3 b => k x v used rest H' e1 e2 e3 (b1'.trans b)
    clear k b1 hx hx' hwd b1' hp hs hpl npp
    refine ⟨fun σ' H' => σ' = [some (.ref s), some (.int d), some (.ref pl), some (.int mst), some (.ref p), some (.str wd), none] ∧ Same H1 H', ?_, ?_⟩
    · refine ⟨_, rfl, rfl, _, rfl, ?_⟩
      rw [sc_str]
      by_cases hz : wd = "zip"
      · rw [decide_eq_true hz]
        refine ⟨_, rfl, szl rfl, fun q hq => ⟨pl, q, _, rfl, rfl, SqL.of (same_upd hq _ _ hpl1), SqL.of upd_same, _, rfl, ?_⟩⟩
        have sq := same_upd (o := .lst []) hq
        have sqs := strm_same sq s1
        have hplq := sq _ _ hpl1
        generalize upd H1 q (.lst []) = H2 at sq sqs hplq ⊢
        cases hps : ps with
        | nil => exact ⟨rfl, sq⟩
        | cons x0 r0 =>
          rw [← hps]
          have e0 : (!(ps.map V.str).isEmpty) = true := by rw [hps]; rfl
          rw [e0]
          refine ⟨_, rfl, _, rfl, s, pl, 2, ps, rfl, sqs, hplq, nps, hm, (by rw [hps]; simp), by decide, by decide, fun pp x r used rest H3 e1 e2 e3 e4 b3 s3 h3 hP => ⟨szl rfl, fun t ht => ?_⟩⟩
          obtain ⟨qq, vs, g1, g2, g3⟩ := hP.kp (C := 0) (.of (same_upd ht))
          refine kk (.zip x r) _ used rest _ e1 (by rw [lvS]; exact e2) (by rw [okS]; exact ⟨by omega, e3⟩) (((But.of sq).trans b3).trans (.of (same_upd ht))) (strm_same (same_upd ht) s3) (same_upd ht _ _ h3) ?_
          rw [StV]
          exact ⟨t, pp, qq, vs, rfl, SqT.of upd_same, g1, g2, g3⟩
      · rw [decide_eq_false hz]
        exact ⟨rfl, Same.refl _⟩
    rintro σ' H2 ⟨rfl, sm⟩
    have s2 := strm_same sm s1
    have hpl2 := sm _ _ hpl1
    have kk2 : ∀ x v used rest H', ps = used ++ rest → lvS x = used → okS d x → But [s, pl] H2 H' → Strm H' s → H' pl = some (.lst (rest.map V.str)) → StV K H' x v → Q v H' := fun x v used rest H' e1 e2 e3 b => kk x v used rest H' e1 e2 e3 ((But.of sm).trans b)
    clear kk s1 hpl1 sm
    refine ⟨fun σ' H' => σ' = [some (.ref s), some (.int d), some (.ref pl), some (.int mst), some (.ref p), some (.str wd), none] ∧ H' = H2, ?_, ?_⟩
    · refine ⟨_, rfl, rfl, _, rfl, ?_⟩
      rw [sc_str]
      by_cases hz : wd = "flat"
      · rw [decide_eq_true hz]
        refine ⟨_, rfl, _, _, rfl, rfl, _, rfl, ?_⟩
        by_cases hd : 0 < d
        · rw [decide_eq_true hd]
          refine ⟨szl rfl, fun t ht => ?_⟩
          refine kk2 .flat _ [] ps _ rfl rfl (by rw [okS]; exact hd) (.of (same_upd ht)) (strm_same (same_upd ht) s2) (same_upd ht _ _ hpl2) ?_
          rw [StV]
          exact ⟨t, rfl, SqT.of upd_same⟩
        · rw [decide_eq_false hd]
          exact ⟨rfl, rfl⟩
      · rw [decide_eq_false hz]
        exact ⟨rfl, rfl⟩
    rintro σ' H' ⟨rfl, rfl⟩
    refine ⟨_, rfl, szl rfl, fun t ht => ⟨t, counted.map V.str, rfl, .inr (SqT.of upd_same), rfl, all_str _, ?_⟩⟩
    have st := same_upd (o := .tup (counted.map V.str)) ht
    rw [inV_str]
    by_cases hc : wd ∈ counted
    · rw [decide_eq_true hc]
      obtain ⟨r3, m3, hs3⟩ := strm_same st s2
      refine ⟨_, rfl, _, rfl, _, rfl, _, rfl, s, mst, r3, m3, rfl, by omega, by omega, hs3, fun r4 m4' n n0 n1 => ⟨_, _, rfl, rfl, szl rfl, fun t2 ht2 => ?_⟩⟩
      have b5 : But [s, pl] H' (upd (upd (upd H' t (.tup (counted.map V.str))) s (.lst [.int r4, .int m4'])) t2 (.tup [.str wd, .int (1 + n)])) := ((But.of st).trans (.upd (by simp))).trans (.of (same_upd ht2))
      refine kk2 (.nu wd (1 + n)) _ [] ps _ rfl rfl (by rw [okS]; exact ⟨hc, by omega, by omega⟩) b5 (strm_same (same_upd ht2) strm_upd) ?_ ?_
      · refine same_upd ht2 _ _ ?_
        rw [upd_ne nps]
        exact st _ _ hpl2
      · rw [StV]
        exact ⟨t2, rfl, SqT.of upd_same⟩
    · rw [decide_eq_false hc]
      have s3 := strm_same st s2
      have hpl3 := st _ _ hpl2
      refine ⟨_, rfl, _, rfl, _, rfl, s, rfl, s3, fun x H4 b4 s4 hn => ⟨szl rfl, fun q hq => ⟨s, _, rfl, strm_same (same_upd hq) s4, .inl ⟨q, _, rfl, SqL.of upd_same, strm_ne s4 hq, (by show 0 < 8; decide), (by show 8 ≤ 1000; decide), fun j y H5 b5 s5 hy => ?_⟩⟩⟩⟩
      obtain ⟨y0, rfl, hy0⟩ : ∃ y0 : Str, y = .str y0 ∧ nameB y0 = true := by
        have key : ∀ z ∈ (["p", "p", "q", "f", "p", "g", "f"] : List Str), nameB z = true := by decide +kernel
        match j, hy with
        | 0, hy => cases hy; exact ⟨_, rfl, key _ (by decide +kernel)⟩
        | 1, hy => cases hy; exact ⟨_, rfl, key _ (by decide +kernel)⟩
        | 2, hy => cases hy; exact ⟨_, rfl, key _ (by decide +kernel)⟩
        | 3, hy => cases hy; exact ⟨_, rfl, key _ (by decide +kernel)⟩
        | 4, hy => cases hy; exact ⟨_, rfl, key _ (by decide +kernel)⟩
        | 5, hy => cases hy; exact ⟨_, rfl, key _ (by decide +kernel)⟩
        | 6, hy => cases hy; exact ⟨_, rfl, key _ (by decide +kernel)⟩
        | 7, hy => cases hy; exact ⟨_, rfl, hn⟩
        | j + 8, hy => cases hy
      have hpl5 : H5 pl = some (.lst (ps.map V.str)) := b5 _ _ (by simpa using nps) (same_upd hq _ _ (b4 _ _ (by simpa using nps) hpl3))
      have b25 : But [s] H' H5 := (((But.of st).trans b4).trans (.of (same_upd hq))).trans b5
      refine ⟨_, rfl, szl rfl, fun t2 ht2 => ⟨t2, (["map", "while", "after"] : List Str).map V.str, rfl, .inr (SqT.of upd_same), rfl, all_str _, ?_⟩⟩
      have st2 := same_upd (o := .tup ((["map", "while", "after"] : List Str).map V.str)) ht2
      rw [inV_str]
      have fin : ∀ w1 : Str, w1 ∈ named → ∀ p, (upd H5 t2 (.tup ((["map", "while", "after"] : List Str).map V.str))) p = none → Q (.ref p) (upd (upd H5 t2 (.tup ((["map", "while", "after"] : List Str).map V.str))) p (.tup [.str w1, .str y0])) := by
        intro w1 hw1 t3 ht3
        refine kk2 (.nm w1 y0) _ [] ps _ rfl rfl (by rw [okS]; exact ⟨hw1, hy0⟩) (((b25.trans (.of st2)).trans (.of (same_upd ht3))).mono (by simp)) (strm_same (same_upd ht3) (strm_same st2 s5)) (same_upd ht3 _ _ (st2 _ _ hpl5)) ?_
        rw [StV]
        exact ⟨t3, rfl, SqT.of upd_same⟩
      by_cases h3 : wd ∈ (["map", "while", "after"] : List Str)
      · rw [decide_eq_true h3]
        have key : ∀ w ∈ (["map", "while", "after"] : List Str), w ∈ named := by decide +kernel
        exact ⟨_, rfl, _, rfl, _, rfl, szl rfl, fin wd (key wd h3)⟩
      · rw [decide_eq_false h3]
        exact ⟨_, rfl, _, rfl, szl rfl, fin "keep" (by decide +kernel)⟩
theorem d_planS (m : Nat) (F : FnP K "_law_plan" "_law_plan" sL_plan f fd) (gm : mg "_law_plan" = some (.ref f)) (T : Tx K mg) (D_L_draw : DefOk P w K mg base CX0 1 "_law_draw" ["stream", "span"] [] spDraw)
    (D_L_height : DefOk P w K mg base CX0 (2 * m + 2) "_law_height" ["height", "stage"] [] (spHgt K m)) (D_L_stage : DefOk P w K mg base CX0 (2 * m + 5) "_law_stage" ["stream", "height", "pool", "most"] [] (spStg K m)) :
    DefOk P w K mg base CX0 (2 * (m + 1) + 4) "_law_plan" ["stream", "pool", "most"] [] (spPln K (m + 1)) := by
  refine ⟨f, fd, [], F.ok (k := 2 * m + 5) scL_plan (fun vs H Q E h => ?_) (fun cdv A outer s H vs Q E hr h => ?_), gm, F.kp, F.bindsN fun _ _ _ _ _ _ us hl => match us, hl with | [_, _, _], _ => rfl, .nil⟩
  · obtain ⟨_, _, _, _, rfl, _⟩ := h
    rfl
  · obtain ⟨s, pl, mst, ps, rfl, hs, hpl, nps, hm, hne, m0, m6, k⟩ := h
    refine ⟨_, PSs.nox (pss_cons (ps_par3 (i := 3) (j := 4) (l := 5) (by rfl) scL_plan.nd rfl rfl rfl (by decide) (by decide) (by decide) rfl rfl rfl (pa_cons (pe_bm PySem.F.plainAttrs_list PySem.F.slot_list_pop PySem.F.type_list_pop mt_popAt (pv 1) (pa_cons pe_int pa_nil)) (pa_cons (pe_lst pa_nil) (pa_cons pe_int pa_nil))) (by rfl))
  (pss_cons (ps_for PassesOwn.never rfl (pi_range1 (by rfl) T.z_range (pa_cons (pe_d D_L_draw (hr.mono (by omega)) pass0 (pa_cons (pv 0) (pa_cons (pe_op op_add (pv 2) pe_int) pa_nil))) pa_nil)) (pg_name (i := 6) scL_plan.nd rfl (.inl rfl))
  (pss_cons (ps_set (i := 7) scL_plan.nd rfl (.inl rfl) (pe_d D_L_stage (hr.mono (by omega)) pass0 (pa_cons (pv 0) (pa_cons (pv 5) (pa_cons (pv 1) (pa_cons pe_int pa_nil))))))
  (pss_cons (ps_expr (pe_bm PySem.F.plainAttrs_list PySem.F.slot_list_append PySem.F.type_list_append mt_append (pv 4) (pa_cons (pv 7) pa_nil)))
  (pss_one (ps_set (i := 5) scL_plan.nd rfl (.inl rfl) (pe_d D_L_height (hr.mono (by omega)) pass0 (pa_cons (pv 5) (pa_cons (pv 7) pa_nil))))))))
  (pss_one (ps_ret (pe_tup (pa_cons (pv 3) (pa_cons (pe_callTy call_tuple_of (by rfl) T.z_tuple (by decide +kernel) (pa_cons (pv 4) pa_nil)) pa_nil))))))), ?_⟩
    match ps, hne with
    | x0 :: ps, _ =>
    refine ⟨_, rfl, .inl ⟨rfl, _, SqL.of hpl⟩, pl, _, 0, 0, .str x0, rfl, rfl, hpl, by decide, by decide, seqIndex_of (by decide) (by rw [List.length_map, List.length_cons]; omega), rfl, szl rfl, fun st hst => ⟨_, _, _, rfl, ?_⟩⟩
    have eE : ((x0 :: ps).map V.str).eraseIdx 0 = ps.map V.str := rfl
    rw [eE] at hst ⊢
    have nst : st ≠ pl := by
      rintro rfl
      rw [upd_same] at hst
      cases hst
    have hst0 : H st = none := by
      rw [upd_ne nst] at hst
      exact hst
    have nss : st ≠ s := strm_ne hs hst0
    have b1 : But [s, pl] H (upd (upd H pl (.lst (ps.map V.str))) st (.lst [])) := (But.upd (by simp)).updN hst0
    have s1 : Strm (upd (upd H pl (.lst (ps.map V.str))) st (.lst [])) s := by
      obtain ⟨r, m, h⟩ := hs
      exact ⟨r, m, by rw [upd_ne nss.symm, upd_ne nps.symm]; exact h⟩
    have p1 : (upd (upd H pl (.lst (ps.map V.str))) st (.lst [])) pl = some (.lst (ps.map V.str)) := by rw [upd_ne nst.symm, upd_same]
    have t1 : (upd (upd H pl (.lst (ps.map V.str))) st (.lst [])) st = some (.lst []) := upd_same
    generalize (upd (upd H pl (.lst (ps.map V.str))) st (.lst [])) = H1 at b1 s1 p1 t1 ⊢
    clear hst
    obtain ⟨r1, m1, hs1⟩ := s1
    refine ⟨_, rfl, _, rfl, _, _, rfl, rfl, s, _, r1, m1, rfl, by omega, by omega, hs1, fun r2 m2 d d0 d1 => ⟨d, rfl, by omega, by omega, ?_⟩⟩
    have b2 := b1.trans (.upd (o := .lst [.int r2, .int m2]) (show s ∈ [s, pl] by simp))
    have s2 : Strm (upd H1 s (.lst [.int r2, .int m2])) s := strm_upd
    have p2 : (upd H1 s (.lst [.int r2, .int m2])) pl = some (.lst (ps.map V.str)) := by rw [upd_ne nps]; exact p1
    have t2 : (upd H1 s (.lst [.int r2, .int m2])) st = some (.lst []) := by rw [upd_ne nss]; exact t1
    generalize (upd H1 s (.lst [.int r2, .int m2])) = H2 at b2 s2 p2 t2 ⊢
    clear b1 hs1 p1 t1
    refine for_range (lo := 0) (n := d.toNat) (fun i σ H' => ∃ (row : List Sx) (vs : List V) (used rest : List Str) (c6 c7 : Option V), σ = [some (.ref s), some (.ref pl), some (.int mst), some (.str x0), some (.ref st), some (.int (hgR 0 row)), c6, c7] ∧ row.length = i ∧ okR 0 row ∧ ps = used ++ rest ∧ lvR row = used ∧ But [s, pl] H H' ∧ Strm H' s ∧ H' pl = some (.lst (rest.map V.str)) ∧ H' st = some (.lst vs) ∧ RwV K H' row vs)
      ⟨[], [], [], ps, none, none, by rw [hgR]; rfl, rfl, by rw [okR]; trivial, rfl, rfl, b2, s2, p2, t2, by rw [RwV]⟩ ?_ ?_
    · rintro i σ H3 hi ⟨row, vs, used, rest, c6, c7, rfl, hl, hO, hps, hlv, b3, s3, p3, t3, hR⟩
      have lps : ps.length ≤ m := by
        rw [List.length_cons] at hm
        omega
      have l2 : used.length + rest.length ≤ m := by
        rw [hps, List.length_append] at lps
        exact lps
      refine ⟨_, rfl, _, rfl, _, rfl, s, _, pl, 3, rest, rfl, s3, p3, nps, by omega, by decide, by decide, fun x v used' rest' H4 e1 e2 e3 b4 s4 p4 hv => ?_⟩
      have t4 := b4 _ _ (by simp [nst, nss]) t3
      have l4 := hR.len
      have kp4 : KP 0 H3 H4 := but_kp b4 s3 p3
      refine ⟨_, rfl, .inl ⟨rfl, _, SqL.of t4⟩, _, rfl, st, vs, v, rfl, rfl, t4, szlt (by omega), ?_⟩
      have kp5 : KP 0 H4 (upd H4 st (.lst (vs ++ [v]))) := .upd t4 id
      have hk : rkS x ≤ m := by
        have := rkS_le x
        rw [e2] at this
        rw [e1, List.length_append] at l2
        omega
      refine ⟨_, rfl, _, rfl, _, _, x, rfl, hv.kp kp5, hk, e3, fun H6 s6 => ?_⟩
      refine ⟨row ++ [x], vs ++ [v], used ++ used', rest', some (.int (0 + (i : Int))), some v, by rw [hgR_snoc]; rfl, by simp [hl], okR_snoc _ _ _ hO e3, by rw [hps, e1, List.append_assoc], by rw [lvR_snoc, hlv, e2], ((b3.trans b4).updN hst0).trans (.of s6), ?_, ?_, ?_, ?_⟩
      · refine strm_same s6 ?_
        obtain ⟨r, m, h⟩ := s4
        exact ⟨r, m, by rw [upd_ne nss.symm]; exact h⟩
      · refine s6 _ _ ?_
        rw [upd_ne nst.symm]
        exact p4
      · exact s6 _ _ upd_same
      · exact (RwV.snoc (RwV.kp (kp4.trans kp5) row hR) (hv.kp kp5)).kp (C := 0) (.of s6)
    · rintro σ H3 ⟨row, vs, used, rest, c6, c7, rfl, hl, hO, hps, hlv, b3, s3, p3, t3, hR⟩
      refine ⟨_, rfl, _, rfl, st, vs, rfl, .inl ⟨SqL.of t3, fun q hq => ⟨szl rfl, fun p hp => ?_⟩⟩⟩
      have sq := same_upd (o := .tup vs) hq
      have sp := same_upd (o := .tup [.str x0, .ref q]) hp
      refine k p x0 row (x0 :: used) rest _ (by rw [hps]; rfl) (by rw [hlv]) hO (by omega) ((b3.trans (.of sq)).trans (.of sp)) (strm_same sp (strm_same sq s3)) (sp _ _ (sq _ _ p3)) ⟨q, vs, SqT.of upd_same, SqT.of (sp _ _ upd_same), ?_⟩
      exact hR.kp (C := 0) (.of (same_trans sq sp))
theorem d_plans {fd2 : FuncData} {f2 : Addr} (F : FnP K "_law_plan" "_law_plan" sL_plan f fd) (gm : mg "_law_plan" = some (.ref f)) (F2 : FnP K "_law_stage" "_law_stage" sL_stage f2 fd2) (gm2 : mg "_law_stage" = some (.ref f2)) (T : Tx K mg)
    (D_L_draw : DefOk P w K mg base CX0 1 "_law_draw" ["stream", "span"] [] spDraw) (D_L_pick : DefOk P w K mg base CX0 2 "_law_pick" ["stream", "things"] [] (spPick K)) (D_L_name : DefOk P w K mg base CX0 3 "_law_name" ["stream"] [] spNm)
    (D_L_height : ∀ n, DefOk P w K mg base CX0 (2 * n + 2) "_law_height" ["height", "stage"] [] (spHgt K n)) :
    ∀ m, DefOk P w K mg base CX0 (2 * m + 4) "_law_plan" ["stream", "pool", "most"] [] (spPln K m) ∧ DefOk P w K mg base CX0 (2 * m + 5) "_law_stage" ["stream", "height", "pool", "most"] [] (spStg K m)
  | 0 => ⟨d_plan0 F gm, d_stage 0 F2 gm2 T D_L_draw D_L_pick D_L_name (d_plan0 F gm)⟩
  | m + 1 => by
    have h := d_planS (base := base) (P := P) (w := w) m F gm T D_L_draw (D_L_height m) (d_plans F gm F2 gm2 T D_L_draw D_L_pick D_L_name D_L_height m).2
    exact ⟨h, d_stage (m + 1) F2 gm2 T D_L_draw D_L_pick D_L_name h⟩
/-! the program of a plan -/
def spPrg (C : Addr) (K : PySem.W.Frag) (n : Nat) : Sp := fun vs H Q _ => ∃ p x r, vs = [.ref p] ∧ PlV K H x r p ∧ rkR r < n ∧ okR 0 r ∧ r.length ≤ 6 ∧ LsOk (x :: lvR r) ∧ ∀ q H', Same H H' → PgP C K H' x r q → Q (.ref q) H'
theorem scL_program : FnScope ["plan", "found", "stage"] ["plan"] (defScope sL_program) := ⟨rfl, rfl, rfl, by decide +kernel, rfl, by decide +kernel, by decide +kernel⟩
theorem d_program0 (F : FnP K "_law_program" "_law_program" sL_program f fd) (gm : mg "_law_program" = some (.ref f)) : DefOk P w K mg base CX0 6 "_law_program" ["plan"] [] (spPrg (He.ga K "Program") K 0) := by
  refine ⟨f, fd, [], F.ok scL_program (fun vs H Q E h => ?_) (fun cdv A outer s H vs Q E hr h => ?_), gm, F.kp, F.bindsN fun _ _ _ _ _ _ us hl => match us, hl with | [_], _ => rfl, .nil⟩
  · obtain ⟨_, _, _, rfl, _⟩ := h
    rfl
  · obtain ⟨_, _, _, _, _, z, _⟩ := h
    exact absurd z (Nat.not_lt_zero _)
theorem d_programS (n : Nat) (F : FnP K "_law_program" "_law_program" sL_program f fd) (gm : mg "_law_program" = some (.ref f)) (T : Ty P w K mg base) (G_Program : MakeOk P w K mg base (L2.CX P w) 4 (He.ga K "Program") "Program" ["self", "source", "stages"] [] (spInit (He.ga K "Program") K))
    (D_L_program : DefOk P w K mg base CX0 (n + 6) "_law_program" ["plan"] [] (spPrg (He.ga K "Program") K n)) :
    DefOk P w K mg base CX0 (n + 1 + 6) "_law_program" ["plan"] [] (spPrg (He.ga K "Program") K (n + 1)) := by
  refine ⟨f, fd, [], F.ok (k := n + 6) scL_program (fun vs H Q E h => ?_) (fun cdv A outer s H vs Q E hr h => ?_), gm, F.kp, F.bindsN fun _ _ _ _ _ _ us hl => match us, hl with | [_], _ => rfl, .nil⟩
  · obtain ⟨_, _, _, rfl, _⟩ := h
    rfl
  · obtain ⟨p, x, r, rfl, ⟨q, vs, a, b, c⟩, hk, ho, h6, hl, k⟩ := h
    refine ⟨_, PSs.nox (pss_cons (ps_set (i := 1) scL_program.nd rfl (.inl rfl) (pe_lst pa_nil))
  (pss_cons (ps_for PassesOwn.never rfl (pi_tup (pe_ix ix_tup (pv 0) pe_int (fun _ _ => rfl))) (pg_name (i := 2) scL_program.nd rfl (.inl rfl))
  (pss_one (ps_expr (pe_bm PySem.F.plainAttrs_list PySem.F.slot_list_append PySem.F.type_list_append mt_append (pv 1) (pa_cons (pe_ifExp (pt_cmpR op_eq (pe_ix ix_tup (pv 2) pe_int (fun _ _ => rfl)) pe_str (nomark _)) (pe_tup (pa_cons pe_str (pa_cons (pe_d D_L_program (hr.mono (by omega)) pass0 (pa_cons (pe_ix ix_tup (pv 2) pe_int (fun _ _ => rfl)) pa_nil)) pa_nil))) (pv 2)) pa_nil)))))
  (pss_one (ps_ret (pe_mk G_Program (hr.mono (by omega)) (passX rfl rfl) (pa_cons (pe_ix ix_tup (pv 0) pe_int (fun _ _ => rfl)) (pa_cons (pv 1) pa_nil))))))), ?_⟩
    refine ⟨szl rfl, fun fo hfo => ⟨_, rfl, _, _, _, _, rfl, rfl, sqT_same (same_upd hfo) a, atI_nat (j := 1) rfl, q, rfl, ⟨vs, sqT_same (same_upd hfo) b⟩, for_tup (K := K) (a := q) (xs := vs) (fun i σ H' => ∃ (done rest : List Sx) (us pvs : List V) (c2 : Option V), r = done ++ rest ∧ done.length = i ∧ vs.drop i = us ∧ RwV K H rest us ∧ okR (hgR 0 done) rest ∧ σ = [some (.ref p), some (.ref fo), c2] ∧ Same H H' ∧ H' fo = some (.lst pvs) ∧ RwP (He.ga K "Program") K H' done pvs)
      ⟨[], r, vs, [], none, rfl, rfl, rfl, c, by rw [hgR]; exact ho, rfl, same_upd hfo, upd_same, by rw [RwP]⟩ (fun i σ H' _ ⟨_, _, _, _, _, _, _, _, _, _, _, s1, _⟩ => sqT_same s1 b) ?_ ?_⟩⟩
    · rintro i v σ H' hi ⟨done, rest, us, pvs, c2, er, rfl, ed, hR, hO, rfl, s1, hf, hP⟩
      obtain ⟨hlt, ev⟩ := List.getElem?_eq_some_iff.mp hi
      rw [List.drop_eq_getElem_cons hlt, ev] at ed
      cases rest with
      | nil =>
        rw [show us = [] from hR] at ed
        cases ed
      | cons y rest =>
        obtain ⟨v', us', e, hx, hr'⟩ := hR
        rw [← ed] at e
        cases e
        rw [okR] at hO
        have hy : y ∈ r := by rw [er]; simp
        have hkx : rkS y ≤ n := by
          have := rk_mem (r := r) (i := done.length) (s := y) (by rw [er, List.getElem?_append_right (Nat.le_refl _), Nat.sub_self]; rfl)
          omega
        have lp := hP.len
        have ld : done.length < 1000 := by
          have : r.length = done.length + (rest.length + 1) := by rw [er, List.length_append, List.length_cons]
          omega
        have hx1 := hx.kp (C := 0) (.of s1)
        have eD : okR (hgR 0 (done ++ [y])) rest := by rw [hgR_snoc]; exact hO.2
        have keep : ∀ t : Addr, v = .ref t → StP (He.ga K "Program") K H' y v → ∃ (done2 rest2 : List Sx) (us2 pvs2 : List V) (c2 : Option V), r = done2 ++ rest2 ∧ done2.length = done.length + 1 ∧ vs.drop (done.length + 1) = us2 ∧ RwV K H rest2 us2 ∧ okR (hgR 0 done2) rest2 ∧ ([some (V.ref p), some (.ref fo), some v] : L2.St) = [some (.ref p), some (.ref fo), c2] ∧ Same H (upd H' fo (.lst (pvs ++ [v]))) ∧ (upd H' fo (.lst (pvs ++ [v]))) fo = some (.lst pvs2) ∧ RwP (He.ga K "Program") K (upd H' fo (.lst (pvs ++ [v]))) done2 pvs2 := by
          intro t ev hs
          have kp : KP (He.ga K "Program") H' (upd H' fo (.lst (pvs ++ [v]))) := .upd hf id
          exact ⟨done ++ [y], rest, _, pvs ++ [v], some v, by rw [er, List.append_assoc]; rfl, by simp, rfl, hr', eD, rfl, same_updN s1 hfo, upd_same, (RwP.snoc (RwP.kp kp _ hP) (hs.kp kp))⟩
        cases y with
        | nm w1 x1 =>
          obtain ⟨t, rfl, tA⟩ := hx1
          rw [okS] at hO
          refine ⟨_, rfl, .inl ⟨rfl, _, SqL.of hf⟩, _, rfl, _, _, _, _, rfl, rfl, tA, atI_nat (j := 0) rfl, rfl, _, rfl, ?_⟩
          rw [sc_str, decide_eq_false (named_ne hO.1.1).2.1]
          exact ⟨_, rfl, fo, pvs, _, rfl, rfl, hf, szlt (by omega), keep t rfl (by rw [StP]; exact ⟨t, rfl, tA⟩)⟩
        | nu w1 n1 =>
          obtain ⟨t, rfl, tA⟩ := hx1
          rw [okS] at hO
          refine ⟨_, rfl, .inl ⟨rfl, _, SqL.of hf⟩, _, rfl, _, _, _, _, rfl, rfl, tA, atI_nat (j := 0) rfl, rfl, _, rfl, ?_⟩
          rw [sc_str, decide_eq_false (numbered_ne hO.1.1).2.1]
          exact ⟨_, rfl, fo, pvs, _, rfl, rfl, hf, szlt (by omega), keep t rfl (by rw [StP]; exact ⟨t, rfl, tA⟩)⟩
        | flat =>
          obtain ⟨t, rfl, tA⟩ := hx1
          refine ⟨_, rfl, .inl ⟨rfl, _, SqL.of hf⟩, _, rfl, _, _, _, _, rfl, rfl, tA, atI_nat (j := 0) rfl, rfl, _, rfl, ?_⟩
          rw [sc_str, decide_eq_false (by decide +kernel)]
          exact ⟨_, rfl, fo, pvs, _, rfl, rfl, hf, szlt (by omega), keep t rfl (by rw [StP]; exact ⟨t, rfl, tA⟩)⟩
        | zip sr r1 =>
          obtain ⟨t, pp, qq, vs1, rfl, tA, tB, tC, tD⟩ := hx1
          rw [okS] at hO
          rw [rkS] at hkx
          have hl1 : LsOk (sr :: lvR r1) := by
            have q := lv_sub hy
            rw [lvS] at q
            exact hl.sub (q.trans (List.sublist_cons_self _ _))
          refine ⟨_, rfl, .inl ⟨rfl, _, SqL.of hf⟩, _, rfl, _, _, _, _, rfl, rfl, tA, atI_nat (j := 0) rfl, rfl, _, rfl, ?_⟩
          rw [sc_str, decide_eq_true rfl]
          refine ⟨_, rfl, _, _, _, _, rfl, rfl, tA, atI_nat (j := 1) rfl, pp, sr, r1, rfl, ⟨qq, vs1, tB, tC, tD⟩, by omega, hO.1.2, hO.1.1, hl1, fun q2 H2 s2 hQ => ⟨szl rfl, fun t2 ht2 => ?_⟩⟩
          have s3 := same_upd (o := .tup [.str "zip", .ref q2]) ht2
          refine ⟨fo, pvs, _, rfl, rfl, s3 _ _ (s2 _ _ hf), szlt (by omega), ?_⟩
          have kp : KP (He.ga K "Program") H2 (upd (upd H2 t2 (.tup [.str "zip", .ref q2])) fo (.lst (pvs ++ [.ref t2]))) := (KP.of s3).trans (.upd (s3 _ _ (s2 _ _ hf)) id)
          refine ⟨done ++ [.zip sr r1], rest, _, pvs ++ [.ref t2], some (.ref t), by rw [er, List.append_assoc]; rfl, by simp, rfl, hr', eD, rfl, same_updN (same_trans s1 (same_trans s2 s3)) hfo, upd_same, RwP.snoc (RwP.kp ((KP.of s2).trans kp) _ hP) ?_⟩
          obtain ⟨vs2, g1, g2⟩ := hQ.kp kp
          rw [StP]
          refine ⟨t2, q2, vs2, rfl, SqT.of ?_, g1, g2⟩
          rw [upd_ne, upd_same]
          rintro rfl
          rw [s2 _ _ hf] at ht2
          cases ht2
    · rintro σ H' ⟨done, rest, us, pvs, c2, er, ed, eu, hR, hO, rfl, s1, hf, hP⟩
      rw [List.drop_length] at eu
      subst eu
      cases rest with
      | nil =>
        rw [List.append_nil] at er
        subst er
        have lp := hP.len
        have q := run_ok (n := 0) (pre := []) (d := 0) (L := [x]) hP ho hl.1
        refine ⟨_, rfl, _, _, _, _, rfl, rfl, sqT_same s1 a, atI_nat (j := 0) rfl, _, rfl, ?_⟩
        exact rd_prog (hl.2 x (by simp)) (SqL.of hf) (by omega) q fun q2 H2 s2 _ hI => k q2 H2 (same_trans s1 s2) ⟨pvs, hI, RwP.kp (.of s2) _ hP⟩
      | cons y rest =>
        obtain ⟨_, _, e, _⟩ := hR
        cases e
theorem d_programs (F : FnP K "_law_program" "_law_program" sL_program f fd) (gm : mg "_law_program" = some (.ref f)) (T : Ty P w K mg base) (G_Program : MakeOk P w K mg base (L2.CX P w) 4 (He.ga K "Program") "Program" ["self", "source", "stages"] [] (spInit (He.ga K "Program") K)) :
    ∀ n, DefOk P w K mg base CX0 (n + 6) "_law_program" ["plan"] [] (spPrg (He.ga K "Program") K n)
  | 0 => d_program0 F gm
  | n + 1 => d_programS n F gm T G_Program (d_programs F gm T G_Program n)
end

end K02
namespace K02
open PySem PySem.Spec PyProof.Rows L2 Lw
/-! ### over data -/
abbrev ev (K : PySem.W.Frag) : Ev := ⟨K, fun c => if c = "Program" then some pFld else none⟩
theorem tab_Program {K : PySem.W.Frag} : (ev K).T "Program" = some pFld := by
  show (if ("Program" : Str) = "Program" then some pFld else none) = some pFld
  exact if_pos rfl
abbrev clss : List Str := ["Program"]
structure Td (P : Program) (w : World) (K : PySem.W.Frag) (mg : Str → Option Value) (base : Heap) : Prop extends Ty P w K mg base where
  oP : ObjTy (ev K) "Program"
  z_set : mg "set" = none
  z_repr : mg "repr" = none
  ck_Program : ClsK (ev K) clss "Program"
  ne_P : PySem.W.findIn K (.ref (He.ga K "Program")) "__ne__" = some (some (.builtin "object.__ne__"))
  ob_P : PySem.W.subIn K (.ref (He.ga K "Program")) (.type "object") = some true
  nf_P : ∀ k : Kd, PySem.W.subIn K (.type k.nm) (.ref (He.ga K "Program")) = some false
  m11 : PySem.W.exmOne K (.ref (He.ga K "BadPositions")) (.ref (He.ga K "BadPositions")) = some true
  m21 : PySem.W.exmOne K (.ref (He.ga K "BadStages")) (.ref (He.ga K "BadPositions")) = some false
  m22 : PySem.W.exmOne K (.ref (He.ga K "BadStages")) (.ref (He.ga K "BadStages")) = some true
  m31 : PySem.W.exmOne K (.ref (He.ga K "BadStage")) (.ref (He.ga K "BadPositions")) = some false
  m32 : PySem.W.exmOne K (.ref (He.ga K "BadStage")) (.ref (He.ga K "BadStages")) = some false
  m33 : PySem.W.exmOne K (.ref (He.ga K "BadStage")) (.ref (He.ga K "BadStage")) = some true
  sm : He.dictB K sysModules = true
section
variable {P : Program} {w : World} {K : PySem.W.Frag} {mg : Str → Option Value} {base : Heap} {f : Addr} {fd : FuncData}
theorem Td.oty (T : Td P w K mg base) : ∀ c ∈ clss, ObjTy (ev K) c := fun c h => by
  rw [List.mem_singleton.mp h]
  exact T.oP
theorem Td.cl_Program (T : Td P w K mg base) : Cls K (He.ga K "Program") := T.pc.cl
theorem Td.f_Program_heights (T : Td P w K mg base) : FldOk (ev K) "Program" "heights" := ⟨T.pc.cl, T.pc.nH⟩
theorem Td.f_Program_leaves (T : Td P w K mg base) : FldOk (ev K) "Program" "leaves" := ⟨T.pc.cl, T.pc.nL⟩
theorem Td.f_Program_row (T : Td P w K mg base) : FldOk (ev K) "Program" "row" := ⟨T.pc.cl, T.pc.nR⟩
def W_Program_sources : WS := (wRet (wCall gTuple (wCons (wFld "Program" "leaves" 1 (wVar 0)) wNil)))
def S_Program_sources : DSpec := bodyS 1 1 W_Program_sources
theorem q_Program_sources (F : FnP K "sources" "Program.sources" sProgram_sources f fd) {p : Addr} (hp : PropOf K (He.ga K "Program") "sources" p f) (T : Td P w K mg base)  : PropOk P w K mg base CX0 1 (He.ga K "Program") "sources" (spD (ev K) S_Program_sources) := by
  exact ⟨p, f, fd, F.ok scProgram_sources (fun vs H Q E h => body_len h) (fun cdv A outer s H vs Q E hr h => ⟨_, PSs.nox (ds_one (ds_ret (d_callTy (c_tuple rfl) (by rfl) T.z_tuple (by decide +kernel) (d_cons (d_fld rfl T.f_Program_leaves (ns := pFld) (.inl tab_Program) rfl rfl (d_var (pv 0))) d_nil)))), body_ok (N := ["self"]) (ps := []) h⟩), hp, F.bindsN fun _ _ _ _ _ _ us hl => match us, hl with | [_], _ => rfl, T.cl_Program⟩
def W_Program_source : WS := (wRet (wOp gIx (wFld "Program" "leaves" 1 (wVar 0)) (wC (.int 0))))
def S_Program_source : DSpec := bodyS 1 1 W_Program_source
theorem q_Program_source (F : FnP K "source" "Program.source" sProgram_source f fd) {p : Addr} (hp : PropOf K (He.ga K "Program") "source" p f) (T : Td P w K mg base)  : PropOk P w K mg base CX0 1 (He.ga K "Program") "source" (spD (ev K) S_Program_source) := by
  exact ⟨p, f, fd, F.ok scProgram_source (fun vs H Q E h => body_len h) (fun cdv A outer s H vs Q E hr h => ⟨_, PSs.nox (ds_one (ds_ret (d_ix rfl (d_fld rfl T.f_Program_leaves (ns := pFld) (.inl tab_Program) rfl rfl (d_var (pv 0))) d_int (fun _ _ => rfl)))), body_ok (N := ["self"]) (ps := []) h⟩), hp, F.bindsN fun _ _ _ _ _ _ us hl => match us, hl with | [_], _ => rfl, T.cl_Program⟩
def W_Program_stages : WS := (wRet (wFld "Program" "row" 2 (wVar 0)))
def S_Program_stages : DSpec := bodyS 1 1 W_Program_stages
theorem q_Program_stages (F : FnP K "stages" "Program.stages" sProgram_stages f fd) {p : Addr} (hp : PropOf K (He.ga K "Program") "stages" p f) (T : Td P w K mg base)  : PropOk P w K mg base CX0 1 (He.ga K "Program") "stages" (spD (ev K) S_Program_stages) := by
  exact ⟨p, f, fd, F.ok scProgram_stages (fun vs H Q E h => body_len h) (fun cdv A outer s H vs Q E hr h => ⟨_, PSs.nox (ds_one (ds_ret (d_fld rfl T.f_Program_row (ns := pFld) (.inl tab_Program) rfl rfl (d_var (pv 0))))), body_ok (N := ["self"]) (ps := []) h⟩), hp, F.bindsN fun _ _ _ _ _ _ us hl => match us, hl with | [_], _ => rfl, T.cl_Program⟩
def W_Program_depth : WS := (wRet (wOp gIx (wFld "Program" "heights" 0 (wVar 0)) (wNeg (wC (.int 1)))))
def S_Program_depth : DSpec := bodyS 1 1 W_Program_depth
theorem q_Program_depth (F : FnP K "depth" "Program.depth" sProgram_depth f fd) {p : Addr} (hp : PropOf K (He.ga K "Program") "depth" p f) (T : Td P w K mg base)  : PropOk P w K mg base CX0 1 (He.ga K "Program") "depth" (spD (ev K) S_Program_depth) := by
  exact ⟨p, f, fd, F.ok scProgram_depth (fun vs H Q E h => body_len h) (fun cdv A outer s H vs Q E hr h => ⟨_, PSs.nox (ds_one (ds_ret (d_ix rfl (d_fld rfl T.f_Program_heights (ns := pFld) (.inl tab_Program) rfl rfl (d_var (pv 0))) (d_neg d_int) (fun _ _ => rfl)))), body_ok (N := ["self"]) (ps := []) h⟩), hp, F.bindsN fun _ _ _ _ _ _ us hl => match us, hl with | [_], _ => rfl, T.cl_Program⟩
theorem scis_position : FnScope ["value", "many"] ["value", "many"] (defScope sis_position) := ⟨rfl, rfl, rfl, by decide +kernel, rfl, by decide +kernel, by decide +kernel⟩
def W_is_position : WS := (wRet (wAnd (wIsi clss .int (wVar 0)) (wAnd (wNot (wIsi clss .bl (wVar 0))) (wChain gLe gLt (wC (.int 0)) (wVar 0) (wVar 1)))))
def S_is_position : DSpec := bodyS 2 2 W_is_position
theorem d_is_position (F : FnP K "is_position" "is_position" sis_position f fd) (gm : mg "is_position" = some (.ref f)) (T : Td P w K mg base)  : DefOk P w K mg base CX0 1 "is_position" ["value", "many"] [] (spD (ev K) S_is_position) := by
  exact ⟨f, fd, [], F.ok scis_position (fun vs H Q E h => body_len h) (fun cdv A outer s H vs Q E hr h => ⟨_, PSs.nox (ds_one (ds_ret (d_and (d_isi (cs := clss) (t := .int) rfl T.oty (by rfl) T.z_isinstance (by rfl) T.z_int (by decide +kernel) (d_var (pv 0))) (d_and (d_not (d_isi (cs := clss) (t := .bl) rfl T.oty (by rfl) T.z_isinstance (by rfl) T.z_bool (by decide +kernel) (d_var (pv 0)))) (d_one (d_chain op_gLe op_gLt d_int (d_var (pv 0)) (d_var (pv 1)))))))), body_ok (N := ["value", "many"]) (ps := []) h⟩), gm, F.kp, F.bindsN fun _ _ _ _ _ _ us hl => match us, hl with | [_, _], _ => rfl, .nil⟩
end
end K02
namespace K02
open PySem PySem.Spec PyProof.Rows L2 Lw
abbrev gRow (n : Nat) : W2 := fun x y M R => ∃ r, (∃ l m, x = .tup l ∧ y = .tup m ∧ CqL n l m r) ∧ R (.bl r) M
theorem tupRef {U : Ev} {n : Nat} {H : Hp} {v : V} {d e : Dt} {r : Bool} (h : Rp U H v d) (c : ∃ l m, d = .tup l ∧ e = .tup m ∧ CqL n l m r) : ∃ a, v = .ref a := by
  obtain ⟨l, m, rfl, _, _⟩ := c
  cases h
  exact ⟨_, rfl⟩
theorem tupRef2 {U : Ev} {n : Nat} {H : Hp} {v : V} {d e : Dt} {r : Bool} (h : Rp U H v e) (c : ∃ l m, d = .tup l ∧ e = .tup m ∧ CqL n l m r) : ∃ a, v = .ref a := by
  obtain ⟨l, m, _, rfl, _⟩ := c
  cases h
  exact ⟨_, rfl⟩
section
variable {P : Program} {w : World} {K : PySem.W.Frag} {mg : Str → Option Value} {base : Heap} {f : Addr} {fd : FuncData}
theorem scProgram_eq : FnScope ["self", "other"] ["self", "other"] (defScope sProgram_eq) := ⟨rfl, rfl, rfl, by decide +kernel, rfl, by decide +kernel, by decide +kernel⟩
def W_Program_eq (n : Nat) : WS := (wRet (wAnd (wIsC clss "Program" (wVar 1)) (wAnd (wOp gEq (wPp "Program" S_Program_source (wVar 0)) (wPp "Program" S_Program_source (wVar 1))) (wOp (gRow n) (wFld "Program" "row" 2 (wVar 0)) (wFld "Program" "row" 2 (wVar 1))))))
def S_Program_eq (n : Nat) : DSpec := bodyS 2 2 (W_Program_eq n)
theorem o_Program_eq (n : Nat) (F : FnP K "__eq__" "Program.__eq__" sProgram_eq f fd) (T : Td P w K mg base) (P_source : PropOk P w K mg base CX0 1 (He.ga K "Program") "source" (spD (ev K) S_Program_source))
    (EB : ∀ X : Cx, X.prog = P → X.w = w → X.K = K → X.mg = mg → X.base = base → EqB X (ev K) (3 * n) n) : FnOk P w K mg base CX0 (3 * n + 3) f fd ["self", "other"] (spD (ev K) (S_Program_eq n)) := by
  exact F.ok scProgram_eq (fun vs H Q E h => body_len h) (fun cdv A outer s H vs Q E hr h => ⟨_, PSs.nox (ds_one (ds_ret (d_and (d_isC (cs := clss) (c := "Program") rfl T.oty T.ck_Program (by rfl) T.z_isinstance (by rfl) T.g_Program (d_var (pv 1))) (d_and (d_cmp (op_gEq rfl (hr.units)) (d_pp P_source (hr.mono (by omega)) pass0 (d_var (pv 0))) (d_pp P_source (hr.mono (by omega)) pass0 (d_var (pv 1))) (nomark _)) (d_one (d_cmp (op_eqRc (rcB_tup (EB _ rfl rfl rfl rfl rfl) rfl) (hr.mono (by omega)) rfl tupRef tupRef2) (d_fld rfl T.f_Program_row (ns := pFld) (.inl tab_Program) rfl rfl (d_var (pv 0))) (d_fld rfl T.f_Program_row (ns := pFld) (.inl tab_Program) rfl rfl (d_var (pv 1))) (nomark _))))))), body_ok (N := ["self", "other"]) (ps := []) h⟩)

theorem fn_mono {CX : CXT} {k : Nat} {ps : List Str} {sp sp' : Sp} (F : FnOk P w K mg base CX k f fd ps sp) (h : ∀ vs H Q E, sp' vs H Q E → sp vs H Q E) : FnOk P w K mg base CX k f fd ps sp' :=
  ⟨fun vs H Q E z => F.len vs H Q E (h _ _ _ _ z), fun A outer s H args us vs Q E a b c d z => F.run A outer s H args us vs Q E a b c d (h _ _ _ _ z)⟩
theorem sd_mono {S S' : DSpec} (h : ∀ ds M R Rx, S' ds M R Rx → S ds M R Rx) : ∀ vs H Q E, spD (ev K) S' vs H Q E → spD (ev K) S vs H Q E := fun vs H Q E ⟨ds, M, R, Rx, a, b, c, d, e⟩ => ⟨ds, M, R, Rx, a, b, h _ _ _ _ c, d, e⟩
/-- the source of a program -/
theorem src_pg {h : Dt} {x : Str} {t l : List Dt} {M : Mh} {R : Dt → Mh → Prop} {Rx} (w : R (.str x) M) : S_Program_source [pgD h x t l] M R Rx := by
  refine ⟨rfl, ?_⟩
  show W_Program_source [some (pgD h x t l)] M _
  simp only [W_Program_source, wRet, wOp, wFld, wVar, wC, gIx, pgD, List.getElem?_cons_zero, List.getElem?_cons_succ, atI_zero, sq, sql]
  exact ⟨trivial, w⟩
/-- two programs, and a program beside another thing -/
def S_eqO : DSpec := fun ds M R _ => ∃ h x t l e k, ds = [pgD h x t l, e] ∧ ky M e = some (.b k) ∧ R (.bl false) M
theorem eq_reads (n : Nat) : ∀ ds M R Rx, (S_eqP n ds M R Rx ∨ S_eqO ds M R Rx) → S_Program_eq n ds M R Rx := by
  rintro ds M R Rx (⟨d, e, r, rfl, ⟨h, h', x, y, t, t', l, m, rfl, rfl, c⟩, w⟩ | ⟨h, x, t, l, e, k, rfl, hk, w⟩)
  · refine ⟨rfl, ?_⟩
    show W_Program_eq n [some (pgD h x t l), some (pgD h' y t' m)] M _
    have e1 : ky M (pgD h' y t' m) = some (.o "Program") := rfl
    simp only [W_Program_eq, wRet, wAnd, wIsC, wVar, wOp, wPp, List.getElem?_cons_zero, List.getElem?_cons_succ, e1]
    refine ⟨by simp, ?_⟩
    simp only [decide_true]
    refine ⟨rfl, src_pg ⟨rfl, src_pg ?_⟩⟩
    show eqD M _ (.str x) (.str y)
    simp only [eqD]
    rcases c with ⟨rfl, c⟩ | ⟨hne, rfl⟩
    · rw [decide_eq_true rfl]
      show wFld _ _ _ _ _ _ _
      simp only [wFld, wVar, List.getElem?_cons_zero, List.getElem?_cons_succ, pgD]
      exact ⟨trivial, trivial, r, ⟨_, _, rfl, rfl, c⟩, w⟩
    · rw [decide_eq_false hne]
      exact w
  · refine ⟨rfl, ?_⟩
    show W_Program_eq n [some (pgD h x t l), some e] M _
    simp only [W_Program_eq, wRet, wAnd, wIsC, wVar, List.getElem?_cons_zero, List.getElem?_cons_succ, hk]
    exact w
/-- the own == -/
structure OwnEq (P : Program) (w : World) (K : PySem.W.Frag) (mg : Str → Option Value) (base : Heap) (f : Addr) (fd : FuncData) : Prop where
  hs : PySem.W.findIn K (.ref (He.ga K "Program")) "__eq__" = some (some (.ref f))
  hf : PySem.W.isFn K (.ref f) = true
  hb : Binds K fd ["self", "other"] []
  F : FnP K "__eq__" "Program.__eq__" sProgram_eq f fd
theorem eqB_all (O : OwnEq P w K mg base f fd) (T : Td P w K mg base) (P_source : PropOk P w K mg base CX0 1 (He.ga K "Program") "source" (spD (ev K) S_Program_source)) :
    ∀ n : Nat, (∀ X : Cx, X.prog = P → X.w = w → X.K = K → X.mg = mg → X.base = base → EqB X (ev K) (3 * n) n) ∧ FnOk P w K mg base CX0 (3 * n + 3) f fd ["self", "other"] (spD (ev K) fun ds M R Rx => S_eqP n ds M R Rx ∨ S_eqO ds M R Rx)
  | 0 => by
    have h0 : ∀ X : Cx, X.prog = P → X.w = w → X.K = K → X.mg = mg → X.base = base → EqB X (ev K) (3 * 0) 0 := fun X _ _ _ _ _ => eqB_flat
    exact ⟨h0, fn_mono (o_Program_eq 0 O.F T P_source h0) (sd_mono (eq_reads 0))⟩
  | n + 1 => by
    obtain ⟨h, F⟩ := eqB_all O T P_source n
    have h1 : ∀ X : Cx, X.prog = P → X.w = w → X.K = K → X.mg = mg → X.base = base → EqB X (ev K) (3 * (n + 1)) (n + 1) := by
      intro X e1 e2 e3 e4 e5
      have hE : EqB X (ev K) (3 * n + 2) n := fun A pins s σ H x y u v d e r sb => h X e1 e2 e3 e4 e5 A pins s σ H x y u v d e r ⟨sb.room.mono (by omega), sb.fr⟩
      have F' : FnOk X.prog X.w X.K X.mg X.base CX0 (3 * n + 2 + 1) f fd ["self", "other"] (spD (ev K) (S_eqP n)) := by
        rw [e1, e2, e3, e4, e5]
        exact fn_mono F (sd_mono fun _ _ _ _ z => .inl z)
      have hs : PySem.W.findIn X.K (.ref (He.ga K "Program")) "__eq__" = some (some (.ref f)) := by rw [e3]; exact O.hs
      have hf : PySem.W.isFn X.K (.ref f) = true := by rw [e3]; exact O.hf
      have hb : Binds X.K fd ["self", "other"] [] := by rw [e3]; exact O.hb
      exact eqB_step hE (rcB_pg e3 rfl F' hs hf hb pass0) e3
    exact ⟨h1, fn_mono (o_Program_eq (n + 1) O.F T P_source h1) (sd_mono (eq_reads (n + 1)))⟩
end
end K02
namespace K02
open PySem PySem.Spec PyProof.Rows L2 Lw
/-! ### Program(..): what comes out -/
/-- what is no stage -/
inductive BadD : Dt → Prop
  | fl {d : Dt} : fl d = true → BadD d
  | lst {l : List Dt} : BadD (.lst l)
  | nil : BadD (.tup [])
  | len {w : Str} {r : List Dt} : w ≠ "flat" → r.length ≠ 1 → BadD (.tup (.str w :: r))
  | zip {l : List Dt} : BadD (.tup [.str "zip", .tup l])
  | nuI {w : Str} {n : Int} : w ∈ counted → ¬ (1 ≤ n ∧ n ≤ 4) → BadD (.tup [.str w, .int n])
  | nmS {w x : Str} : w ∈ named → nameB x = false → x.length ≤ 1000 → BadD (.tup [.str w, .str x])
theorem badD_ok {K : PySem.W.Frag} {H : Hp} (kP : PySem.W.kitOne K (.type "tuple") (.ref (He.ga K "Program")) = some false) {d : Dt} (h : BadD d) {v : V} (r : Rp (ev K) H v d) : Lw.Bad (He.ga K "Program") K H v := by
  cases h with
  | fl h =>
    cases r with
    | non => exact .ty (.base .non) (Kd.kit K .non .tup)
    | bl => exact .ty (.base (.bl _)) (Kd.kit K .bl .tup)
    | int => exact .ty (.base (.int _)) (Kd.kit K .int .tup)
    | str _ _ => exact .ty (.base (.str _)) (Kd.kit K .str .tup)
    | _ => cases h
  | lst => cases r with | lst a b c => exact .ty (.base (.frz a)) (Kd.kit K .lst .tup)
  | nil => cases r with | tup a b c => cases c; exact .nil a
  | len h1 h2 =>
    cases r with | tup a b c =>
    cases c with | cons c1 c2 =>
    rw [rp_str c1] at a
    exact .len a h1 (by rw [c2.len]; exact h2)
  | zip =>
    cases r with | tup a b c =>
    obtain ⟨v, u, rfl, r1, r2⟩ := two_rps c
    rw [rp_str r1] at a
    cases r2 with | tup a2 b2 c2 => exact .zip a (ty_tup a2) kP
  | nuI h1 h2 =>
    cases r with | tup a b c =>
    obtain ⟨v, u, rfl, r1, r2⟩ := two_rps c
    rw [rp_str r1, rp_int r2] at a
    exact .nuI a h1 h2
  | nmS h1 h2 h3 =>
    cases r with | tup a b c =>
    obtain ⟨v, u, rfl, r1, r2⟩ := two_rps c
    rw [rp_str r1, rp_str r2] at a
    exact .nmS a h1 h2 h3
/-- an entry that can't stand behind some depth, behind some sources -/
def NoSt (L : List Str) (h : Int) (d : Dt) : Prop := BadD d ∨ (d = dgS .flat ∧ ¬ 0 < h) ∨ ∃ y q, d = dgS (.zip y q) ∧ PlanOk y q ∧ ∃ z ∈ y :: lvR q, z ∈ L
theorem lastI_snoc (pre : List Int) (d : Int) : lastI (pre ++ [d]) = d := by
  unfold lastI
  rw [List.getLast?_concat]
  rfl
theorem noSt_run {K : PySem.W.Frag} {H : Hp} (kP : PySem.W.kitOne K (.type "tuple") (.ref (He.ga K "Program")) = some false) {L : List Str} {h : Int} {d : Dt} (g : NoSt L h d) {v : V} (r : Rp (ev K) H v d) {n : Nat} {pre : List Int} {more : List V} : Run (He.ga K "Program") K H n (pre ++ [h]) L (v :: more) (.inl n) := by
  rcases g with g | ⟨rfl, hf⟩ | ⟨y, q, rfl, hP, z, hz, hL⟩
  · exact .bad (badD_ok kP g r)
  · rw [dgS] at r
    cases r with | tup a b c =>
    obtain ⟨v, rfl, h1⟩ := one_rps c
    rw [rp_str h1] at a
    refine .off (.flat a) ?_
    rw [lastI_snoc]
    exact decide_eq_false hf
  · have o : okR 0 [.zip y q] := by
      rw [okR, okS]
      exact ⟨⟨hP.2.1, hP.1⟩, by rw [okR]; trivial⟩
    have l : LsOk (lvR [.zip y q]) := by
      rw [lvR, lvS, lvR, List.append_nil]
      exact hP.2.2
    obtain ⟨v', us, e, hS, e2⟩ := rps_rwp (U := ev K) tab_Program [.zip y q] (vs := [v]) (.cons r .nil) o l
    cases e
    obtain ⟨t, p, vs, rfl, h1, h2, h3⟩ := hS
    refine .off (.zip h1 h2) ?_
    show (!((y :: lvR q).any fun x => decide (x ∈ L))) = false
    have : ((y :: lvR q).any fun x => decide (x ∈ L)) = true := List.any_eq_true.mpr ⟨z, hz, decide_eq_true hL⟩
    rw [this]
    rfl
theorem run_stop {C : Addr} {K : PySem.W.Frag} {H : Hp} {v : V} {more : List V} : ∀ {r : List Sx} {n : Nat} {pre : List Int} {d : Int} {L : List Str} {vs : List V}, RwP C K H r vs → okR d r → (L ++ lvR r).Nodup →
    (∀ (m : Nat) (pre' : List Int), Run C K H m (pre' ++ [hgR d r]) (L ++ lvR r) (v :: more) (.inl m)) → Run C K H n (pre ++ [d]) L (vs ++ v :: more) (.inl (n + r.length))
  | [], n, pre, d, L, vs, h, _, _, hv => by
    rw [show vs = [] from h]
    have q := hv n pre
    rw [hgR, lvR, List.append_nil] at q
    exact q
  | s :: r, n, pre, d, L, vs, ⟨v', us, e, h1, h2⟩, o, nd, hv => by
    subst e
    rw [okR] at o
    rw [hgR, lvR, ← List.append_assoc] at hv
    rw [lvR, ← List.append_assoc] at nd
    have dis := (List.nodup_append.mp (List.nodup_append.mp nd).1).2.2
    obtain ⟨g, hg, e1, e2, e3⟩ := h1.stg (L := L) o.1 fun x hx hL => dis x hL x hx rfl
    have q := run_stop (n := n + 1) (pre := pre ++ [d]) (L := L ++ lvS s) h2 o.2 nd hv
    have en : n + (s :: r).length = n + 1 + r.length := by rw [List.length_cons]; omega
    rw [en]
    refine .on hg (by rw [lastI_snoc]; exact e3) ?_
    rw [lastI_snoc, e1, e2]
    exact q
theorem dgR_app : ∀ (r s : List Sx), dgR (r ++ s) = dgR r ++ dgR s
  | [], s => by simp [dgR]
  | x :: r, s => by rw [List.cons_append, dgR, dgR, dgR_app r s]; rfl
section
variable {X : Cx} {EX : XK} {K : PySem.W.Frag} {es : List Expr} {e : Expr} {p pos pos' : Pos} {wr : WA}
abbrev GP (P : Program) (w : World) (K : PySem.W.Frag) (mg : Str → Option Value) (base : Heap) (dvs : List V) : Prop := MakeOk P w K mg base (L2.CX P w) 4 (He.ga K "Program") "Program" ["self", "source", "stages"] dvs (spInit (He.ga K "Program") K)
/-- Program(x, stages): the program, or what is raised -/
def xMkP (wr : WA) : WX' := fun δ M R Rx => wr δ M fun ds M1 => ∃ x d its, ds = [.str x, d] ∧ x ∈ sources ∧ sq M1 d = some its ∧ ((6 < its.length ∧ Rx "BadStages" "value" d M1) ∨ (its.length ≤ 6 ∧
  ((∃ r, its = dgR r ∧ PlanOk x r ∧ R (dgP x r) M1) ∨ ∃ r0 e more, its = dgR r0 ++ e :: more ∧ PlanOk x r0 ∧ NoSt (x :: lvR r0) (hgR 0 r0) e ∧ Rx "BadStage" "position" (.int r0.length) M1)))
theorem mk_ok {M : Mh} {H : Hp} {x : Str} {d : Dt} {its : List Dt} {v : V} {R : Dt → Mh → Prop} {Rx : Rxx} {Q : VK} {E : XK} (hP : PySem.W.kitOne K (.type "tuple") (.ref (He.ga K "Program")) = some false) (k : MOk (ev K) H M) (r2 : Rp (ev K) H v d) (hx : x ∈ sources) (hq : sq M d = some its)
    (w : (6 < its.length ∧ Rx "BadStages" "value" d M) ∨ (its.length ≤ 6 ∧ ((∃ r, its = dgR r ∧ PlanOk x r ∧ R (dgP x r) M) ∨ ∃ r0 e more, its = dgR r0 ++ e :: more ∧ PlanOk x r0 ∧ NoSt (x :: lvR r0) (hgR 0 r0) e ∧ Rx "BadStage" "position" (.int r0.length) M)))
    (l : Lv (ev K) M H R Q) (lx : Lx (ev K) M H Rx E) : ∀ a dx, H a = none → H dx = none → dx ≠ a → spInit (He.ga K "Program") K (.ref a :: ([.str x, v] ++ [])) (upd (upd H dx (.own a)) a (.ins (He.ga K "Program") dx [])) (fun v H2 => v = .non ∧ Q (.ref a) H2) E := by
  obtain ⟨p, vs, rfl, hS, rs, hl⟩ := sq_ok k r2 hq
  have bad : ∀ (y dx : Addr), H y = none → H dx = none → dx ≠ y → Same H (upd (upd H dx (.own y)) y (.ins (He.ga K "Program") dx [])) ∧ (upd (upd H dx (.own y)) y (.ins (He.ga K "Program") dx [])) y = some (.ins (He.ga K "Program") dx []) := fun y dx hy hd hn => by
    have s1 := same_upd (o := .own y) hd
    have hy1 : (upd H dx (.own y)) y = none := by
      rw [upd_ne hn.symm]
      exact hy
    exact ⟨same_trans s1 (same_upd hy1), upd_same⟩
  rcases w with ⟨h6, w⟩ | ⟨h6, ⟨r, rfl, h2, w⟩ | ⟨r0, e, more, rfl, h2, h3, w⟩⟩
  · intro y dx hy hd hn
    obtain ⟨s12, hY⟩ := bad y dx hy hd hn
    refine ⟨y, dx, _, _, rfl, hY, .inr ⟨x, rfl, hx, .inl ⟨.inr ⟨p, vs, rfl, hS.imp (sqL_same s12) (sqT_same s12), by rw [rs.len]; exact h6⟩, fun d' H' b nd ed => ?_⟩⟩⟩
    have s : Same H H' := fun c o hc => b c o (by simpa using ne_of_none hc hy) (s12 c o hc)
    obtain ⟨g2, k2⟩ := same_go k s
    exact lx "BadStages" "value" _ _ d' M H' g2 k2 ed (r2.k (g2.kp k)) w
  · have hR := rps_rwp (U := ev K) tab_Program r rs h2.1 (h2.2.2.sub (List.sublist_cons_self _ _))
    have q := run_ok (n := 0) (pre := []) (d := 0) (L := [x]) hR h2.1 h2.2.2.1
    refine rd_progA hx hS (by rw [hR.len]; exact h2.2.1) q fun q H2 s _ hP => ?_
    obtain ⟨g2, k2⟩ := same_go k s
    exact l _ _ M H2 g2 k2 (pgp_rp tab_Program ⟨vs, hP, RwP.kp (.of s) _ hR⟩ h2.1) w
  · obtain ⟨us, ws, rfl, q1, q2⟩ : ∃ us ws, vs = us ++ ws ∧ Rps (ev K) H us (dgR r0) ∧ Rps (ev K) H ws (e :: more) := by
      refine ⟨vs.take (dgR r0).length, vs.drop (dgR r0).length, (List.take_append_drop _ _).symm, ?_, ?_⟩
      · have q := rs.take (dgR r0).length
        rwa [List.take_left] at q
      · have q := rs.drop (dgR r0).length
        rwa [List.drop_left] at q
    cases q2 with | @cons v0 ws _ _ q3 q4 =>
    have hR0 := rps_rwp (U := ev K) tab_Program r0 q1 h2.1 (h2.2.2.sub (List.sublist_cons_self _ _))
    have q := run_stop (n := 0) (pre := []) (d := 0) (L := [x]) hR0 h2.1 h2.2.2.1 fun m pre' => noSt_run hP (more := ws) h3 q3
    intro y dx hy hd hn
    obtain ⟨s12, hY⟩ := bad y dx hy hd hn
    refine ⟨y, dx, _, _, rfl, hY, .inr ⟨x, rfl, hx, .inr ⟨p, _, rfl, hS.imp (sqL_same s12) (sqT_same s12), by rw [rs.len]; exact h6, .inl ⟨_, q.Kp (.of s12), fun d' H' b nd ed => ?_⟩⟩⟩⟩
    have s : Same H H' := fun c o hc => b c o (by simpa using ne_of_none hc hy) (s12 c o hc)
    obtain ⟨g2, k2⟩ := same_go k s
    rw [Nat.zero_add] at ed
    exact lx "BadStage" "position" _ _ d' M H' g2 k2 ed .int w
theorem dx_mkP (hK : X.K = K) (hP : PySem.W.kitOne K (.type "tuple") (.ref (He.ga K "Program")) = some false) (G : GP X.prog X.w X.K X.mg X.base []) (hr : Room 5 X.A) (tk : Takes X (fun cls d _ H => EX cls d H)) (ha : DA X (ev K) (e :: es) wr) (hg : Gl X "Program" := by rfl)
    (he : starEach (e :: es) X.env = (false, eval e X.env) :: starEach es X.env := by rfl) (hpl : (backTo pos (starEach es X.env)).any (·.1) = false := by rfl) : DX X (ev K) EX (.Call (.Name "Program" p) (e :: es) [] pos) (xMkP wr) :=
  PE.mono (pe_mk G hr (E := EX) (passes_call tk fun _ _ _ _ z => z) ha hg (by decide) he hpl) fun σ H Q ⟨δ, M, R, Rx, E, w, l, lx⟩ => by
    refine ⟨δ, M, _, E, w, fun vs ds M1 H1 g k rs w1 => ?_⟩
    obtain ⟨x, d, its, rfl, hx, hq, w1⟩ := w1
    obtain ⟨v, u, rfl, r1, r2⟩ := two_rps rs
    rw [rp_str r1]
    have z := mk_ok (Q := Q) hP k r2 hx hq w1 (l.go g) (lx.go g)
    rw [← hK] at z
    exact z
/-- .. where nothing is raised -/
def wMkP (wr : WA) : WE := fun δ M R => wr δ M fun ds M1 => ∃ x d r, ds = [.str x, d] ∧ sq M1 d = some (dgR r) ∧ PlanOk x r ∧ R (dgP x r) M1
theorem d_mkP (hK : X.K = K) (hP : PySem.W.kitOne K (.type "tuple") (.ref (He.ga K "Program")) = some false) (G : GP X.prog X.w X.K X.mg X.base []) (hr : Room 5 X.A) (ha : DA X (ev K) (e :: es) wr) (hg : Gl X "Program" := by rfl)
    (he : starEach (e :: es) X.env = (false, eval e X.env) :: starEach es X.env := by rfl) (hpl : (backTo pos (starEach es X.env)).any (·.1) = false := by rfl) : DE X (ev K) (.Call (.Name "Program" p) (e :: es) [] pos) (wMkP wr) :=
  PE.mono (pe_mk G hr (passX rfl rfl) ha hg (by decide) he hpl) fun σ H Q ⟨δ, M, R, E, w, l⟩ => by
    refine ⟨δ, M, _, E, w, fun vs ds M1 H1 g k rs w1 => ?_⟩
    obtain ⟨x, d, r, rfl, hq, hO, w1⟩ := w1
    obtain ⟨v, u, rfl, r1, r2⟩ := two_rps rs
    rw [rp_str r1]
    have z := mk_ok (Q := Q) (Rx := nox) (E := fun _ _ _ => False) hP k r2 (hO.2.2.2 x (by simp)) hq (.inr ⟨by rw [dgR_len]; exact hO.2.1, .inl ⟨r, rfl, hO, w1⟩⟩) (l.go g) fun _ _ _ _ _ _ _ _ _ _ _ z => z.elim
    rw [← hK] at z
    exact z
/-- Program(x) -/
def wMkP1 (wr : WA) : WE := fun δ M R => wr δ M fun ds M1 => ∃ x, ds = [.str x] ∧ x ∈ sources ∧ R (dgP x []) M1
theorem plan0 {x : Str} (h : x ∈ sources) : PlanOk x [] := ⟨by rw [okR]; trivial, by simp, by rw [lvR]; exact .one h⟩
theorem d_mkP1 {e0 : Addr} (hK : X.K = K) (hP : PySem.W.kitOne K (.type "tuple") (.ref (He.ga K "Program")) = some false) (G : GP X.prog X.w X.K X.mg X.base [.ref e0]) (h0 : ∀ H, SqT K H e0 []) (hr : Room 5 X.A) (ha : DA X (ev K) (e :: es) wr) (hg : Gl X "Program" := by rfl)
    (he : starEach (e :: es) X.env = (false, eval e X.env) :: starEach es X.env := by rfl) (hpl : (backTo pos (starEach es X.env)).any (·.1) = false := by rfl) : DE X (ev K) (.Call (.Name "Program" p) (e :: es) [] pos) (wMkP1 wr) :=
  PE.mono (pe_mk G hr (passX rfl rfl) ha hg (by decide) he hpl) fun σ H Q ⟨δ, M, R, E, w, l⟩ => by
    refine ⟨δ, M, _, E, w, fun vs ds M1 H1 g k rs w1 => ?_⟩
    obtain ⟨x, rfl, hx, w1⟩ := w1
    obtain ⟨v, rfl, r1⟩ := one_rps rs
    rw [rp_str r1]
    have r2 : Rp (ev K) H1 (.ref e0) (.tup []) := .tup (h0 H1) (szle (by simp)) .nil
    have z := mk_ok (Q := Q) (Rx := nox) (E := fun _ _ _ => False) hP k r2 hx (its := dgR []) rfl (.inr ⟨by rw [dgR]; simp, .inl ⟨[], rfl, plan0 hx, w1⟩⟩) (l.go g) fun _ _ _ _ _ _ _ _ _ _ _ z => z.elim
    rw [← hK] at z
    exact z
end
end K02
namespace K02
open PySem PySem.Spec PyProof.Rows L2 Lw
section
variable {X : Cx} {EX : XK} {K : PySem.W.Frag} {es : List Expr} {e : Expr} {p pos pos' : Pos} {wr : WA} {xa : WX'}
/-- return e, e may raise -/
def wRetX (xe : WX') : WS := fun δ M R => xe δ M R.rt R.ex
theorem ds_retX (he : DX X (ev K) EX e xa) : DS X (ev K) EX (.Return (some e) pos) (wRetX xa) := PS.mono (ps_ret he) fun D σ H ⟨δ, M, R, E, w, l⟩ =>
  ⟨δ, M, _, R.ex, E, w, fun v d M1 H1 g k r w1 => l.rt _ _ _ _ g k r w1, l.ex⟩
end
section
variable {P : Program} {w : World} {K : PySem.W.Frag} {mg : Str → Option Value} {base : Heap} {f : Addr} {fd : FuncData}
theorem Td.g_BadPositions (T : Td P w K mg base) : mg "BadPositions" = some (.ref (He.ga K "BadPositions")) := T.e_BadPositions.g
theorem Td.g_BadStages (T : Td P w K mg base) : mg "BadStages" = some (.ref (He.ga K "BadStages")) := T.e_BadStages.g
theorem Td.g_BadStage (T : Td P w K mg base) : mg "BadStage" = some (.ref (He.ga K "BadStage")) := T.e_BadStage.g
theorem Td.x_BadPositions (T : Td P w K mg base) : XC K (He.ga K "BadPositions") "value" := T.e_BadPositions.xc
theorem Td.x_BadStages (T : Td P w K mg base) : XC K (He.ga K "BadStages") "value" := T.e_BadStages.xc
theorem Td.x_BadStage (T : Td P w K mg base) : XC K (He.ga K "BadStage") "position" := T.e_BadStage.xc
theorem nmP {m : Str} (h : m ∉ pFld) : ∀ ns, (ev K).T "Program" = some ns → m ∉ ns := fun ns e => by
  rw [tab_Program] at e
  cases e
  exact h
theorem Td.nm_Program_then (T : Td P w K mg base) : ∀ ns, (ev K).T "Program" = some ns → ("then" : Str) ∉ ns := nmP (by decide +kernel)
theorem Td.nm_Program_without (T : Td P w K mg base) : ∀ ns, (ev K).T "Program" = some ns → ("without" : Str) ∉ ns := nmP (by decide +kernel)
theorem Td.nm_Program_exchanged (T : Td P w K mg base) : ∀ ns, (ev K).T "Program" = some ns → ("exchanged" : Str) ∉ ns := nmP (by decide +kernel)
theorem scProgram_then : FnScope ["self", "stage"] ["self", "stage"] (defScope sProgram_then) := ⟨rfl, rfl, rfl, by decide +kernel, rfl, by decide +kernel, by decide +kernel⟩
def W_Program_then : WS := (wRetX (xMkP (wCons (wPp "Program" S_Program_source (wVar 0)) (wCons (wLst (wStar (wFld "Program" "row" 2 (wVar 0)) (wCons (wVar 1) wNil))) wNil))))
def S_Program_then : DSpec := bodyS 2 2 W_Program_then
theorem m_Program_then (F : FnP K "then" "Program.then" sProgram_then f fd) (hm : Meth K (He.ga K "Program") "then" f) (T : Td P w K mg base) (G_Program : GP P w K mg base []) (P_source : PropOk P w K mg base CX0 1 (He.ga K "Program") "source" (spD (ev K) S_Program_source)) : MethOk P w K mg base (L2.CX P w) 6 (He.ga K "Program") "then" ["self", "stage"] (spD (ev K) S_Program_then) := by
  exact ⟨f, fd, F.ok scProgram_then (fun vs H Q E h => body_len h) (fun cdv A outer s H vs Q E hr h => ⟨_, (ds_one (ds_retX (dx_mkP rfl (T.ck_Program.ty .tup) G_Program (hr.mono (by decide)) (takes_of rfl rfl rfl rfl) (d_cons (d_pp P_source (hr.mono (by decide)) pass0 (d_var (pv 0))) (d_cons (d_lst (d_star rfl (d_fld rfl T.f_Program_row (ns := pFld) (.inl tab_Program) rfl rfl (d_var (pv 0))) (d_cons (d_var (pv 1)) d_nil))) d_nil))))), body_ok (N := ["self", "stage"]) (ps := []) h⟩), hm, F.bindsN fun _ _ _ _ _ _ us hl => match us, hl with | [_, _], _ => rfl, T.cl_Program⟩
theorem scProgram_without : FnScope ["self", "positions", "one", "place", "stage"] ["self", "positions"] (defScope sProgram_without) := ⟨rfl, rfl, rfl, by decide +kernel, rfl, by decide +kernel, by decide +kernel⟩
def W_Program_without_1 : WS := (wIf (wOrT (wNotT (wB (wIsi clss .lst (wVar 1)))) (wNotT (wB (wCall gAll (wCons (wLcP (wVar 1) [2] (wgN 2) wYes (wFn S_is_position (wCons (wVar 2) (wCons (wCall gLen (wCons (wFld "Program" "row" 2 (wVar 0)) wNil)) wNil)))) wNil))))) (wRaise "BadPositions" "value" (wVar 1))
  wNext)
def W_Program_without_2 : WS := (wIf (wB (wOp gNe (wLenSet (wVar 1)) (wCall gLen (wCons (wVar 1) wNil)))) (wRaise "BadPositions" "value" (wVar 1))
  wNext)
def W_Program_without_3 : WS := (wRetX (xMkP (wCons (wPp "Program" S_Program_source (wVar 0)) (wCons (wLc (wiEA (wCons (wFld "Program" "row" 2 (wVar 0)) wNil)) [3, 4] (wgTup 2 (wgCons (wgN 3) (wgCons (wgN 4) wgNil))) (wB (wOp gNotIn (wVar 3) (wVar 1))) (wVar 4)) wNil))))
def W_Program_without : WS := (wSeq W_Program_without_1 (wSeq W_Program_without_2 W_Program_without_3))
def S_Program_without : DSpec := bodyS 5 2 W_Program_without
theorem m_Program_without (F : FnP K "without" "Program.without" sProgram_without f fd) (hm : Meth K (He.ga K "Program") "without" f) (T : Td P w K mg base) (G_Program : GP P w K mg base []) (P_source : PropOk P w K mg base CX0 1 (He.ga K "Program") "source" (spD (ev K) S_Program_source)) (D_is_position : DefOk P w K mg base CX0 1 "is_position" ["value", "many"] [] (spD (ev K) S_is_position)) : MethOk P w K mg base (L2.CX P w) 6 (He.ga K "Program") "without" ["self", "positions"] (spD (ev K) S_Program_without) := by
  exact ⟨f, fd, F.ok scProgram_without (fun vs H Q E h => body_len h) (fun cdv A outer s H vs Q E hr h => ⟨_, (ds_cons (ds_if (d_pt (d_orT (d_notT (d_val (d_isi (cs := clss) (t := .lst) rfl T.oty (by rfl) T.z_isinstance (by rfl) T.z_list (by decide +kernel) (d_var (pv 1))))) (d_or1 (d_notT (d_val (d_callB (c_all rfl rfl) (by rfl) T.z_all (by decide +kernel) (d_cons (d_lcP (own := [("one", 2)]) rfl (by rfl) scProgram_without.nd (d_var (pv 1)) (blkOk_by (own := [("one", 2)]) (N := ["self", "positions", "one", "place", "stage"]) (sc := defScope sProgram_without) (by decide +kernel)) (fun _ _ _ _ _ => (dgo_name (pg_name (i := 2) scProgram_without.nd rfl (Or.inl rfl)) (by decide))) (fun _ _ _ _ _ => dts_nil) (fun _ _ _ _ _ => (d_fn (E := fun _ _ _ => False) D_is_position (hr.mono (by decide)) pass0 (d_cons (d_var (pv 2)) (d_cons (d_callB (c_len rfl) (by rfl) T.z_len (by decide +kernel) (d_cons (d_fld rfl T.f_Program_row (ns := pFld) (.inl tab_Program) rfl rfl (d_var (pv 0))) d_nil)) d_nil))))) d_nil))))))) (ds_one (ds_raise (takes_of rfl rfl rfl rfl) rfl rfl T.e_BadPositions (hr.mono (by decide)) (d_var (pv 1))))
  ds_nil)
  (ds_cons (ds_if (d_tcmp (op_gNe rfl (hr.units)) (d_lenSet rfl (by rfl) (by rfl) T.z_len (by rfl) T.z_set (d_var (pv 1))) (d_callB (c_len rfl) (by rfl) T.z_len (by decide +kernel) (d_cons (d_var (pv 1)) d_nil)) (nomark _)) (ds_one (ds_raise (takes_of rfl rfl rfl rfl) rfl rfl T.e_BadPositions (hr.mono (by decide)) (d_var (pv 1))))
  ds_nil)
  (ds_one (ds_retX (dx_mkP rfl (T.ck_Program.ty .tup) G_Program (hr.mono (by decide)) (takes_of rfl rfl rfl rfl) (d_cons (d_pp P_source (hr.mono (by decide)) pass0 (d_var (pv 0))) (d_cons (d_lc (own := [("place", 3), ("stage", 4)]) (by rfl) scProgram_without.nd (di_eA rfl (pi_enumA (by rfl) T.z_enumerate) (d_cons (d_fld rfl T.f_Program_row (ns := pFld) (.inl tab_Program) rfl rfl (d_var (pv 0))) d_nil)) (blkOk_by (own := [("place", 3), ("stage", 4)]) (N := ["self", "positions", "one", "place", "stage"]) (sc := defScope sProgram_without) (by decide +kernel)) (fun _ _ _ _ _ => (dgo_tup rfl rfl (dgso_cons (dgo_name (pg_name (i := 3) scProgram_without.nd rfl (Or.inl rfl)) (by decide)) (dgso_cons (dgo_name (pg_name (i := 4) scProgram_without.nd rfl (Or.inl rfl)) (by decide)) dgso_nil)))) (fun _ _ _ _ _ => dts_one (d_tcmp (op_gNotIn rfl) (d_var (pv 3)) (d_var (pv 1)) (by rfl))) (fun _ _ _ _ _ => (d_var (pv 4)))) d_nil))))))), body_ok (N := ["self", "positions", "one", "place", "stage"]) (ps := []) h⟩), hm, F.bindsN fun _ _ _ _ _ _ us hl => match us, hl with | [_, _], _ => rfl, T.cl_Program⟩
theorem scProgram_exchanged : FnScope ["self", "position", "stages", "one", "other"] ["self", "position"] (defScope sProgram_exchanged) := ⟨rfl, rfl, rfl, by decide +kernel, rfl, by decide +kernel, by decide +kernel⟩
def W_Program_exchanged_1 : WS := (wIf (wNotT (wB (wFn S_is_position (wCons (wVar 1) (wCons (wOp gSub (wCall gLen (wCons (wFld "Program" "row" 2 (wVar 0)) wNil)) (wC (.int 1))) wNil))))) (wRaise "BadPositions" "value" (wVar 1))
  wNext)
def W_Program_exchanged_2 : WS := (wAsg (wCall gList (wCons (wFld "Program" "row" 2 (wVar 0)) wNil)) (wgN 2))
def W_Program_exchanged_3 : WS := (wPar 3 4 (wCons (wOp gIx (wVar 2) (wVar 1)) (wCons (wOp gIx (wVar 2) (wOp gAdd (wVar 1) (wC (.int 1)))) wNil)))
def W_Program_exchanged_4 : WS := (wRetX (xMkP (wCons (wPp "Program" S_Program_source (wVar 0)) (wCons (wLst (wStar (wSl (wVar 2) wNo (wPart (wVar 1))) (wCons (wVar 4) (wCons (wVar 3) (wStar (wSl (wVar 2) (wPart (wOp gAdd (wVar 1) (wC (.int 2)))) wNo) wNil))))) wNil))))
def W_Program_exchanged : WS := (wSeq W_Program_exchanged_1 (wSeq W_Program_exchanged_2 (wSeq W_Program_exchanged_3 W_Program_exchanged_4)))
def S_Program_exchanged : DSpec := bodyS 5 2 W_Program_exchanged
theorem m_Program_exchanged (F : FnP K "exchanged" "Program.exchanged" sProgram_exchanged f fd) (hm : Meth K (He.ga K "Program") "exchanged" f) (T : Td P w K mg base) (G_Program : GP P w K mg base []) (P_source : PropOk P w K mg base CX0 1 (He.ga K "Program") "source" (spD (ev K) S_Program_source)) (D_is_position : DefOk P w K mg base CX0 1 "is_position" ["value", "many"] [] (spD (ev K) S_is_position)) : MethOk P w K mg base (L2.CX P w) 6 (He.ga K "Program") "exchanged" ["self", "position"] (spD (ev K) S_Program_exchanged) := by
  exact ⟨f, fd, F.ok scProgram_exchanged (fun vs H Q E h => body_len h) (fun cdv A outer s H vs Q E hr h => ⟨_, (ds_cons (ds_if (d_notT (d_val (d_fn (E := fun _ _ _ => False) D_is_position (hr.mono (by decide)) pass0 (d_cons (d_var (pv 1)) (d_cons (d_op op_gSub (d_callB (c_len rfl) (by rfl) T.z_len (by decide +kernel) (d_cons (d_fld rfl T.f_Program_row (ns := pFld) (.inl tab_Program) rfl rfl (d_var (pv 0))) d_nil)) d_int) d_nil))))) (ds_one (ds_raise (takes_of rfl rfl rfl rfl) rfl rfl T.e_BadPositions (hr.mono (by decide)) (d_var (pv 1))))
  ds_nil)
  (ds_cons (ds_set (i := 2) scProgram_exchanged.nd rfl (.inl rfl) (d_callTyL call_list_of (m_list rfl) (by rfl) T.z_list (by decide +kernel) (d_cons (d_fld rfl T.f_Program_row (ns := pFld) (.inl tab_Program) rfl rfl (d_var (pv 0))) d_nil)))
  (ds_cons (ds_par (i := 3) (j := 4) (by rfl) scProgram_exchanged.nd rfl rfl (by decide) rfl rfl (d_cons (d_ix rfl (d_var (pv 2)) (d_var (pv 1)) (fun _ _ => rfl)) (d_cons (d_ix rfl (d_var (pv 2)) (d_op (op_gAdd rfl) (d_var (pv 1)) d_int) (fun _ _ => rfl)) d_nil)) (by rfl))
  (ds_one (ds_retX (dx_mkP rfl (T.ck_Program.ty .tup) G_Program (hr.mono (by decide)) (takes_of rfl rfl rfl rfl) (d_cons (d_pp P_source (hr.mono (by decide)) pass0 (d_var (pv 0))) (d_cons (d_lst (d_star rfl (d_sl rfl (d_var (pv 2)) d_no (d_part (d_var (pv 1)))) (d_cons (d_var (pv 4)) (d_cons (d_var (pv 3)) (d_star rfl (d_sl rfl (d_var (pv 2)) (d_part (d_op (op_gAdd rfl) (d_var (pv 1)) d_int)) d_no) d_nil))))) d_nil)))))))), body_ok (N := ["self", "position", "stages", "one", "other"]) (ps := []) h⟩), hm, F.bindsN fun _ _ _ _ _ _ us hl => match us, hl with | [_, _], _ => rfl, T.cl_Program⟩
end
end K02
namespace K02
open PySem PySem.Spec PyProof.Rows L2 Lw
section
variable {P : Program} {w : World} {K : PySem.W.Frag} {mg : Str → Option Value} {base : Heap} {f : Addr} {fd : FuncData}
/-! the hand's promises as promises over data -/
def S_L_source : DSpec := fun ds M R _ => ∃ (ns : List Int) (st : Int), ds = [.scr ns, .int st] ∧ ns.length ≤ 63 ∧ (∀ z ∈ ns, Builtin.Int.intBits z ≤ 1048576) ∧ 0 ≤ st ∧ st < 4 ∧ ∀ (p : Addr) (r m : Int), M p = none → R (.ptr p) (updM M p (.lst [.int r, .int m]))
theorem c_L_source (D : DefOk P w K mg base CX0 1 "_law_source" ["script", "start"] [] (spSrc K)) : DefOk P w K mg base CX0 1 "_law_source" ["script", "start"] [] (spD (ev K) S_L_source) := D.mono fun vs H Q E ⟨ds, M, R, Rx, rs, k, ⟨ns, st, e, h1, h2, h3, h4, z⟩, l, _⟩ => by
  subst e
  obtain ⟨v, u, rfl, r, r2⟩ := two_rps rs
  rw [rp_int r2]
  cases r with | scr a b =>
  refine ⟨_, ns, st, rfl, a.sql, h1, h2, h3, h4, fun p r m hp => ?_⟩
  exact l _ _ _ _ (.newM hp) (k.put (m := .lst [.int r, .int m]) (.inr hp) ⟨_, upd_same, szle (by simp), .cons .int (.cons .int .nil)⟩) .ptr (z p r m (k.nw hp))
/-- the stream stands -/
def Stm (M : Mh) (s : Addr) : Prop := ∃ r m : Int, M s = some (.lst [.int r, .int m])
theorem stm_strm {H : Hp} {M : Mh} {s : Addr} (k : MOk (ev K) H M) (h : Stm M s) : Strm H s := by
  obtain ⟨r, m, h⟩ := h
  obtain ⟨vs, h1, _, h3⟩ := k _ _ h
  obtain ⟨v, u, rfl, r1, r2⟩ := two_rps h3
  rw [rp_int r1, rp_int r2] at h1
  exact ⟨r, m, h1⟩
theorem stm_go {H H' : Hp} {M : Mh} {s : Addr} (k : MOk (ev K) H M) (h : Stm M s) (b : But [s] H H') (z : Strm H' s) : ∃ r m : Int, Go M H (updM M s (.lst [.int r, .int m])) H' ∧ MOk (ev K) H' (updM M s (.lst [.int r, .int m])) := by
  obtain ⟨r0, m0, h⟩ := h
  obtain ⟨r, m, z⟩ := z
  refine ⟨r, m, but_go k b (fun a ha => ?_) (fun a ha => .inl (updM_ne (by simpa using ha))) fun a m' ha hq => ?_⟩
  · rw [List.mem_singleton.mp ha, h]
    exact Option.some_ne_none _
  · by_cases e : a = s
    · subst e
      rw [updM_same] at ha
      cases ha
      exact ⟨_, z, szle (by simp), .cons .int (.cons .int .nil)⟩
    · rw [updM_ne e] at ha
      rcases hq with q | q
      · exact absurd (List.mem_singleton.mp q) e
      · rw [k.nw q] at ha
        cases ha
def S_L_draw : DSpec := fun ds M R _ => ∃ (s : Addr) (n : Int), ds = [.ptr s, .int n] ∧ Stm M s ∧ 0 < n ∧ n < 1073741824 ∧ ∀ d r m : Int, 0 ≤ d → d < n → R (.int d) (updM M s (.lst [.int r, .int m]))
theorem c_L_draw (D : DefOk P w K mg base CX0 1 "_law_draw" ["stream", "span"] [] spDraw) : DefOk P w K mg base CX0 1 "_law_draw" ["stream", "span"] [] (spD (ev K) S_L_draw) := D.mono fun vs H Q E ⟨ds, M, R, Rx, rs, k, ⟨s, n, e, hs, h1, h2, z⟩, l, _⟩ => by
  subst e
  obtain ⟨v, u, rfl, r, r2⟩ := two_rps rs
  rw [rp_int r2]
  cases r
  obtain ⟨r, m, hS⟩ := stm_strm k hs
  refine ⟨s, n, r, m, rfl, h1, h2, hS, fun r' m' d d0 d1 => ?_⟩
  refine l _ _ _ _ (.set (m := .lst [.int r', .int m']) ?_) (k.put (m := .lst [.int r', .int m']) (.inl ?_) ⟨_, upd_same, szle (by simp), .cons .int (.cons .int .nil)⟩) .int (z d r' m' d0 d1)
  all_goals (obtain ⟨r0, m0, h⟩ := hs; rw [h]; exact Option.some_ne_none _)
/-- one of a list that stands -/
def S_L_pick : DSpec := fun ds M R _ => ∃ (s : Addr) (l : List Dt), ds = [.ptr s, .lst l] ∧ Stm M s ∧ 0 < l.length ∧ l.length ≤ 1000 ∧ ∀ (i : Nat) (x : Dt) (r m : Int), l[i]? = some x → R x (updM M s (.lst [.int r, .int m]))
theorem c_L_pick (D : DefOk P w K mg base CX0 2 "_law_pick" ["stream", "things"] [] (spPick K)) : DefOk P w K mg base CX0 2 "_law_pick" ["stream", "things"] [] (spD (ev K) S_L_pick) := D.mono fun vs H Q E ⟨ds, M, R, Rx, rs, k, ⟨s, xs, e, hs, h1, h2, z⟩, l, _⟩ => by
  subst e
  obtain ⟨v, u, rfl, r, r2⟩ := two_rps rs
  cases r
  cases r2 with | @lst a vs _ o a1 b1 c1 =>
  have hS := stm_strm k hs
  refine ⟨s, _, rfl, hS, .inl ⟨a, vs, rfl, .inl (.inr ⟨_, a1⟩), ?_, by rw [c1.len]; exact h1, by rw [c1.len]; exact h2, fun i x H' b z' hi => ?_⟩⟩
  · rintro rfl
    obtain ⟨r0, m0, q⟩ := hS
    rw [a1] at q
    cases q
  · obtain ⟨d, e1, e2⟩ := c1.get' hi
    obtain ⟨r, m, g, k'⟩ := stm_go k hs b z'
    exact l _ _ _ H' g k' (e2.k (g.kp k)) (z i d r m e1)
def S_L_mixed : DSpec := fun ds M R _ => ∃ (s : Addr) (ls : List Dt), ds = [.ptr s, .lst ls] ∧ Stm M s ∧ ls.length ≤ 1000 ∧ ∀ (p : Addr) (qs : List Dt) (r m : Int), qs.Perm ls → M p = none → R (.ptr p) (updM (updM M s (.lst [.int r, .int m])) p (.lst qs))
theorem c_L_mixed (D : DefOk P w K mg base CX0 2 "_law_mixed" ["stream", "things"] [] (spMixed K)) : DefOk P w K mg base CX0 2 "_law_mixed" ["stream", "things"] [] (spD (ev K) S_L_mixed) := D.mono fun vs H Q E ⟨ds, M, R, Rx, rs, k, ⟨s, ls, e, hs, h1, z⟩, l, _⟩ => by
  subst e
  obtain ⟨v, u, rfl, r, r2⟩ := two_rps rs
  cases r
  cases r2 with | @lst a vs _ o a1 b1 c1 =>
  have hS := stm_strm k hs
  refine ⟨s, a, _, rfl, hS, .inl (.inr ⟨_, a1⟩), by rw [c1.len]; exact h1, fun p ys H' b z' hn hp pe => ?_⟩
  obtain ⟨qs, q1, pq⟩ := rps_perm pe c1
  obtain ⟨r0, m0, hs0⟩ := id hs
  obtain ⟨r, m, z'⟩ := z'
  have hps : p ≠ s := by
    rintro rfl
    obtain ⟨o, h1, _⟩ := (k _ _ hs0).npm
    rw [hn] at h1
    cases h1
  have kp : KPm (ev K) H H' := fun b' o' h' pm => b b' o' (by
    intro hb
    rw [List.mem_singleton.mp hb] at h'
    obtain ⟨o2, h2, n2, _⟩ := (k _ _ hs0).npm
    rw [h'] at h2
    cases h2
    exact n2 pm) h'
  obtain ⟨g, k'⟩ := but_go (M' := updM (updM M s (.lst [.int r, .int m])) p (.lst qs)) k b (fun a ha => by rw [List.mem_singleton.mp ha, hs0]; exact Option.some_ne_none _)
    (fun a ha => by
      by_cases e : a = p
      · subst e; exact .inr hn
      · rw [updM_ne e, updM_ne (by simpa using ha)]; exact .inl rfl) (fun a m' ha hq => by
      by_cases e : a = p
      · subst e
        rw [updM_same] at ha
        cases ha
        exact ⟨_, hp, by rw [pq.length_eq]; exact szle h1, q1.k kp⟩
      · rw [updM_ne e] at ha
        by_cases e2 : a = s
        · subst e2
          rw [updM_same] at ha
          cases ha
          exact ⟨_, z', szle (by simp), .cons .int (.cons .int .nil)⟩
        · rw [updM_ne e2] at ha
          rcases hq with q | q
          · exact absurd (List.mem_singleton.mp q) e2
          · rw [k.nw q] at ha
            cases ha)
  exact l _ _ _ H' g k' .ptr (z p qs r m pq (k.nw hn))
def S_L_plan : DSpec := fun ds M R _ => ∃ (s pl : Addr) (mst : Int) (ps : List Str), ds = [.ptr s, .ptr pl, .int mst] ∧ Stm M s ∧ M pl = some (.lst (dstrs ps)) ∧ ps.length ≤ 4 ∧ ps ≠ [] ∧ 0 ≤ mst ∧ mst ≤ 6 ∧ LsOk ps ∧
  ∀ x r rest (a b : Int), PlanOk x r → (r.length : Int) ≤ mst → (x :: lvR r).length ≤ ps.length → R (dpP x r) (updM (updM M s (.lst [.int a, .int b])) pl (.lst (dstrs rest)))
theorem c_L_plan (D : DefOk P w K mg base CX0 (2 * 4 + 4) "_law_plan" ["stream", "pool", "most"] [] (spPln K 4)) : DefOk P w K mg base CX0 12 "_law_plan" ["stream", "pool", "most"] [] (spD (ev K) S_L_plan) := D.mono fun vs H Q E ⟨ds, M, R, Rx, rs, k, ⟨s, pl, mst, ps, e, hs, hpl, h1, h2, h3, h4, h5, z⟩, l, _⟩ => by
  subst e
  obtain ⟨v, u, t, rfl, r, r2, r3⟩ := three_rps rs
  cases r
  cases r2
  rw [rp_int r3]
  have hS := stm_strm k hs
  obtain ⟨vs, e1, e2, e3⟩ := k _ _ hpl
  rw [rps_dstrs e3] at e1
  obtain ⟨r0, m0, hs0⟩ := id hs
  have ne : pl ≠ s := by
    rintro rfl
    rw [hpl] at hs0
    cases ps with
    | nil => exact h2 rfl
    | cons y ps => cases hs0
  refine ⟨s, pl, mst, ps, rfl, hS, e1, ne, h1, h2, h3, h4, fun p x r used rest H' eu ex ho hr b z' hp' hP => ?_⟩
  have hpo : PlanOk x r := by
    refine ⟨ho, by omega, ?_⟩
    rw [ex]
    rw [eu] at h5
    exact h5.sub (List.sublist_append_left _ _)
  obtain ⟨a, c, z'⟩ := z'
  obtain ⟨g, k'⟩ := but_go (M' := updM (updM M s (.lst [.int a, .int c])) pl (.lst (dstrs rest))) k b (fun q hq => by
      rcases List.mem_cons.mp hq with e | hq
      · rw [e, hs0]; exact Option.some_ne_none _
      · rw [List.mem_singleton.mp hq, hpl]; exact Option.some_ne_none _)
    (fun q hq => by
      rw [updM_ne (fun e => hq (by simp [e])), updM_ne (fun e => hq (by simp [e]))]
      exact .inl rfl) (fun q m' ha hq => by
      by_cases e : q = pl
      · subst e
        rw [updM_same] at ha
        cases ha
        have hl : rest.length ≤ ps.length := by rw [eu, List.length_append]; omega
        exact ⟨_, hp', by rw [dstrs_len]; exact szle (by omega), dstrs_rps fun x hx => tok_sources x (h5.2 x (by rw [eu]; exact List.mem_append_right _ hx))⟩
      · rw [updM_ne e] at ha
        by_cases e2 : q = s
        · subst e2
          rw [updM_same] at ha
          cases ha
          exact ⟨_, z', szle (by simp), .cons .int (.cons .int .nil)⟩
        · rw [updM_ne e2] at ha
          rcases hq with q | q
          · simp [e, e2] at q
          · rw [k.nw q] at ha
            cases ha)
  exact l _ _ _ H' g k' (plv_rp hP hpo) (z x r rest a c hpo hr (by rw [ex, eu, List.length_append]; omega))
theorem rk_lt4 {x : Str} {r : List Sx} (h : LsOk (x :: lvR r)) : rkR r < 4 := by
  have h1 := h.len
  have h2 := rkR_le r
  rw [List.length_cons] at h1
  omega
def S_L_program : DSpec := fun ds M R _ => ∃ x r, ds = [dpP x r] ∧ PlanOk x r ∧ R (dgP x r) M
theorem c_L_program (D : DefOk P w K mg base CX0 (4 + 6) "_law_program" ["plan"] [] (spPrg (He.ga K "Program") K 4)) : DefOk P w K mg base CX0 10 "_law_program" ["plan"] [] (spD (ev K) S_L_program) := D.mono fun vs H Q E ⟨ds, M, R, Rx, rs, k, ⟨x, r, e, h1, z⟩, l, _⟩ => by
  subst e
  obtain ⟨v, rfl, r1⟩ := one_rps rs
  obtain ⟨p, rfl, hP⟩ := rp_plv r1
  refine ⟨p, x, r, rfl, hP, rk_lt4 h1.2.2, h1.1, h1.2.1, h1.2.2, fun q H' s hQ => ?_⟩
  obtain ⟨g, k'⟩ := same_go k s
  exact l _ _ M H' g k' (pgp_rp tab_Program hQ h1.1) z
/-- the depth behind a stage, behind a plan -/
def S_L_height : DSpec := fun ds M R _ => ∃ d s, ds = [.int d, dpS s] ∧ rkS s ≤ 4 ∧ okS d s ∧ R (.int (hgS d s)) M
theorem c_L_height (D : DefOk P w K mg base CX0 (2 * 4 + 2) "_law_height" ["height", "stage"] [] (spHgt K 4)) : DefOk P w K mg base CX0 10 "_law_height" ["height", "stage"] [] (spD (ev K) S_L_height) := D.mono fun vs H Q E ⟨ds, M, R, Rx, rs, k, ⟨d, s, e, h1, h2, z⟩, l, _⟩ => by
  subst e
  obtain ⟨v, u, rfl, r1, r2⟩ := two_rps rs
  rw [rp_int r1]
  refine ⟨d, u, s, rfl, rp_stv s r2, h1, h2, fun H' s' => ?_⟩
  obtain ⟨g, k'⟩ := same_go k s'
  exact l _ _ M H' g k' .int z
def S_L_depth : DSpec := fun ds M R _ => ∃ x r, ds = [dpP x r] ∧ PlanOk x r ∧ R (.int (hgR 0 r)) M
theorem c_L_depth (D : DefOk P w K mg base CX0 (2 * 4 + 1) "_law_depth" ["plan"] [] (spDep K 4)) : DefOk P w K mg base CX0 9 "_law_depth" ["plan"] [] (spD (ev K) S_L_depth) := D.mono fun vs H Q E ⟨ds, M, R, Rx, rs, k, ⟨x, r, e, h1, z⟩, l, _⟩ => by
  subst e
  obtain ⟨v, rfl, r1⟩ := one_rps rs
  obtain ⟨p, rfl, hP⟩ := rp_plv r1
  refine ⟨p, x, r, rfl, hP, rk_lt4 h1.2.2, h1.1, fun H' s' => ?_⟩
  obtain ⟨g, k'⟩ := same_go k s'
  exact l _ _ M H' g k' .int z
end
/-! == of what has programs in it -/
section
variable {P : Program} {w : World} {K : PySem.W.Frag} {mg : Str → Option Value} {base : Heap} {f : Addr} {fd : FuncData}
structure EqAll (P : Program) (w : World) (K : PySem.W.Frag) (mg : Str → Option Value) (base : Heap) : Prop where
  ex : ∃ (f : Addr) (fd : FuncData), PySem.W.findIn K (.ref (He.ga K "Program")) "__eq__" = some (some (.ref f)) ∧ PySem.W.isFn K (.ref f) = true ∧ Binds K fd ["self", "other"] [] ∧
    FnOk P w K mg base CX0 45 f fd ["self", "other"] (spD (ev K) fun ds M R Rx => S_eqP 14 ds M R Rx ∨ S_eqO ds M R Rx)
  eb : ∀ X : Cx, X.prog = P → X.w = w → X.K = K → X.mg = mg → X.base = base → EqB X (ev K) 42 14
theorem eqAll (O : OwnEq P w K mg base f fd) (T : Td P w K mg base) (P_source : PropOk P w K mg base CX0 1 (He.ga K "Program") "source" (spD (ev K) S_Program_source)) : EqAll P w K mg base := by
  obtain ⟨h1, h2⟩ := eqB_all O T P_source 14
  exact ⟨⟨f, fd, O.hs, O.hf, O.hb, h2⟩, h1⟩
end
section
variable {X : Cx} {K : PySem.W.Frag}
theorem EqAll.at (Q : EqAll X.prog X.w X.K X.mg X.base) (hK : X.K = K) : EqB X (ev K) 42 14 := by
  subst hK
  exact Q.eb X rfl rfl rfl rfl rfl
/-- a program == anything -/
def gPgEq : W2 := fun x y M R => (∃ r, CqP 14 x y r ∧ R (.bl r) M) ∨ ∃ h a t l k, x = pgD h a t l ∧ ky M y = some (.b k) ∧ R (.bl false) M
theorem op_pgEq (Q : EqAll X.prog X.w X.K X.mg X.base) (hK : X.K = K) (nf : ∀ k : Kd, PySem.W.subIn K (.type k.nm) (.ref (He.ga K "Program")) = some false) (hr : Room 46 X.A) : OpR X (compareOp .Eq) (oW (ev K) gPgEq) := by
  subst hK
  obtain ⟨f, fd, hs, hf, hb, F⟩ := Q.ex
  intro pins s σ H x y v u Qk I rx ry ⟨da, db, M, R, km, ra, rb, w, lv⟩
  rcases w with ⟨r, c, w⟩ | ⟨h, a0, t, l, k, rfl, hk, w⟩
  · have hC : ∀ {H : Hp} {v : V} {d e : Dt} {r : Bool}, Rp (ev X.K) H v d → CqP 14 d e r → ∃ a, v = .ref a := fun r1 ⟨_, _, _, _, _, _, _, _, e1, _, _⟩ => by
      subst e1
      cases r1
      exact ⟨_, rfl⟩
    have hC2 : ∀ {H : Hp} {v : V} {d e : Dt} {r : Bool}, Rp (ev X.K) H v e → CqP 14 d e r → ∃ a, v = .ref a := fun r1 ⟨_, _, _, _, _, _, _, _, _, e1, _⟩ => by
      subst e1
      cases r1
      exact ⟨_, rfl⟩
    exact op_eqRc (C := CqP 14) (rcB_pg rfl rfl (fn_mono F (sd_mono fun _ _ _ _ z => .inl z)) hs hf hb pass0) (hr.mono (by decide)) rfl hC hC2 pins s σ H x y v u Qk I rx ry ⟨da, db, M, R, km, ra, rb, ⟨r, c, w⟩, lv⟩
  · cases id ra with | @obj pa _ pdx pfs _ _ a1 b1 c1 d1 =>
    subst b1
    cases rx
    obtain ⟨mA, J, _⟩ := ins_get I.hok a1
    obtain ⟨od, J, _⟩ := J.look
    obtain ⟨q, hF⟩ := I.fr
    show wpAny (model X.prog X.w) X.A (richCompare .Eq (.ref _) u) (EP X pins σ Qk) X.xe s
    refine PySem.W.cmp_K (op := .Eq) (tb := .type k.nm) hr.units0 hF I.ok.mod.kin J (ky_looks I rfl km rb ry hk) ?_ hs hf ?_
    · unfold PySem.W.notFirst
      rw [nf k]
      simp
    have hsp : spD (ev X.K) (fun ds M R Rx => S_eqP 14 ds M R Rx ∨ S_eqO ds M R Rx) [.ref pa, y] H (fun v H' => v = .bl false ∧ Qk (.bl false) H') (fun _ _ _ => False) :=
      ⟨_, M, fun v M' => v = .bl false ∧ M' = M, nox, .cons ra (.cons rb .nil), km, .inr ⟨h, a0, t, l, db, k, rfl, hk, rfl, rfl⟩, (fun v d' M' H' g k' r' e' => by
        obtain ⟨rfl, rfl⟩ := e'
        cases r'
        exact ⟨rfl, lv _ _ _ H' g k' .bl w⟩), fun _ _ _ _ _ _ _ _ _ _ _ z => z.elim⟩
    have hl := F.len _ _ _ _ hsp
    refine wpAny_call (codeAny_mono (F.run X.A X.stack s H ⟨[.ref pa, u], []⟩ [.ref pa, u] [.ref pa, y] _ _ (hr.mono (by decide)) I.env0 (by
      have z := hb s [.ref pa, u] I.kIn (by simpa using hl)
      simpa using z) (.cons rfl (.cons ry .nil)) hsp) fun rr s' hq => ?_)
    cases rr with
    | error e => exact pass0 pins σ H s e s' I hq
    | ok fl =>
      cases fl with
      | ret z =>
        obtain ⟨z, H', I', rz, ez, ex⟩ := I.after hq
        subst ez
        cases rz
        exact ⟨.bl false, H', I', rfl, ex⟩
      | next => exact hq.elim
      | brk => exact hq.elim
      | cont => exact hq.elim
def gPgNe : W2 := fun x y M R => ∃ r, CqP 14 x y r ∧ R (.bl (!r)) M
theorem op_pgNe (Q : EqAll X.prog X.w X.K X.mg X.base) (hK : X.K = K) (hne : PySem.W.findIn K (.ref (He.ga K "Program")) "__ne__" = some (some (.builtin "object.__ne__"))) (hm : PySem.W.subIn K (.ref (He.ga K "Program")) (.type "object") = some true) (hr : Room 46 X.A) : OpR X (compareOp .NotEq) (oW (ev K) gPgNe) := by
  subst hK
  obtain ⟨f, fd, hs, hf, hb, F⟩ := Q.ex
  exact op_neP rfl rfl (fn_mono F (sd_mono fun _ _ _ _ z => .inl z)) hr hs hf hne hm hb pass0
abbrev gTpEq : W2 := gRow 14
theorem op_tpEq (Q : EqAll X.prog X.w X.K X.mg X.base) (hK : X.K = K) (hr : Room 46 X.A) : OpR X (compareOp .Eq) (oW (ev K) gTpEq) := op_eqRc (rcB_tup (Q.at hK) hK) (hr.mono (by decide)) hK tupRef tupRef2
def gTpNe : W2 := fun x y M R => ∃ l m r, x = .tup l ∧ y = .tup m ∧ CqL 14 l m r ∧ R (.bl (!r)) M
theorem op_tpNe (Q : EqAll X.prog X.w X.K X.mg X.base) (hK : X.K = K) (hr : Room 46 X.A) : OpR X (compareOp .NotEq) (oW (ev K) gTpNe) := op_neT (Q.at hK) (hr.mono (by decide)) hK
def gLsEq : W2 := fun x y M R => ∃ r, (∃ l m, x = .lst l ∧ y = .lst m ∧ ((l.length = m.length ∧ CqL 14 l m r) ∨ (l.length ≠ m.length ∧ r = false))) ∧ R (.bl r) M
theorem op_lsEq (Q : EqAll X.prog X.w X.K X.mg X.base) (hK : X.K = K) (hr : Room 46 X.A) : OpR X (compareOp .Eq) (oW (ev K) gLsEq) :=
  op_eqRc (rcB_lst (Q.at hK) hK) (hr.mono (by decide)) hK (fun r1 ⟨_, _, e1, _, _⟩ => by
    subst e1
    cases r1
    exact ⟨_, rfl⟩) (fun r1 ⟨_, _, _, e1, _⟩ => by
    subst e1
    cases r1
    exact ⟨_, rfl⟩)
end
section
variable {P : Program} {w : World} {K : PySem.W.Frag} {mg : Str → Option Value} {base : Heap} {f : Addr} {fd : FuncData}
theorem scL_first_bad : FnScope ["plan", "height", "at", "stage"] ["plan"] (defScope sL_first_bad) := ⟨rfl, rfl, rfl, by decide +kernel, rfl, by decide +kernel, by decide +kernel⟩
def W_L_first_bad_1 : WS := (wAsg (wC (.int 0)) (wgN 1))
def W_L_first_bad_2i : WI := (wiEA (wCons (wOp gIx (wVar 0) (wC (.int 1))) wNil))
def W_L_first_bad_2g : WG := (wgTup 2 (wgCons (wgN 2) (wgCons (wgN 3) wgNil)))
def W_L_first_bad_2b : WS := (wSeq (wIf (wAndT (wB (wOp gEq (wOp gIx (wVar 3) (wC (.int 0))) (wC (.str "flat")))) (wB (wOp gEq (wVar 1) (wC (.int 0))))) (wRet (wVar 2))
  wNext)
  (wAsg (wFn S_L_height (wCons (wVar 1) (wCons (wVar 3) wNil))) (wgN 1)))
def W_L_first_bad_2 : WS := (wFor W_L_first_bad_2i W_L_first_bad_2g W_L_first_bad_2b)
def W_L_first_bad_3 : WS := (wRet (wC .non))
def W_L_first_bad : WS := (wSeq W_L_first_bad_1 (wSeq W_L_first_bad_2 W_L_first_bad_3))
def S_L_first_bad : DSpec := bodyS 4 1 W_L_first_bad
theorem d_L_first_bad (F : FnP K "_law_first_bad" "_law_first_bad" sL_first_bad f fd) (gm : mg "_law_first_bad" = some (.ref f)) (T : Td P w K mg base) (D_L_height : DefOk P w K mg base CX0 10 "_law_height" ["height", "stage"] [] (spD (ev K) S_L_height)) : DefOk P w K mg base CX0 11 "_law_first_bad" ["plan"] [] (spD (ev K) S_L_first_bad) := by
  exact ⟨f, fd, [], F.ok scL_first_bad (fun vs H Q E h => body_len h) (fun cdv A outer s H vs Q E hr h => ⟨_, PSs.nox (ds_cons (ds_set (i := 1) scL_first_bad.nd rfl (.inl rfl) d_int)
  (ds_cons (ds_for PassesOwn.never rfl (di_eA rfl (pi_enumA (by rfl) T.z_enumerate) (d_cons (d_ix rfl (d_var (pv 0)) d_int (fun _ _ => rfl)) d_nil)) (dg_tup rfl rfl (dgs_cons (dg_name (pg_name (i := 2) scL_first_bad.nd rfl (.inl rfl))) (dgs_cons (dg_name (pg_name (i := 3) scL_first_bad.nd rfl (.inl rfl))) dgs_nil)))
  (ds_cons (ds_if (d_pt (d_andT (d_tcmp (op_gEq rfl (hr.units)) (d_ix rfl (d_var (pv 3)) d_int (fun _ _ => rfl)) (d_str) (nomark _)) (d_and1 (d_tcmp (op_gEq rfl (hr.units)) (d_var (pv 1)) d_int (nomark _))))) (ds_one (ds_ret (d_var (pv 2))))
  ds_nil)
  (ds_one (ds_set (i := 1) scL_first_bad.nd rfl (.inl rfl) (d_fn (E := fun _ _ _ => False) D_L_height (hr.mono (by decide)) pass0 (d_cons (d_var (pv 1)) (d_cons (d_var (pv 3)) d_nil)))))))
  (ds_one (ds_ret d_non)))), body_ok (N := ["plan", "height", "at", "stage"]) (ps := []) h⟩), gm, F.kp, F.bindsN fun _ _ _ _ _ _ us hl => match us, hl with | [_], _ => rfl, .nil⟩
theorem scL_told : FnScope ["program", "word", "value", "error"] ["program", "word", "value"] (defScope sL_told) := ⟨rfl, rfl, rfl, by decide +kernel, rfl, by decide +kernel, by decide +kernel⟩
def W_L_told : WS := (wTry3 (wSeq (wIf (wB (wOp gEq (wVar 1) (wC (.str "then")))) (wRetW "made" (xMe "Program" "then" S_Program_then (wVar 0) (wCons (wVar 2) wNil)))
  wNext)
  (wRetW "made" (xIf (wB (wOp gEq (wVar 1) (wC (.str "without")))) (xMe "Program" "without" S_Program_without (wVar 0) (wCons (wVar 2) wNil)) (xMe "Program" "exchanged" S_Program_exchanged (wVar 0) (wCons (wVar 2) wNil))))) "BadPositions" "BadStages" "BadStage" "value" "value" "position" "positions" "stages" "stage")
def S_L_told : DSpec := bodyS 4 3 W_L_told
theorem d_L_told (F : FnP K "_law_told" "_law_told" sL_told f fd) (gm : mg "_law_told" = some (.ref f)) (T : Td P w K mg base) (M_then : MethOk P w K mg base (L2.CX P w) 6 (He.ga K "Program") "then" ["self", "stage"] (spD (ev K) S_Program_then)) (M_without : MethOk P w K mg base (L2.CX P w) 6 (He.ga K "Program") "without" ["self", "positions"] (spD (ev K) S_Program_without)) (M_exchanged : MethOk P w K mg base (L2.CX P w) 6 (He.ga K "Program") "exchanged" ["self", "position"] (spD (ev K) S_Program_exchanged)) : DefOk P w K mg base CX0 7 "_law_told" ["program", "word", "value"] [] (spD (ev K) S_L_told) := by
  exact ⟨f, fd, [], F.ok scL_told (fun vs H Q E h => body_len h) (fun cdv A outer s H vs Q E hr h => ⟨_, PSs.nox (ds_one (ds_try3 (U := ev K) (i := 3) (c1 := "BadPositions") (f1 := "value") (z1 := "positions") (c2 := "BadStages") (f2 := "value") (z2 := "stages") (c3 := "BadStage") (f3 := "position") (z3 := "stage") rfl rfl rfl scL_told.nd (Nat.le_of_ble_eq_true rfl) (hd_w rfl ⟨rfl, by decide, .inl T.g_BadPositions⟩ rfl rfl T.x_BadPositions (fun a pn => pv 3) (hd_w rfl ⟨rfl, by decide, .inl T.g_BadStages⟩ rfl rfl T.x_BadStages (fun a pn => pv 3) (hd_w rfl ⟨rfl, by decide, .inl T.g_BadStage⟩ rfl rfl T.x_BadStage (fun a pn => pv 3) .nil))) T.m11 T.m21 T.m22 T.m31 T.m32 T.m33 ⟨by decide +kernel, by decide +kernel⟩ ⟨by decide +kernel, by decide +kernel⟩ ⟨by decide +kernel, by decide +kernel⟩
  (fun EX' pn xe tk => (ds_cons (ds_if (d_tcmp (op_gEq rfl (hr.units)) (d_var (pv 1)) (d_str) (nomark _)) (ds_one (ds_retW (z := "made") (he := (dx_me (T.nm_Program_then) M_then (hr.mono (by decide)) (passes_call tk fun _ _ _ _ z => z) (d_var (pv 0)) (d_cons (d_var (pv 2)) d_nil)))))
  ds_nil)
  (ds_one (ds_retW (z := "made") (he := (dx_if (d_tcmp (op_gEq rfl (hr.units)) (d_var (pv 1)) (d_str) (nomark _)) (dx_me (T.nm_Program_without) M_without (hr.mono (by decide)) (passes_call tk fun _ _ _ _ z => z) (d_var (pv 0)) (d_cons (d_var (pv 2)) d_nil)) (dx_me (T.nm_Program_exchanged) M_exchanged (hr.mono (by decide)) (passes_call tk fun _ _ _ _ z => z) (d_var (pv 0)) (d_cons (d_var (pv 2)) d_nil)))))))))), body_ok (N := ["program", "word", "value", "error"]) (ps := []) h⟩), gm, F.kp, F.bindsN fun _ _ _ _ _ _ us hl => match us, hl with | [_, _, _], _ => rfl, .nil⟩
theorem scL_is_place : FnScope ["thing", "many"] ["thing", "many"] (defScope sL_is_place) := ⟨rfl, rfl, rfl, by decide +kernel, rfl, by decide +kernel, by decide +kernel⟩
def W_L_is_place : WS := (wRet (wAnd (wIsi clss .int (wVar 0)) (wAnd (wNot (wIsi clss .bl (wVar 0))) (wChain gLe gLt (wC (.int 0)) (wVar 0) (wVar 1)))))
def S_L_is_place : DSpec := bodyS 2 2 W_L_is_place
theorem d_L_is_place (F : FnP K "_law_is_place" "_law_is_place" sL_is_place f fd) (gm : mg "_law_is_place" = some (.ref f)) (T : Td P w K mg base)  : DefOk P w K mg base CX0 1 "_law_is_place" ["thing", "many"] [] (spD (ev K) S_L_is_place) := by
  exact ⟨f, fd, [], F.ok scL_is_place (fun vs H Q E h => body_len h) (fun cdv A outer s H vs Q E hr h => ⟨_, PSs.nox (ds_one (ds_ret (d_and (d_isi (cs := clss) (t := .int) rfl T.oty (by rfl) T.z_isinstance (by rfl) T.z_int (by decide +kernel) (d_var (pv 0))) (d_and (d_not (d_isi (cs := clss) (t := .bl) rfl T.oty (by rfl) T.z_isinstance (by rfl) T.z_bool (by decide +kernel) (d_var (pv 0)))) (d_one (d_chain op_gLe op_gLt d_int (d_var (pv 0)) (d_var (pv 1)))))))), body_ok (N := ["thing", "many"]) (ps := []) h⟩), gm, F.kp, F.bindsN fun _ _ _ _ _ _ us hl => match us, hl with | [_, _], _ => rfl, .nil⟩
theorem scL_due : FnScope ["plan", "word", "value", "stages", "many", "is_list", "one", "found", "at", "stage", "bad"] ["plan", "word", "value"] (defScope sL_due) := ⟨rfl, rfl, rfl, by decide +kernel, rfl, by decide +kernel, by decide +kernel⟩
def W_L_due_1 : WS := (wAsg (wTup (wCons (wCall gList (wCons (wOp gIx (wVar 0) (wC (.int 1))) wNil)) (wCons (wCall gLen (wCons (wOp gIx (wVar 0) (wC (.int 1))) wNil)) wNil))) (wgTup 2 (wgCons (wgN 3) (wgCons (wgN 4) wgNil))))
def W_L_due_2 : WS := (wIf (wB (wOp gEq (wVar 1) (wC (.str "without")))) (wSeq (wAsg (wAnd (wIsi clss .lst (wVar 2)) (wOp gEq (wLcP (wVar 2) [6] (wgN 6) (wNotT (wB (wFn S_L_is_place (wCons (wVar 6) (wCons (wVar 4) wNil))))) (wVar 6)) (wLst wNil))) (wgN 5))
  (wSeq (wIf (wOrT (wNotT (wB (wVar 5))) (wB (wOp gNe (wLenSet (wVar 2)) (wCall gLen (wCons (wVar 2) wNil))))) (wRet (wTup (wCons (wC (.str "positions")) (wCons (wVar 2) wNil))))
  wNext)
  (wAsg (wTup (wCons (wOp gIx (wVar 0) (wC (.int 0))) (wCons (wCall gTuple (wCons (wLc (wiEA (wCons (wVar 3) wNil)) [8, 9] (wgTup 2 (wgCons (wgN 8) (wgCons (wgN 9) wgNil))) (wB (wOp gNotIn (wVar 8) (wVar 2))) (wVar 9)) wNil)) wNil))) (wgN 7))))
  (wIf (wB (wOp gEq (wVar 1) (wC (.str "exchanged")))) (wSeq (wIf (wNotT (wB (wFn S_L_is_place (wCons (wVar 2) (wCons (wOp gSub (wVar 4) (wC (.int 1))) wNil))))) (wRet (wTup (wCons (wC (.str "positions")) (wCons (wVar 2) wNil))))
  wNext)
  (wAsg (wTup (wCons (wOp gIx (wVar 0) (wC (.int 0))) (wCons (wCall gTuple (wCons (wCat (wCat (wSl (wVar 3) wNo (wPart (wVar 2))) (wLst (wCons (wOp gIx (wVar 3) (wOp gAdd (wVar 2) (wC (.int 1)))) (wCons (wOp gIx (wVar 3) (wVar 2)) wNil)))) (wSl (wVar 3) (wPart (wOp gAdd (wVar 2) (wC (.int 2)))) wNo)) wNil)) wNil))) (wgN 7)))
  (wSeq (wAsg (wTup (wCons (wOp gIx (wVar 0) (wC (.int 0))) (wCons (wCall gTuple (wCons (wCat (wVar 3) (wLst (wCons (wVar 2) wNil))) wNil)) wNil))) (wgN 7))
  (wIf (wB (wOp gGt (wCall gLen (wCons (wOp gIx (wVar 7) (wC (.int 1))) wNil)) (wC (.int 6)))) (wRet (wTup (wCons (wC (.str "stages")) (wCons (wC .non) wNil))))
  wNext))))
def W_L_due_3 : WS := (wAsg (wFn S_L_first_bad (wCons (wVar 7) wNil)) (wgN 10))
def W_L_due_4 : WS := (wRet (wIfE (wB (wOp gIsN (wVar 10) (wC .non))) (wTup (wCons (wC (.str "made")) (wCons (wVar 7) wNil))) (wTup (wCons (wC (.str "stage")) (wCons (wVar 10) wNil)))))
def W_L_due : WS := (wSeq W_L_due_1 (wSeq W_L_due_2 (wSeq W_L_due_3 W_L_due_4)))
def S_L_due : DSpec := bodyS 11 3 W_L_due
theorem d_L_due (F : FnP K "_law_due" "_law_due" sL_due f fd) (gm : mg "_law_due" = some (.ref f)) (T : Td P w K mg base) (D_L_is_place : DefOk P w K mg base CX0 1 "_law_is_place" ["thing", "many"] [] (spD (ev K) S_L_is_place)) (D_L_first_bad : DefOk P w K mg base CX0 11 "_law_first_bad" ["plan"] [] (spD (ev K) S_L_first_bad)) : DefOk P w K mg base CX0 12 "_law_due" ["plan", "word", "value"] [] (spD (ev K) S_L_due) := by
  exact ⟨f, fd, [], F.ok scL_due (fun vs H Q E h => body_len h) (fun cdv A outer s H vs Q E hr h => ⟨_, PSs.nox (ds_cons (ds_asg (d_tup (d_cons (d_callTyL call_list_of (m_list rfl) (by rfl) T.z_list (by decide +kernel) (d_cons (d_ix rfl (d_var (pv 0)) d_int (fun _ _ => rfl)) d_nil)) (d_cons (d_callB (c_len rfl) (by rfl) T.z_len (by decide +kernel) (d_cons (d_ix rfl (d_var (pv 0)) d_int (fun _ _ => rfl)) d_nil)) d_nil))) (dg_tup rfl rfl (dgs_cons (dg_name (pg_name (i := 3) scL_due.nd rfl (.inl rfl))) (dgs_cons (dg_name (pg_name (i := 4) scL_due.nd rfl (.inr rfl))) dgs_nil))))
  (ds_cons (ds_if (d_tcmp (op_gEq rfl (hr.units)) (d_var (pv 1)) (d_str) (nomark _)) (ds_cons (ds_set (i := 5) scL_due.nd rfl (.inl rfl) (d_and (d_isi (cs := clss) (t := .lst) rfl T.oty (by rfl) T.z_isinstance (by rfl) T.z_list (by decide +kernel) (d_var (pv 2))) (d_one (d_cmp (op_gEq rfl (hr.units)) (d_lcP (own := [("one", 6)]) rfl (by rfl) scL_due.nd (d_var (pv 2)) (blkOk_by (own := [("one", 6)]) (N := ["plan", "word", "value", "stages", "many", "is_list", "one", "found", "at", "stage", "bad"]) (sc := defScope sL_due) (by decide +kernel)) (fun _ _ _ _ _ => (dgo_name (pg_name (i := 6) scL_due.nd rfl (Or.inl rfl)) (by decide))) (fun _ _ _ _ _ => dts_one (d_notT (d_val (d_fn (E := fun _ _ _ => False) D_L_is_place (hr.mono (by decide)) pass0 (d_cons (d_var (pv 6)) (d_cons (d_var (pv 4)) d_nil)))))) (fun _ _ _ _ _ => (d_var (pv 6)))) (d_lst d_nil) (nomark _)))))
  (ds_cons (ds_if (d_pt (d_orT (d_notT (d_val (d_var (pv 5)))) (d_or1 (d_tcmp (op_gNe rfl (hr.units)) (d_lenSet rfl (by rfl) (by rfl) T.z_len (by rfl) T.z_set (d_var (pv 2))) (d_callB (c_len rfl) (by rfl) T.z_len (by decide +kernel) (d_cons (d_var (pv 2)) d_nil)) (nomark _))))) (ds_one (ds_ret (d_tup (d_cons (d_str) (d_cons (d_var (pv 2)) d_nil)))))
  ds_nil)
  (ds_one (ds_set (i := 7) scL_due.nd rfl (.inl rfl) (d_tup (d_cons (d_ix rfl (d_var (pv 0)) d_int (fun _ _ => rfl)) (d_cons (d_callTy (c_tuple rfl) (by rfl) T.z_tuple (by decide +kernel) (d_cons (d_lc (own := [("at", 8), ("stage", 9)]) (by rfl) scL_due.nd (di_eA rfl (pi_enumA (by rfl) T.z_enumerate) (d_cons (d_var (pv 3)) d_nil)) (blkOk_by (own := [("at", 8), ("stage", 9)]) (N := ["plan", "word", "value", "stages", "many", "is_list", "one", "found", "at", "stage", "bad"]) (sc := defScope sL_due) (by decide +kernel)) (fun _ _ _ _ _ => (dgo_tup rfl rfl (dgso_cons (dgo_name (pg_name (i := 8) scL_due.nd rfl (Or.inl rfl)) (by decide)) (dgso_cons (dgo_name (pg_name (i := 9) scL_due.nd rfl (Or.inl rfl)) (by decide)) dgso_nil)))) (fun _ _ _ _ _ => dts_one (d_tcmp (op_gNotIn rfl) (d_var (pv 8)) (d_var (pv 2)) (by rfl))) (fun _ _ _ _ _ => (d_var (pv 9)))) d_nil)) d_nil)))))))
  (ds_one (ds_if (d_tcmp (op_gEq rfl (hr.units)) (d_var (pv 1)) (d_str) (nomark _)) (ds_cons (ds_if (d_notT (d_val (d_fn (E := fun _ _ _ => False) D_L_is_place (hr.mono (by decide)) pass0 (d_cons (d_var (pv 2)) (d_cons (d_op op_gSub (d_var (pv 4)) d_int) d_nil))))) (ds_one (ds_ret (d_tup (d_cons (d_str) (d_cons (d_var (pv 2)) d_nil)))))
  ds_nil)
  (ds_one (ds_set (i := 7) scL_due.nd rfl (.inl rfl) (d_tup (d_cons (d_ix rfl (d_var (pv 0)) d_int (fun _ _ => rfl)) (d_cons (d_callTy (c_tuple rfl) (by rfl) T.z_tuple (by decide +kernel) (d_cons (d_cat rfl (d_cat rfl (d_sl rfl (d_var (pv 3)) d_no (d_part (d_var (pv 2)))) (d_lst (d_cons (d_ix rfl (d_var (pv 3)) (d_op (op_gAdd rfl) (d_var (pv 2)) d_int) (fun _ _ => rfl)) (d_cons (d_ix rfl (d_var (pv 3)) (d_var (pv 2)) (fun _ _ => rfl)) d_nil)))) (d_sl rfl (d_var (pv 3)) (d_part (d_op (op_gAdd rfl) (d_var (pv 2)) d_int)) d_no)) d_nil)) d_nil))))))
  (ds_cons (ds_set (i := 7) scL_due.nd rfl (.inl rfl) (d_tup (d_cons (d_ix rfl (d_var (pv 0)) d_int (fun _ _ => rfl)) (d_cons (d_callTy (c_tuple rfl) (by rfl) T.z_tuple (by decide +kernel) (d_cons (d_cat rfl (d_var (pv 3)) (d_lst (d_cons (d_var (pv 2)) d_nil))) d_nil)) d_nil))))
  (ds_one (ds_if (d_tcmp op_gGt (d_callB (c_len rfl) (by rfl) T.z_len (by decide +kernel) (d_cons (d_ix rfl (d_var (pv 7)) d_int (fun _ _ => rfl)) d_nil)) d_int (nomark _)) (ds_one (ds_ret (d_tup (d_cons (d_str) (d_cons d_non d_nil)))))
  ds_nil))))))
  (ds_cons (ds_set (i := 10) scL_due.nd rfl (.inl rfl) (d_fn (E := fun _ _ _ => False) D_L_first_bad (hr.mono (by decide)) pass0 (d_cons (d_var (pv 7)) d_nil)))
  (ds_one (ds_ret (d_ifExp (d_tcmp op_gIsN (d_var (pv 10)) d_non (nomark _)) (d_tup (d_cons (d_str) (d_cons (d_var (pv 7)) d_nil))) (d_tup (d_cons (d_str) (d_cons (d_var (pv 10)) d_nil))))))))), body_ok (N := ["plan", "word", "value", "stages", "many", "is_list", "one", "found", "at", "stage", "bad"]) (ps := []) h⟩), gm, F.kp, F.bindsN fun _ _ _ _ _ _ us hl => match us, hl with | [_, _, _], _ => rfl, .nil⟩
theorem scL_asked_right : FnScope ["program", "plan", "word", "value", "due", "seen", "told", "like", "free", "one", "more"] ["program", "plan", "word", "value"] (defScope sL_asked_right) := ⟨rfl, rfl, rfl, by decide +kernel, rfl, by decide +kernel, by decide +kernel⟩
def W_L_asked_right_1 : WS := (wPar 4 5 (wCons (wFn S_L_due (wCons (wVar 1) (wCons (wVar 2) (wCons (wVar 3) wNil)))) (wCons (wCall gRepr (wCons (wVar 3) wNil)) wNil)))
def W_L_asked_right_2 : WS := (wAsg (wFn S_L_told (wCons (wVar 0) (wCons (wVar 2) (wCons (wVar 3) wNil)))) (wgN 6))
def W_L_asked_right_3 : WS := (wIf (wOrT (wB (wOp gNe (wOp gIx (wVar 6) (wC (.int 0))) (wOp gIx (wVar 4) (wC (.int 0))))) (wOrT (wB (wOp gPgNe (wVar 0) (wFn S_L_program (wCons (wVar 1) wNil)))) (wB (wOp gNe (wCall gRepr (wCons (wVar 3) wNil)) (wVar 5))))) (wRet (wC (.bl false)))
  wNext)
def W_L_asked_right_4 : WS := (wIf (wOrT (wB (wOp gNe (wPp "Program" S_Program_depth (wVar 0)) (wFn S_L_depth (wCons (wVar 1) wNil)))) (wB (wOp gNe (wPp "Program" S_Program_sources (wVar 0)) (wPp "Program" S_Program_sources (wFn S_L_program (wCons (wVar 1) wNil)))))) (wRet (wC (.bl false)))
  wNext)
def W_L_asked_right_5 : WS := (wIf (wB (wOp gEq (wOp gIx (wVar 4) (wC (.int 0))) (wC (.str "made")))) (wSeq (wAsg (wFn S_L_program (wCons (wOp gIx (wVar 4) (wC (.int 1))) wNil)) (wgN 7))
  (wSeq (wIf (wOrT (wB (wOp gPgNe (wOp gIx (wVar 6) (wC (.int 1))) (wVar 7))) (wOrT (wB (wOp gNe (wPp "Program" S_Program_sources (wOp gIx (wVar 6) (wC (.int 1)))) (wPp "Program" S_Program_sources (wVar 7)))) (wB (wOp gTpNe (wPp "Program" S_Program_stages (wOp gIx (wVar 6) (wC (.int 1)))) (wPp "Program" S_Program_stages (wVar 7)))))) (wRet (wC (.bl false)))
  wNext)
  (wSeq (wAsg (wLc (wiC (wC (.str "abcd"))) [9] (wgN 9) (wB (wOp gNotIn (wVar 9) (wPp "Program" S_Program_sources (wVar 7)))) (wTup (wCons (wC (.str "zip")) (wCons (wMkP1 (wCons (wVar 9) wNil)) wNil)))) (wgN 8))
  (wSeq (wFor (wiL (wIfE (wB (wOp gLt (wCall gLen (wCons (wPp "Program" S_Program_stages (wVar 7)) wNil)) (wC (.int 6)))) (wCat (wSl (wVar 8) wNo (wPart (wC (.int 1)))) (wLst (wCons (wTup (wCons (wC (.str "skip")) (wCons (wC (.int 1)) wNil))) wNil))) (wLst wNil))) (wgN 10)
  (wIf (wB (wOp gPgNe (wMe "Program" "then" S_Program_then (wOp gIx (wVar 6) (wC (.int 1))) (wCons (wVar 10) wNil)) (wMkP (wCons (wPp "Program" S_Program_source (wVar 7)) (wCons (wCat (wCall gList (wCons (wPp "Program" S_Program_stages (wVar 7)) wNil)) (wLst (wCons (wVar 10) wNil))) wNil))))) (wRet (wC (.bl false)))
  wNext))
  (wRet (wAnd (wOp gEq (wPp "Program" S_Program_depth (wOp gIx (wVar 6) (wC (.int 1)))) (wFn S_L_depth (wCons (wOp gIx (wVar 4) (wC (.int 1))) wNil))) (wIsi clss .tup (wPp "Program" S_Program_stages (wOp gIx (wVar 6) (wC (.int 1)))))))))))
  wNext)
def W_L_asked_right_6 : WS := (wIf (wB (wOp gEq (wOp gIx (wVar 4) (wC (.int 0))) (wC (.str "stages")))) (wRet (wOp gLsEq (wOp gIx (wVar 6) (wC (.int 1))) (wCat (wCall gList (wCons (wPp "Program" S_Program_stages (wVar 0)) wNil)) (wLst (wCons (wVar 3) wNil)))))
  wNext)
def W_L_asked_right_7 : WS := (wIf (wB (wIsi clss .lst (wOp gIx (wVar 4) (wC (.int 1))))) (wExpr (wBmL gApp (wOp gIx (wVar 4) (wC (.int 1))) (wCons (wC (.str "more")) wNil)))
  wNext)
def W_L_asked_right_8 : WS := (wRet (wOp gEq (wCall gRepr (wCons (wOp gIx (wVar 6) (wC (.int 1))) wNil)) (wCall gRepr (wCons (wOp gIx (wVar 4) (wC (.int 1))) wNil))))
def W_L_asked_right : WS := (wSeq W_L_asked_right_1 (wSeq W_L_asked_right_2 (wSeq W_L_asked_right_3 (wSeq W_L_asked_right_4 (wSeq W_L_asked_right_5 (wSeq W_L_asked_right_6 (wSeq W_L_asked_right_7 W_L_asked_right_8)))))))
def S_L_asked_right : DSpec := bodyS 11 4 W_L_asked_right
theorem d_L_asked_right (F : FnP K "_law_asked_right" "_law_asked_right" sL_asked_right f fd) (gm : mg "_law_asked_right" = some (.ref f)) (T : Td P w K mg base) (D_L_due : DefOk P w K mg base CX0 12 "_law_due" ["plan", "word", "value"] [] (spD (ev K) S_L_due)) (D_L_told : DefOk P w K mg base CX0 7 "_law_told" ["program", "word", "value"] [] (spD (ev K) S_L_told)) (D_L_program : DefOk P w K mg base CX0 10 "_law_program" ["plan"] [] (spD (ev K) S_L_program)) (D_L_depth : DefOk P w K mg base CX0 9 "_law_depth" ["plan"] [] (spD (ev K) S_L_depth)) (M_then : MethOk P w K mg base (L2.CX P w) 6 (He.ga K "Program") "then" ["self", "stage"] (spD (ev K) S_Program_then)) (P_source : PropOk P w K mg base CX0 1 (He.ga K "Program") "source" (spD (ev K) S_Program_source)) (P_stages : PropOk P w K mg base CX0 1 (He.ga K "Program") "stages" (spD (ev K) S_Program_stages)) (P_sources : PropOk P w K mg base CX0 1 (He.ga K "Program") "sources" (spD (ev K) S_Program_sources)) (P_depth : PropOk P w K mg base CX0 1 (He.ga K "Program") "depth" (spD (ev K) S_Program_depth)) (G_Program : GP P w K mg base []) {e0 : Addr} (G_Program0 : GP P w K mg base [.ref e0]) (h0 : ∀ H, SqT K H e0 []) (QE : EqAll P w K mg base) : DefG P w K mg base CX0 48 "_law_asked_right" ["program", "plan", "word", "value"] [] (spD (ev K) S_L_asked_right) := by
  refine ⟨f, fd, [], ?_, gm, F.kp, F.bindsN fun _ _ _ _ _ _ us hl => match us, hl with | [_, _, _, _], _ => rfl, .nil⟩
  exact okG F scL_asked_right (fun vs H Q E h => body_len h) (fun cdv A outer s H vs Q E hg hr h => ⟨_, PSs.nox (ds_cons (ds_par (i := 4) (j := 5) (by rfl) scL_asked_right.nd rfl rfl (by decide) rfl rfl (d_cons (d_fn (E := fun _ _ _ => False) D_L_due (hr.mono (by decide)) pass0 (d_cons (d_var (pv 1)) (d_cons (d_var (pv 2)) (d_cons (d_var (pv 3)) d_nil)))) (d_cons (d_callB (c_repr rfl hg hr.units) (by rfl) T.z_repr (by decide +kernel) (d_cons (d_var (pv 3)) d_nil)) d_nil)) (by rfl))
  (ds_cons (ds_set (i := 6) scL_asked_right.nd rfl (.inl rfl) (d_fn (E := fun _ _ _ => False) D_L_told (hr.mono (by decide)) pass0 (d_cons (d_var (pv 0)) (d_cons (d_var (pv 2)) (d_cons (d_var (pv 3)) d_nil)))))
  (ds_cons (ds_if (d_pt (d_orT (d_tcmp (op_gNe rfl (hr.units)) (d_ix rfl (d_var (pv 6)) d_int (fun _ _ => rfl)) (d_ix rfl (d_var (pv 4)) d_int (fun _ _ => rfl)) (nomark _)) (d_orT (d_tcmp (op_pgNe QE rfl T.ne_P T.ob_P (hr.mono (by decide))) (d_var (pv 0)) (d_fn (E := fun _ _ _ => False) D_L_program (hr.mono (by decide)) pass0 (d_cons (d_var (pv 1)) d_nil)) (nomark _)) (d_or1 (d_tcmp (op_gNe rfl (hr.units)) (d_callB (c_repr rfl hg hr.units) (by rfl) T.z_repr (by decide +kernel) (d_cons (d_var (pv 3)) d_nil)) (d_var (pv 5)) (nomark _)))))) (ds_one (ds_ret d_bl))
  ds_nil)
  (ds_cons (ds_if (d_pt (d_orT (d_tcmp (op_gNe rfl (hr.units)) (d_pp (U := ev K) P_depth (hr.mono (by decide)) pass0 (d_var (pv 0))) (d_fn (E := fun _ _ _ => False) D_L_depth (hr.mono (by decide)) pass0 (d_cons (d_var (pv 1)) d_nil)) (nomark _)) (d_or1 (d_tcmp (op_gNe rfl (hr.units)) (d_pp (U := ev K) P_sources (hr.mono (by decide)) pass0 (d_var (pv 0))) (d_pp (U := ev K) P_sources (hr.mono (by decide)) pass0 (d_fn (E := fun _ _ _ => False) D_L_program (hr.mono (by decide)) pass0 (d_cons (d_var (pv 1)) d_nil))) (nomark _))))) (ds_one (ds_ret d_bl))
  ds_nil)
  (ds_cons (ds_if (d_tcmp (op_gEq rfl (hr.units)) (d_ix rfl (d_var (pv 4)) d_int (fun _ _ => rfl)) (d_str) (nomark _)) (ds_cons (ds_set (i := 7) scL_asked_right.nd rfl (.inr rfl) (d_fn (E := fun _ _ _ => False) D_L_program (hr.mono (by decide)) pass0 (d_cons (d_ix rfl (d_var (pv 4)) d_int (fun _ _ => rfl)) d_nil)))
  (ds_cons (ds_if (d_pt (d_orT (d_tcmp (op_pgNe QE rfl T.ne_P T.ob_P (hr.mono (by decide))) (d_ix rfl (d_var (pv 6)) d_int (fun _ _ => rfl)) (d_var (pv 7)) (nomark _)) (d_orT (d_tcmp (op_gNe rfl (hr.units)) (d_pp (U := ev K) P_sources (hr.mono (by decide)) pass0 (d_ix rfl (d_var (pv 6)) d_int (fun _ _ => rfl))) (d_pp (U := ev K) P_sources (hr.mono (by decide)) pass0 (d_var (pv 7))) (nomark _)) (d_or1 (d_tcmp (op_tpNe QE rfl (hr.mono (by decide))) (d_pp (U := ev K) P_stages (hr.mono (by decide)) pass0 (d_ix rfl (d_var (pv 6)) d_int (fun _ _ => rfl))) (d_pp (U := ev K) P_stages (hr.mono (by decide)) pass0 (d_var (pv 7))) (nomark _)))))) (ds_one (ds_ret d_bl))
  ds_nil)
  (ds_cons (ds_setLc (i := 8) (own := [("one", 9)]) (by rfl) scL_asked_right.nd rfl rfl (sw_true rfl rfl rfl (by decide +kernel)) (di_c (d_str)) (blkOk_by (own := [("one", 9)]) (N := ["program", "plan", "word", "value", "due", "seen", "told", "like", "free", "one", "more"]) (sc := defScope sL_asked_right) (by decide +kernel)) (fun _ _ _ _ _ => (dgo_name (pg_name (i := 9) scL_asked_right.nd rfl (Or.inl rfl)) (by decide))) (fun _ _ _ _ _ => dts_one (d_tcmp (op_gNotIn rfl) (d_var (pv 9)) (d_pp (U := ev K) P_sources (hr.mono (by decide)) pass0 (d_var (pv 7))) (by rfl))) (fun _ _ _ _ _ => (d_tup (d_cons (d_str) (d_cons (d_mkP1 rfl (T.ck_Program.ty .tup) G_Program0 h0 (hr.mono (by decide)) (d_cons (d_var (pv 9)) d_nil)) d_nil)))))
  (ds_cons (ds_for PassesOwn.never rfl (di_l rfl (d_ifExp (d_tcmp op_gLt (d_callB (c_len rfl) (by rfl) T.z_len (by decide +kernel) (d_cons (d_pp (U := ev K) P_stages (hr.mono (by decide)) pass0 (d_var (pv 7))) d_nil)) d_int (nomark _)) (d_cat rfl (d_sl rfl (d_var (pv 8)) d_no (d_part d_int)) (d_lst (d_cons (d_tup (d_cons (d_str) (d_cons d_int d_nil))) d_nil))) (d_lst d_nil))) (dg_name (pg_name (i := 10) scL_asked_right.nd rfl (.inl rfl)))
  (ds_one (ds_if (d_tcmp (op_pgNe QE rfl T.ne_P T.ob_P (hr.mono (by decide))) (d_me (E := fun _ _ _ => False) (T.nm_Program_then) M_then (hr.mono (by decide)) (passX rfl rfl) (d_ix rfl (d_var (pv 6)) d_int (fun _ _ => rfl)) (d_cons (d_var (pv 10)) d_nil)) (d_mkP rfl (T.ck_Program.ty .tup) G_Program (hr.mono (by decide)) (d_cons (d_pp (U := ev K) P_source (hr.mono (by decide)) pass0 (d_var (pv 7))) (d_cons (d_cat rfl (d_callTyL call_list_of (m_list rfl) (by rfl) T.z_list (by decide +kernel) (d_cons (d_pp (U := ev K) P_stages (hr.mono (by decide)) pass0 (d_var (pv 7))) d_nil)) (d_lst (d_cons (d_var (pv 10)) d_nil))) d_nil))) (nomark _)) (ds_one (ds_ret d_bl))
  ds_nil)))
  (ds_one (ds_ret (d_and (d_cmp (op_gEq rfl (hr.units)) (d_pp (U := ev K) P_depth (hr.mono (by decide)) pass0 (d_ix rfl (d_var (pv 6)) d_int (fun _ _ => rfl))) (d_fn (E := fun _ _ _ => False) D_L_depth (hr.mono (by decide)) pass0 (d_cons (d_ix rfl (d_var (pv 4)) d_int (fun _ _ => rfl)) d_nil)) (nomark _)) (d_one (d_isi (cs := clss) (t := .tup) rfl T.oty (by rfl) T.z_isinstance (by rfl) T.z_tuple (by decide +kernel) (d_pp (U := ev K) P_stages (hr.mono (by decide)) pass0 (d_ix rfl (d_var (pv 6)) d_int (fun _ _ => rfl))))))))))))
  ds_nil)
  (ds_cons (ds_if (d_tcmp (op_gEq rfl (hr.units)) (d_ix rfl (d_var (pv 4)) d_int (fun _ _ => rfl)) (d_str) (nomark _)) (ds_one (ds_ret (d_cmp (op_lsEq QE rfl (hr.mono (by decide))) (d_ix rfl (d_var (pv 6)) d_int (fun _ _ => rfl)) (d_cat rfl (d_callTyL call_list_of (m_list rfl) (by rfl) T.z_list (by decide +kernel) (d_cons (d_pp (U := ev K) P_stages (hr.mono (by decide)) pass0 (d_var (pv 0))) d_nil)) (d_lst (d_cons (d_var (pv 3)) d_nil))) (nomark _))))
  ds_nil)
  (ds_cons (ds_if (d_val (d_isi (cs := clss) (t := .lst) rfl T.oty (by rfl) T.z_isinstance (by rfl) T.z_list (by decide +kernel) (d_ix rfl (d_var (pv 4)) d_int (fun _ _ => rfl)))) (ds_one (ds_expr (d_bmL rfl PySem.F.slot_list_append PySem.F.type_list_append m_app (d_ix rfl (d_var (pv 4)) d_int (fun _ _ => rfl)) (d_cons (d_str) d_nil))))
  ds_nil)
  (ds_one (ds_ret (d_cmp (op_gEq rfl (hr.units)) (d_callB (c_repr rfl hg hr.units) (by rfl) T.z_repr (by decide +kernel) (d_cons (d_ix rfl (d_var (pv 6)) d_int (fun _ _ => rfl)) d_nil)) (d_callB (c_repr rfl hg hr.units) (by rfl) T.z_repr (by decide +kernel) (d_cons (d_ix rfl (d_var (pv 4)) d_int (fun _ _ => rfl)) d_nil)) (nomark _))))))))))), body_ok (N := ["program", "plan", "word", "value", "due", "seen", "told", "like", "free", "one", "more"]) (ps := []) h⟩)
theorem scL_odd_right : FnScope ["program", "plan", "many", "free", "one", "stage", "told", "due"] ["program", "plan"] (defScope sL_odd_right) := ⟨rfl, rfl, rfl, by decide +kernel, rfl, by decide +kernel, by decide +kernel⟩
def W_L_odd_right_1 : WS := (wPar 2 3 (wCons (wCall gLen (wCons (wOp gIx (wVar 1) (wC (.int 1))) wNil)) (wCons (wOp gIx (wLc (wiC (wC (.str "abcd"))) [4] (wgN 4) (wB (wOp gNotIn (wVar 4) (wPp "Program" S_Program_sources (wVar 0)))) (wVar 4)) (wC (.int 0))) wNil)))
def W_L_odd_right_2i : WI := (wiL (wLst (wCons (wTup (wCons (wC (.str "zip")) (wCons (wMkP1 (wCons (wOp gIx (wPp "Program" S_Program_sources (wVar 0)) (wNeg (wC (.int 1)))) wNil)) wNil))) (wCons (wTup (wCons (wC (.str "zip")) (wCons (wMkP (wCons (wVar 3) (wCons (wLst (wCons (wTup (wCons (wC (.str "zip")) (wCons (wMkP1 (wCons (wPp "Program" S_Program_source (wVar 0)) wNil)) wNil))) wNil)) wNil))) wNil))) wNil))))
def W_L_odd_right_2g : WG := (wgN 5)
def W_L_odd_right_2b : WS := (wSeq (wIf (wB (wOp gNe (wOp gIx (wFn S_L_told (wCons (wVar 0) (wCons (wC (.str "then")) (wCons (wVar 5) wNil)))) (wC (.int 0))) (wIfE (wB (wOp gLt (wVar 2) (wC (.int 6)))) (wC (.str "stage")) (wC (.str "stages"))))) (wRet (wC (.bl false)))
  wNext)
  (wIf (wAndT (wB (wOp gLt (wVar 2) (wC (.int 6)))) (wB (wOp gNe (wOp gIx (wFn S_L_told (wCons (wVar 0) (wCons (wC (.str "then")) (wCons (wVar 5) wNil)))) (wC (.int 1))) (wVar 2)))) (wRet (wC (.bl false)))
  wNext))
def W_L_odd_right_2 : WS := (wFor W_L_odd_right_2i W_L_odd_right_2g W_L_odd_right_2b)
def W_L_odd_right_3i : WI := (wiL (wLst (wCons (wC .non) (wCons (wTup wNil) (wCons (wTup (wCons (wC (.str "map")) wNil)) (wCons (wTup (wCons (wC (.str "take")) (wCons (wC (.int 0)) wNil))) (wCons (wTup (wCons (wC (.str "lots")) (wCons (wC (.int 5)) wNil))) (wCons (wLst (wCons (wC (.str "map")) (wCons (wC (.str "f")) wNil))) (wCons (wTup (wCons (wC (.str "zip")) (wCons (wVar 1) wNil))) (wCons (wTup (wCons (wC (.str "keep")) (wCons (wC (.str "P")) wNil))) (wCons (wC (.str "flat")) (wCons (wC (.int 5)) wNil))))))))))))
def W_L_odd_right_3g : WG := (wgN 5)
def W_L_odd_right_3b : WS := (wSeq (wAsg (wFn S_L_told (wCons (wVar 0) (wCons (wC (.str "then")) (wCons (wVar 5) wNil)))) (wgN 6))
  (wSeq (wIf (wAndT (wB (wOp gLt (wVar 2) (wC (.int 6)))) (wB (wOp gNe (wCall gRepr (wCons (wVar 6) wNil)) (wCall gRepr (wCons (wTup (wCons (wC (.str "stage")) (wCons (wVar 2) wNil))) wNil))))) (wRet (wC (.bl false)))
  wNext)
  (wIf (wAndT (wB (wOp gEq (wVar 2) (wC (.int 6)))) (wB (wOp gTpNe (wVar 6) (wTup (wCons (wC (.str "stages")) (wCons (wCat (wCall gList (wCons (wPp "Program" S_Program_stages (wVar 0)) wNil)) (wLst (wCons (wVar 5) wNil))) wNil)))))) (wRet (wC (.bl false)))
  wNext)))
def W_L_odd_right_3 : WS := (wFor W_L_odd_right_3i W_L_odd_right_3g W_L_odd_right_3b)
def W_L_odd_right_4 : WS := (wAsg (wFn S_L_told (wCons (wVar 0) (wCons (wC (.str "then")) (wCons (wTup (wCons (wC (.str "zip")) (wCons (wMkP (wCons (wVar 3) (wCons (wLst (wCons (wTup (wCons (wC (.str "lots")) (wCons (wC (.int 2)) wNil))) wNil)) wNil))) wNil))) wNil)))) (wgN 6))
def W_L_odd_right_5 : WS := (wIf (wB (wOp gEq (wVar 2) (wC (.int 6)))) (wRet (wOp gEq (wOp gIx (wVar 6) (wC (.int 0))) (wC (.str "stages"))))
  wNext)
def W_L_odd_right_6 : WS := (wAsg (wOp gAdd (wPp "Program" S_Program_sources (wVar 0)) (wTup (wCons (wVar 3) wNil))) (wgN 7))
def W_L_odd_right_7 : WS := (wRet (wAnd (wOp gEq (wOp gIx (wVar 6) (wC (.int 0))) (wC (.str "made"))) (wAnd (wOp gEq (wPp "Program" S_Program_sources (wOp gIx (wVar 6) (wC (.int 1)))) (wVar 7)) (wOp gEq (wPp "Program" S_Program_depth (wOp gIx (wVar 6) (wC (.int 1)))) (wOp gAdd (wC (.int 1)) (wCall gMin2 (wCons (wPp "Program" S_Program_depth (wVar 0)) (wCons (wC (.int 1)) wNil))))))))
def W_L_odd_right : WS := (wSeq W_L_odd_right_1 (wSeq W_L_odd_right_2 (wSeq W_L_odd_right_3 (wSeq W_L_odd_right_4 (wSeq W_L_odd_right_5 (wSeq W_L_odd_right_6 W_L_odd_right_7))))))
def S_L_odd_right : DSpec := bodyS 8 2 W_L_odd_right
theorem d_L_odd_right (F : FnP K "_law_odd_right" "_law_odd_right" sL_odd_right f fd) (gm : mg "_law_odd_right" = some (.ref f)) (T : Td P w K mg base) (D_L_told : DefOk P w K mg base CX0 7 "_law_told" ["program", "word", "value"] [] (spD (ev K) S_L_told)) (P_source : PropOk P w K mg base CX0 1 (He.ga K "Program") "source" (spD (ev K) S_Program_source)) (P_stages : PropOk P w K mg base CX0 1 (He.ga K "Program") "stages" (spD (ev K) S_Program_stages)) (P_sources : PropOk P w K mg base CX0 1 (He.ga K "Program") "sources" (spD (ev K) S_Program_sources)) (P_depth : PropOk P w K mg base CX0 1 (He.ga K "Program") "depth" (spD (ev K) S_Program_depth)) (G_Program : GP P w K mg base []) {e0 : Addr} (G_Program0 : GP P w K mg base [.ref e0]) (h0 : ∀ H, SqT K H e0 []) (QE : EqAll P w K mg base) : DefG P w K mg base CX0 48 "_law_odd_right" ["program", "plan"] [] (spD (ev K) S_L_odd_right) := by
  refine ⟨f, fd, [], ?_, gm, F.kp, F.bindsN fun _ _ _ _ _ _ us hl => match us, hl with | [_, _], _ => rfl, .nil⟩
  exact okG F scL_odd_right (fun vs H Q E h => body_len h) (fun cdv A outer s H vs Q E hg hr h => ⟨_, PSs.nox (ds_cons (ds_par (i := 2) (j := 3) (by rfl) scL_odd_right.nd rfl rfl (by decide) rfl rfl (d_cons (d_callB (c_len rfl) (by rfl) T.z_len (by decide +kernel) (d_cons (d_ix rfl (d_var (pv 1)) d_int (fun _ _ => rfl)) d_nil)) (d_cons (d_ix rfl (d_lc (own := [("one", 4)]) (by rfl) scL_odd_right.nd (di_c (d_str)) (blkOk_by (own := [("one", 4)]) (N := ["program", "plan", "many", "free", "one", "stage", "told", "due"]) (sc := defScope sL_odd_right) (by decide +kernel)) (fun _ _ _ _ _ => (dgo_name (pg_name (i := 4) scL_odd_right.nd rfl (Or.inl rfl)) (by decide))) (fun _ _ _ _ _ => dts_one (d_tcmp (op_gNotIn rfl) (d_var (pv 4)) (d_pp (U := ev K) P_sources (hr.mono (by decide)) pass0 (d_var (pv 0))) (by rfl))) (fun _ _ _ _ _ => (d_var (pv 4)))) d_int (fun _ _ => rfl)) d_nil)) (by rfl))
  (ds_cons (ds_for PassesOwn.never rfl (di_l rfl (d_lst (d_cons (d_tup (d_cons (d_str) (d_cons (d_mkP1 rfl (T.ck_Program.ty .tup) G_Program0 h0 (hr.mono (by decide)) (d_cons (d_ix rfl (d_pp (U := ev K) P_sources (hr.mono (by decide)) pass0 (d_var (pv 0))) (d_neg d_int) (fun _ _ => rfl)) d_nil)) d_nil))) (d_cons (d_tup (d_cons (d_str) (d_cons (d_mkP rfl (T.ck_Program.ty .tup) G_Program (hr.mono (by decide)) (d_cons (d_var (pv 3)) (d_cons (d_lst (d_cons (d_tup (d_cons (d_str) (d_cons (d_mkP1 rfl (T.ck_Program.ty .tup) G_Program0 h0 (hr.mono (by decide)) (d_cons (d_pp (U := ev K) P_source (hr.mono (by decide)) pass0 (d_var (pv 0))) d_nil)) d_nil))) d_nil)) d_nil))) d_nil))) d_nil)))) (dg_name (pg_name (i := 5) scL_odd_right.nd rfl (.inl rfl)))
  (ds_cons (ds_if (d_tcmp (op_gNe rfl (hr.units)) (d_ix rfl (d_fn (E := fun _ _ _ => False) D_L_told (hr.mono (by decide)) pass0 (d_cons (d_var (pv 0)) (d_cons (d_str) (d_cons (d_var (pv 5)) d_nil)))) d_int (fun _ _ => rfl)) (d_ifExp (d_tcmp op_gLt (d_var (pv 2)) d_int (nomark _)) (d_str) (d_str)) (nomark _)) (ds_one (ds_ret d_bl))
  ds_nil)
  (ds_one (ds_if (d_pt (d_andT (d_tcmp op_gLt (d_var (pv 2)) d_int (nomark _)) (d_and1 (d_tcmp (op_gNe rfl (hr.units)) (d_ix rfl (d_fn (E := fun _ _ _ => False) D_L_told (hr.mono (by decide)) pass0 (d_cons (d_var (pv 0)) (d_cons (d_str) (d_cons (d_var (pv 5)) d_nil)))) d_int (fun _ _ => rfl)) (d_var (pv 2)) (nomark _))))) (ds_one (ds_ret d_bl))
  ds_nil))))
  (ds_cons (ds_for PassesOwn.never rfl (di_l rfl (d_lst (d_cons d_non (d_cons (d_tup d_nil) (d_cons (d_tup (d_cons (d_str) d_nil)) (d_cons (d_tup (d_cons (d_str) (d_cons d_int d_nil))) (d_cons (d_tup (d_cons (d_str) (d_cons d_int d_nil))) (d_cons (d_lst (d_cons (d_str) (d_cons (d_str) d_nil))) (d_cons (d_tup (d_cons (d_str) (d_cons (d_var (pv 1)) d_nil))) (d_cons (d_tup (d_cons (d_str) (d_cons (d_str) d_nil))) (d_cons (d_str) (d_cons d_int d_nil)))))))))))) (dg_name (pg_name (i := 5) scL_odd_right.nd rfl (.inl rfl)))
  (ds_cons (ds_set (i := 6) scL_odd_right.nd rfl (.inl rfl) (d_fn (E := fun _ _ _ => False) D_L_told (hr.mono (by decide)) pass0 (d_cons (d_var (pv 0)) (d_cons (d_str) (d_cons (d_var (pv 5)) d_nil)))))
  (ds_cons (ds_if (d_pt (d_andT (d_tcmp op_gLt (d_var (pv 2)) d_int (nomark _)) (d_and1 (d_tcmp (op_gNe rfl (hr.units)) (d_callB (c_repr rfl hg hr.units) (by rfl) T.z_repr (by decide +kernel) (d_cons (d_var (pv 6)) d_nil)) (d_callB (c_repr rfl hg hr.units) (by rfl) T.z_repr (by decide +kernel) (d_cons (d_tup (d_cons (d_str) (d_cons (d_var (pv 2)) d_nil))) d_nil)) (nomark _))))) (ds_one (ds_ret d_bl))
  ds_nil)
  (ds_one (ds_if (d_pt (d_andT (d_tcmp (op_gEq rfl (hr.units)) (d_var (pv 2)) d_int (nomark _)) (d_and1 (d_tcmp (op_tpNe QE rfl (hr.mono (by decide))) (d_var (pv 6)) (d_tup (d_cons (d_str) (d_cons (d_cat rfl (d_callTyL call_list_of (m_list rfl) (by rfl) T.z_list (by decide +kernel) (d_cons (d_pp (U := ev K) P_stages (hr.mono (by decide)) pass0 (d_var (pv 0))) d_nil)) (d_lst (d_cons (d_var (pv 5)) d_nil))) d_nil))) (nomark _))))) (ds_one (ds_ret d_bl))
  ds_nil)))))
  (ds_cons (ds_set (i := 6) scL_odd_right.nd rfl (.inl rfl) (d_fn (E := fun _ _ _ => False) D_L_told (hr.mono (by decide)) pass0 (d_cons (d_var (pv 0)) (d_cons (d_str) (d_cons (d_tup (d_cons (d_str) (d_cons (d_mkP rfl (T.ck_Program.ty .tup) G_Program (hr.mono (by decide)) (d_cons (d_var (pv 3)) (d_cons (d_lst (d_cons (d_tup (d_cons (d_str) (d_cons d_int d_nil))) d_nil)) d_nil))) d_nil))) d_nil)))))
  (ds_cons (ds_if (d_tcmp (op_gEq rfl (hr.units)) (d_var (pv 2)) d_int (nomark _)) (ds_one (ds_ret (d_cmp (op_gEq rfl (hr.units)) (d_ix rfl (d_var (pv 6)) d_int (fun _ _ => rfl)) (d_str) (nomark _))))
  ds_nil)
  (ds_cons (ds_set (i := 7) scL_odd_right.nd rfl (.inl rfl) (d_op (op_gAdd rfl) (d_pp (U := ev K) P_sources (hr.mono (by decide)) pass0 (d_var (pv 0))) (d_tup (d_cons (d_var (pv 3)) d_nil))))
  (ds_one (ds_ret (d_and (d_cmp (op_gEq rfl (hr.units)) (d_ix rfl (d_var (pv 6)) d_int (fun _ _ => rfl)) (d_str) (nomark _)) (d_and (d_cmp (op_gEq rfl (hr.units)) (d_pp (U := ev K) P_sources (hr.mono (by decide)) pass0 (d_ix rfl (d_var (pv 6)) d_int (fun _ _ => rfl))) (d_var (pv 7)) (nomark _)) (d_one (d_cmp (op_gEq rfl (hr.units)) (d_pp (U := ev K) P_depth (hr.mono (by decide)) pass0 (d_ix rfl (d_var (pv 6)) d_int (fun _ _ => rfl))) (d_op (op_gAdd rfl) d_int (d_callB (c_min2 rfl) (by rfl) T.z_min (by decide +kernel) (d_cons (d_pp (U := ev K) P_depth (hr.mono (by decide)) pass0 (d_var (pv 0))) (d_cons d_int d_nil)))) (nomark _))))))))))))), body_ok (N := ["program", "plan", "many", "free", "one", "stage", "told", "due"]) (ps := []) h⟩)
theorem scL_compared : FnScope ["source", "plan", "program", "same", "other", "near", "one", "thing"] ["source", "plan", "program"] (defScope sL_compared) := ⟨rfl, rfl, rfl, by decide +kernel, rfl, by decide +kernel, by decide +kernel⟩
def W_L_compared_1 : WS := (wAsg (wMkP (wCons (wOp gIx (wVar 1) (wC (.int 0))) (wCons (wCall gTuple (wCons (wPp "Program" S_Program_stages (wVar 2)) wNil)) wNil))) (wgN 3))
def W_L_compared_2 : WS := (wAsg (wFn S_L_program (wCons (wFn S_L_plan (wCons (wVar 0) (wCons (wSlM (wFn S_L_mixed (wCons (wVar 0) (wCons (wLst (wCons (wC (.str "a")) (wCons (wC (.str "b")) (wCons (wC (.str "c")) (wCons (wC (.str "d")) wNil))))) wNil))) wNo (wPart (wC (.int 3)))) (wCons (wC (.int 6)) wNil)))) wNil)) (wgN 4))
def W_L_compared_3 : WS := (wIf (wOrT (wNotT (wB (wOp gPgEq (wVar 2) (wVar 3)))) (wB (wOp gPgNe (wVar 2) (wVar 3)))) (wRet (wC (.bl false)))
  wNext)
def W_L_compared_4 : WS := (wIf (wB (wOp gNe (wOp gPgEq (wVar 4) (wVar 2)) (wAnd (wOp gEq (wPp "Program" S_Program_source (wVar 4)) (wPp "Program" S_Program_source (wVar 2))) (wOp gTpEq (wPp "Program" S_Program_stages (wVar 4)) (wPp "Program" S_Program_stages (wVar 2)))))) (wRet (wC (.bl false)))
  wNext)
def W_L_compared_5 : WS := (wAsg (wMkP (wCons (wOp gIx (wLc (wiC (wC (.str "abcd"))) [6] (wgN 6) (wB (wOp gNotIn (wVar 6) (wPp "Program" S_Program_sources (wVar 2)))) (wVar 6)) (wC (.int 0))) (wCons (wPp "Program" S_Program_stages (wVar 2)) wNil))) (wgN 5))
def W_L_compared_6 : WS := (wRet (wOp gEq (wLc (wiL (wLst (wCons (wC .non) (wCons (wVar 1) (wCons (wOp gIx (wVar 1) (wC (.int 1))) (wCons (wPp "Program" S_Program_stages (wVar 2)) (wCons (wC (.str "a")) (wCons (wC (.int 0)) (wCons (wVar 5) wNil))))))))) [7] (wgN 7) (wB (wOp gPgEq (wVar 2) (wVar 7))) (wVar 7)) (wLst wNil)))
def W_L_compared : WS := (wSeq W_L_compared_1 (wSeq W_L_compared_2 (wSeq W_L_compared_3 (wSeq W_L_compared_4 (wSeq W_L_compared_5 W_L_compared_6)))))
def S_L_compared : DSpec := bodyS 8 3 W_L_compared
theorem d_L_compared (F : FnP K "_law_compared" "_law_compared" sL_compared f fd) (gm : mg "_law_compared" = some (.ref f)) (T : Td P w K mg base) (D_L_plan : DefOk P w K mg base CX0 12 "_law_plan" ["stream", "pool", "most"] [] (spD (ev K) S_L_plan)) (D_L_mixed : DefOk P w K mg base CX0 2 "_law_mixed" ["stream", "things"] [] (spD (ev K) S_L_mixed)) (D_L_program : DefOk P w K mg base CX0 10 "_law_program" ["plan"] [] (spD (ev K) S_L_program)) (P_source : PropOk P w K mg base CX0 1 (He.ga K "Program") "source" (spD (ev K) S_Program_source)) (P_stages : PropOk P w K mg base CX0 1 (He.ga K "Program") "stages" (spD (ev K) S_Program_stages)) (P_sources : PropOk P w K mg base CX0 1 (He.ga K "Program") "sources" (spD (ev K) S_Program_sources)) (P_depth : PropOk P w K mg base CX0 1 (He.ga K "Program") "depth" (spD (ev K) S_Program_depth)) (G_Program : GP P w K mg base []) (QE : EqAll P w K mg base) : DefOk P w K mg base CX0 48 "_law_compared" ["source", "plan", "program"] [] (spD (ev K) S_L_compared) := by
  exact ⟨f, fd, [], F.ok scL_compared (fun vs H Q E h => body_len h) (fun cdv A outer s H vs Q E hr h => ⟨_, PSs.nox (ds_cons (ds_set (i := 3) scL_compared.nd rfl (.inl rfl) (d_mkP rfl (T.ck_Program.ty .tup) G_Program (hr.mono (by decide)) (d_cons (d_ix rfl (d_var (pv 1)) d_int (fun _ _ => rfl)) (d_cons (d_callTy (c_tuple rfl) (by rfl) T.z_tuple (by decide +kernel) (d_cons (d_pp (U := ev K) P_stages (hr.mono (by decide)) pass0 (d_var (pv 2))) d_nil)) d_nil))))
  (ds_cons (ds_set (i := 4) scL_compared.nd rfl (.inl rfl) (d_fn (E := fun _ _ _ => False) D_L_program (hr.mono (by decide)) pass0 (d_cons (d_fn (E := fun _ _ _ => False) D_L_plan (hr.mono (by decide)) pass0 (d_cons (d_var (pv 0)) (d_cons (d_slM rfl (d_fn (E := fun _ _ _ => False) D_L_mixed (hr.mono (by decide)) pass0 (d_cons (d_var (pv 0)) (d_cons (d_lst (d_cons (d_str) (d_cons (d_str) (d_cons (d_str) (d_cons (d_str) d_nil))))) d_nil))) d_no (d_part d_int)) (d_cons d_int d_nil)))) d_nil)))
  (ds_cons (ds_if (d_pt (d_orT (d_notT (d_tcmp (op_pgEq QE rfl T.nf_P (hr.mono (by decide))) (d_var (pv 2)) (d_var (pv 3)) (nomark _))) (d_or1 (d_tcmp (op_pgNe QE rfl T.ne_P T.ob_P (hr.mono (by decide))) (d_var (pv 2)) (d_var (pv 3)) (nomark _))))) (ds_one (ds_ret d_bl))
  ds_nil)
  (ds_cons (ds_if (d_tcmp (op_gNe rfl (hr.units)) (d_cmp (op_pgEq QE rfl T.nf_P (hr.mono (by decide))) (d_var (pv 4)) (d_var (pv 2)) (nomark _)) (d_and (d_cmp (op_gEq rfl (hr.units)) (d_pp (U := ev K) P_source (hr.mono (by decide)) pass0 (d_var (pv 4))) (d_pp (U := ev K) P_source (hr.mono (by decide)) pass0 (d_var (pv 2))) (nomark _)) (d_one (d_cmp (op_tpEq QE rfl (hr.mono (by decide))) (d_pp (U := ev K) P_stages (hr.mono (by decide)) pass0 (d_var (pv 4))) (d_pp (U := ev K) P_stages (hr.mono (by decide)) pass0 (d_var (pv 2))) (nomark _)))) (nomark _)) (ds_one (ds_ret d_bl))
  ds_nil)
  (ds_cons (ds_set (i := 5) scL_compared.nd rfl (.inl rfl) (d_mkP rfl (T.ck_Program.ty .tup) G_Program (hr.mono (by decide)) (d_cons (d_ix rfl (d_lc (own := [("one", 6)]) (by rfl) scL_compared.nd (di_c (d_str)) (blkOk_by (own := [("one", 6)]) (N := ["source", "plan", "program", "same", "other", "near", "one", "thing"]) (sc := defScope sL_compared) (by decide +kernel)) (fun _ _ _ _ _ => (dgo_name (pg_name (i := 6) scL_compared.nd rfl (Or.inl rfl)) (by decide))) (fun _ _ _ _ _ => dts_one (d_tcmp (op_gNotIn rfl) (d_var (pv 6)) (d_pp (U := ev K) P_sources (hr.mono (by decide)) pass0 (d_var (pv 2))) (by rfl))) (fun _ _ _ _ _ => (d_var (pv 6)))) d_int (fun _ _ => rfl)) (d_cons (d_pp (U := ev K) P_stages (hr.mono (by decide)) pass0 (d_var (pv 2))) d_nil))))
  (ds_one (ds_ret (d_cmp (op_gEq rfl (hr.units)) (d_lc (own := [("thing", 7)]) (by rfl) scL_compared.nd (di_l rfl (d_lst (d_cons d_non (d_cons (d_var (pv 1)) (d_cons (d_ix rfl (d_var (pv 1)) d_int (fun _ _ => rfl)) (d_cons (d_pp (U := ev K) P_stages (hr.mono (by decide)) pass0 (d_var (pv 2))) (d_cons (d_str) (d_cons d_int (d_cons (d_var (pv 5)) d_nil))))))))) (blkOk_by (own := [("thing", 7)]) (N := ["source", "plan", "program", "same", "other", "near", "one", "thing"]) (sc := defScope sL_compared) (by decide +kernel)) (fun _ _ _ _ _ => (dgo_name (pg_name (i := 7) scL_compared.nd rfl (Or.inl rfl)) (by decide))) (fun _ _ _ _ _ => dts_one (d_tcmp (op_pgEq QE rfl T.nf_P (hr.mono (by decide))) (d_var (pv 2)) (d_var (pv 7)) (nomark _))) (fun _ _ _ _ _ => (d_var (pv 7)))) (d_lst d_nil) (nomark _))))))))), body_ok (N := ["source", "plan", "program", "same", "other", "near", "one", "thing"]) (ps := []) h⟩), gm, F.kp, F.bindsN fun _ _ _ _ _ _ us hl => match us, hl with | [_, _, _], _ => rfl, .nil⟩
end
end K02
namespace K02
open PySem PySem.Spec PyProof.Rows L2 Lw
section
variable {P : Program} {w : World} {K : PySem.W.Frag} {mg : Str → Option Value} {base : Heap} {f : Addr} {fd : FuncData}
theorem sclaw : FnScope ["script", "start", "source", "turn", "plan", "program", "many", "stage", "odd", "look", "some", "near", "more", "bad", "value", "place"] ["script"] (defScope slaw) := ⟨rfl, rfl, rfl, by decide +kernel, rfl, by decide +kernel, by decide +kernel⟩
def W_law_1b_1 : WS := (wAsg (wFn S_L_source (wCons (wVar 0) (wCons (wVar 1) wNil))) (wgN 2))
def W_law_1b_2b_1 : WS := (wAsg (wFn S_L_plan (wCons (wVar 2) (wCons (wSlM (wFn S_L_mixed (wCons (wVar 2) (wCons (wLst (wCons (wC (.str "a")) (wCons (wC (.str "b")) (wCons (wC (.str "c")) (wCons (wC (.str "d")) wNil))))) wNil))) wNo (wPart (wC (.int 3)))) (wCons (wC (.int 6)) wNil)))) (wgN 4))
def W_law_1b_2b_2 : WS := (wPar 5 6 (wCons (wFn S_L_program (wCons (wVar 4) wNil)) (wCons (wCall gLen (wCons (wOp gIx (wVar 4) (wC (.int 1))) wNil)) wNil)))
def W_law_1b_2b_3b_1 : WS := (wIf (wNotT (wB (wFn S_L_asked_right (wCons (wVar 5) (wCons (wVar 4) (wCons (wC (.str "then")) (wCons (wVar 7) wNil))))))) (wRet (wC (.bl false)))
  wNext)
def W_law_1b_2b_3b : WS := W_law_1b_2b_3b_1
def W_law_1b_2b_3i : WI := (wiL (wLst (wCons (wTup (wCons (wC (.str "flat")) wNil)) (wCons (wTup (wCons (wC (.str "lots")) (wCons (wC (.int 2)) wNil))) (wCons (wTup (wCons (wC (.str "map")) (wCons (wC (.str "f")) wNil))) (wCons (wTup (wCons (wC (.str "take")) (wCons (wC (.int 4)) wNil))) (wCons (wTup (wCons (wC (.str "keep")) (wCons (wC (.str "abcdefgh")) wNil))) wNil)))))))
def W_law_1b_2b_3g : WG := (wgN 7)
def W_law_1b_2b_3 : WS := (wFor W_law_1b_2b_3i W_law_1b_2b_3g W_law_1b_2b_3b)
def W_law_1b_2b_4 : WS := (wIf (wOrT (wNotT (wB (wFn S_L_odd_right (wCons (wVar 5) (wCons (wVar 4) wNil))))) (wB (wOp gPgNe (wVar 5) (wFn S_L_program (wCons (wVar 4) wNil))))) (wRet (wC (.bl false)))
  wNext)
def W_law_1b_2b_5 : WS := (wAsg (wLst (wCons (wC .non) (wCons (wTup wNil) (wCons (wC (.str "0")) (wCons (wLstM (wCons (wC .non) wNil)) (wCons (wLstM (wCons (wC (.bl true)) wNil)) (wCons (wLstM (wCons (wC (.str "0")) wNil)) (wCons (wLstM (wCons (wOp gSub (wC (.int 0)) (wC (.int 1))) wNil)) (wCons (wLstM (wCons (wVar 6) wNil)) (wCons (wLstM (wCons (wC (.int 0)) (wCons (wC (.int 0)) wNil))) (wCons wDic0 (wCons (wC (.int 0)) (wCons (wTup (wCons (wC (.int 0)) wNil)) (wCons (wLstM (wCons (wLst (wCons (wC (.int 0)) wNil)) wNil)) (wCons (wLstM (wCons (wOp gPow (wC (.int 10)) (wC (.int 30))) wNil)) wNil))))))))))))))) (wgN 8))
def W_law_1b_2b_6b_1 : WS := (wAsg (wSlM (wFn S_L_mixed (wCons (wVar 2) (wCons (wRngL (wVar 6)) wNil))) wNo (wPart (wFn S_L_draw (wCons (wVar 2) (wCons (wOp gAdd (wVar 6) (wC (.int 1))) wNil))))) (wgN 10))
def W_law_1b_2b_6b_2 : WS := (wAsg (wFn S_L_draw (wCons (wVar 2) (wCons (wOp gAdd (wCall gLen (wCons (wVar 10) wNil)) (wC (.int 1))) wNil))) (wgN 11))
def W_law_1b_2b_6b_3 : WS := (wAsg (wFn S_L_pick (wCons (wVar 2) (wCons (wCat (wLst (wCons (wC .non) (wCons (wC (.bl true)) (wCons (wVar 6) (wCons (wOp gSub (wC (.int 0)) (wC (.int 1))) (wCons (wC (.str "0")) (wCons (wLst (wCons (wC (.int 0)) wNil)) wNil))))))) (wVar 10)) wNil))) (wgN 12))
def W_law_1b_2b_6b_4 : WS := (wAsg (wCatM (wCat (wCall gList (wCons (wSl (wVar 10) wNo (wPart (wVar 11))) wNil)) (wLst (wCons (wVar 12) wNil))) (wCall gList (wCons (wSl (wVar 10) (wPart (wVar 11)) wNo) wNil))) (wgN 13))
def W_law_1b_2b_6b_5 : WS := (wAsg (wFn S_L_pick (wCons (wVar 2) (wCons (wLst (wCons (wVar 10) (wCons (wVar 10) (wCons (wVar 13) (wCons (wVar 13) (wCons (wFn S_L_pick (wCons (wVar 2) (wCons (wVar 8) wNil))) wNil)))))) wNil))) (wgN 14))
def W_law_1b_2b_6b_6 : WS := (wIf (wNotT (wB (wFn S_L_asked_right (wCons (wVar 5) (wCons (wVar 4) (wCons (wC (.str "without")) (wCons (wVar 14) wNil))))))) (wRet (wC (.bl false)))
  wNext)
def W_law_1b_2b_6b : WS := (wSeq W_law_1b_2b_6b_1 (wSeq W_law_1b_2b_6b_2 (wSeq W_law_1b_2b_6b_3 (wSeq W_law_1b_2b_6b_4 (wSeq W_law_1b_2b_6b_5 W_law_1b_2b_6b_6)))))
def W_law_1b_2b_6i : WI := (wiR1 (wCons (wC (.int 6)) wNil))
def W_law_1b_2b_6g : WG := (wgN 9)
def W_law_1b_2b_6 : WS := (wFor W_law_1b_2b_6i W_law_1b_2b_6g W_law_1b_2b_6b)
def W_law_1b_2b_7b_1 : WS := (wIf (wNotT (wB (wFn S_L_asked_right (wCons (wVar 5) (wCons (wVar 4) (wCons (wC (.str "exchanged")) (wCons (wVar 15) wNil))))))) (wRet (wC (.bl false)))
  wNext)
def W_law_1b_2b_7b : WS := W_law_1b_2b_7b_1
def W_law_1b_2b_7i : WI := (wiL (wCat (wRngL (wVar 6)) (wLst (wCons (wC .non) (wCons (wC (.bl true)) (wCons (wC (.str "0")) (wCons (wOp gSub (wC (.int 0)) (wC (.int 1))) (wCons (wVar 6) (wCons (wLstM (wCons (wC (.int 0)) wNil)) (wCons (wOp gPow (wC (.int 10)) (wC (.int 30))) wNil))))))))))
def W_law_1b_2b_7g : WG := (wgN 15)
def W_law_1b_2b_7 : WS := (wFor W_law_1b_2b_7i W_law_1b_2b_7g W_law_1b_2b_7b)
def W_law_1b_2b_8 : WS := (wIf (wNotT (wB (wFn S_L_compared (wCons (wVar 2) (wCons (wVar 4) (wCons (wVar 5) wNil)))))) (wRet (wC (.bl false)))
  wNext)
def W_law_1b_2b : WS := (wSeq W_law_1b_2b_1 (wSeq W_law_1b_2b_2 (wSeq W_law_1b_2b_3 (wSeq W_law_1b_2b_4 (wSeq W_law_1b_2b_5 (wSeq W_law_1b_2b_6 (wSeq W_law_1b_2b_7 W_law_1b_2b_8)))))))
def W_law_1b_2i : WI := (wiR1 (wCons (wC (.int 3)) wNil))
def W_law_1b_2g : WG := (wgN 3)
def W_law_1b_2 : WS := (wFor W_law_1b_2i W_law_1b_2g W_law_1b_2b)
def W_law_1b : WS := (wSeq W_law_1b_1 W_law_1b_2)
def W_law_1i : WI := (wiR1 (wCons (wCall gMax2 (wCons (wC (.int 1)) (wCons (wCall gMin2 (wCons (wC (.int 4)) (wCons (wCall gLen (wCons (wVar 0) wNil)) wNil))) wNil))) wNil))
def W_law_1g : WG := (wgN 1)
def W_law_1 : WS := (wFor W_law_1i W_law_1g W_law_1b)
def W_law_2 : WS := (wRet (wC (.bl true)))
def W_law : WS := (wSeq W_law_1 W_law_2)
def S_law : DSpec := bodyS 16 1 W_law
theorem o_law (F : FnP K "law" "law" slaw f fd) (T : Td P w K mg base) (D_L_source : DefOk P w K mg base CX0 1 "_law_source" ["script", "start"] [] (spD (ev K) S_L_source)) (D_L_mixed : DefOk P w K mg base CX0 2 "_law_mixed" ["stream", "things"] [] (spD (ev K) S_L_mixed)) (D_L_draw : DefOk P w K mg base CX0 1 "_law_draw" ["stream", "span"] [] (spD (ev K) S_L_draw)) (D_L_pick : DefOk P w K mg base CX0 2 "_law_pick" ["stream", "things"] [] (spD (ev K) S_L_pick)) (D_L_plan : DefOk P w K mg base CX0 12 "_law_plan" ["stream", "pool", "most"] [] (spD (ev K) S_L_plan)) (D_L_program : DefOk P w K mg base CX0 10 "_law_program" ["plan"] [] (spD (ev K) S_L_program)) (D_L_asked_right : DefG P w K mg base CX0 48 "_law_asked_right" ["program", "plan", "word", "value"] [] (spD (ev K) S_L_asked_right)) (D_L_odd_right : DefG P w K mg base CX0 48 "_law_odd_right" ["program", "plan"] [] (spD (ev K) S_L_odd_right)) (D_L_compared : DefOk P w K mg base CX0 48 "_law_compared" ["source", "plan", "program"] [] (spD (ev K) S_L_compared)) (QE : EqAll P w K mg base) : FnG P w K mg base CX0 50 f fd ["script"] (spD (ev K) S_law) := by
  exact okG F sclaw (fun vs H Q E h => body_len h) (fun cdv A outer s H vs Q E hg hr h => ⟨_, PSs.nox (ds_cons (ds_for PassesOwn.never rfl (di_r1 (pi_range1 (by rfl) T.z_range) (d_cons (d_callB (c_max2 rfl) (by rfl) T.z_max (by decide +kernel) (d_cons d_int (d_cons (d_callB (c_min2 rfl) (by rfl) T.z_min (by decide +kernel) (d_cons d_int (d_cons (d_callB (c_len rfl) (by rfl) T.z_len (by decide +kernel) (d_cons (d_var (pv 0)) d_nil)) d_nil))) d_nil))) d_nil)) (dg_name (pg_name (i := 1) sclaw.nd rfl (.inl rfl)))
  (ds_cons (ds_set (i := 2) sclaw.nd rfl (.inl rfl) (d_fn (E := fun _ _ _ => False) D_L_source (hr.mono (by decide)) pass0 (d_cons (d_var (pv 0)) (d_cons (d_var (pv 1)) d_nil))))
  (ds_one (ds_for PassesOwn.never rfl (di_r1 (pi_range1 (by rfl) T.z_range) (d_cons d_int d_nil)) (dg_name (pg_name (i := 3) sclaw.nd rfl (.inl rfl)))
  (ds_cons (ds_set (i := 4) sclaw.nd rfl (.inl rfl) (d_fn (E := fun _ _ _ => False) D_L_plan (hr.mono (by decide)) pass0 (d_cons (d_var (pv 2)) (d_cons (d_slM rfl (d_fn (E := fun _ _ _ => False) D_L_mixed (hr.mono (by decide)) pass0 (d_cons (d_var (pv 2)) (d_cons (d_lst (d_cons (d_str) (d_cons (d_str) (d_cons (d_str) (d_cons (d_str) d_nil))))) d_nil))) d_no (d_part d_int)) (d_cons d_int d_nil)))))
  (ds_cons (ds_par (i := 5) (j := 6) (by rfl) sclaw.nd rfl rfl (by decide) rfl rfl (d_cons (d_fn (E := fun _ _ _ => False) D_L_program (hr.mono (by decide)) pass0 (d_cons (d_var (pv 4)) d_nil)) (d_cons (d_callB (c_len rfl) (by rfl) T.z_len (by decide +kernel) (d_cons (d_ix rfl (d_var (pv 4)) d_int (fun _ _ => rfl)) d_nil)) d_nil)) (by rfl))
  (ds_cons (ds_for PassesOwn.never rfl (di_l rfl (d_lst (d_cons (d_tup (d_cons (d_str) d_nil)) (d_cons (d_tup (d_cons (d_str) (d_cons d_int d_nil))) (d_cons (d_tup (d_cons (d_str) (d_cons (d_str) d_nil))) (d_cons (d_tup (d_cons (d_str) (d_cons d_int d_nil))) (d_cons (d_tup (d_cons (d_str) (d_cons (d_str) d_nil))) d_nil))))))) (dg_name (pg_name (i := 7) sclaw.nd rfl (.inl rfl)))
  (ds_one (ds_if (d_notT (d_val (d_g (E := fun _ _ _ => False) D_L_asked_right hg (hr.mono (by decide)) pass0 (d_cons (d_var (pv 5)) (d_cons (d_var (pv 4)) (d_cons (d_str) (d_cons (d_var (pv 7)) d_nil))))))) (ds_one (ds_ret d_bl))
  ds_nil)))
  (ds_cons (ds_if (d_pt (d_orT (d_notT (d_val (d_g (E := fun _ _ _ => False) D_L_odd_right hg (hr.mono (by decide)) pass0 (d_cons (d_var (pv 5)) (d_cons (d_var (pv 4)) d_nil))))) (d_or1 (d_tcmp (op_pgNe QE rfl T.ne_P T.ob_P (hr.mono (by decide))) (d_var (pv 5)) (d_fn (E := fun _ _ _ => False) D_L_program (hr.mono (by decide)) pass0 (d_cons (d_var (pv 4)) d_nil)) (nomark _))))) (ds_one (ds_ret d_bl))
  ds_nil)
  (ds_cons (ds_set (i := 8) sclaw.nd rfl (.inl rfl) (d_lst (d_cons d_non (d_cons (d_tup d_nil) (d_cons (d_str) (d_cons (d_lstM (d_cons d_non d_nil)) (d_cons (d_lstM (d_cons d_bl d_nil)) (d_cons (d_lstM (d_cons d_str d_nil)) (d_cons (d_lstM (d_cons (d_op op_gSub d_int d_int) d_nil)) (d_cons (d_lstM (d_cons (d_var (pv 6)) d_nil)) (d_cons (d_lstM (d_cons d_int (d_cons d_int d_nil))) (d_cons d_dic0 (d_cons d_int (d_cons (d_tup (d_cons d_int d_nil)) (d_cons (d_lstM (d_cons (d_lst (d_cons d_int d_nil)) d_nil)) (d_cons (d_lstM (d_cons (d_op op_gPow d_int d_int) d_nil)) d_nil))))))))))))))))
  (ds_cons (ds_for PassesOwn.never rfl (di_r1 (pi_range1 (by rfl) T.z_range) (d_cons d_int d_nil)) (dg_name (pg_name (i := 9) sclaw.nd rfl (.inl rfl)))
  (ds_cons (ds_set (i := 10) sclaw.nd rfl (.inl rfl) (d_slM rfl (d_fn (E := fun _ _ _ => False) D_L_mixed (hr.mono (by decide)) pass0 (d_cons (d_var (pv 2)) (d_cons (d_listR rfl (by rfl) (by rfl) T.z_list (by rfl) T.z_range (d_var (pv 6))) d_nil))) d_no (d_part (d_fn (E := fun _ _ _ => False) D_L_draw (hr.mono (by decide)) pass0 (d_cons (d_var (pv 2)) (d_cons (d_op (op_gAdd rfl) (d_var (pv 6)) d_int) d_nil))))))
  (ds_cons (ds_set (i := 11) sclaw.nd rfl (.inl rfl) (d_fn (E := fun _ _ _ => False) D_L_draw (hr.mono (by decide)) pass0 (d_cons (d_var (pv 2)) (d_cons (d_op (op_gAdd rfl) (d_callB (c_len rfl) (by rfl) T.z_len (by decide +kernel) (d_cons (d_var (pv 10)) d_nil)) d_int) d_nil))))
  (ds_cons (ds_set (i := 12) sclaw.nd rfl (.inl rfl) (d_fn (E := fun _ _ _ => False) D_L_pick (hr.mono (by decide)) pass0 (d_cons (d_var (pv 2)) (d_cons (d_cat rfl (d_lst (d_cons d_non (d_cons d_bl (d_cons (d_var (pv 6)) (d_cons (d_op op_gSub d_int d_int) (d_cons (d_str) (d_cons (d_lst (d_cons d_int d_nil)) d_nil))))))) (d_var (pv 10))) d_nil))))
  (ds_cons (ds_set (i := 13) sclaw.nd rfl (.inl rfl) (d_catM (d_cat rfl (d_callTyL call_list_of (m_list rfl) (by rfl) T.z_list (by decide +kernel) (d_cons (d_sl rfl (d_var (pv 10)) d_no (d_part (d_var (pv 11)))) d_nil)) (d_lst (d_cons (d_var (pv 12)) d_nil))) (d_callTyL call_list_of (m_list rfl) (by rfl) T.z_list (by decide +kernel) (d_cons (d_sl rfl (d_var (pv 10)) (d_part (d_var (pv 11))) d_no) d_nil))))
  (ds_cons (ds_set (i := 14) sclaw.nd rfl (.inl rfl) (d_fn (E := fun _ _ _ => False) D_L_pick (hr.mono (by decide)) pass0 (d_cons (d_var (pv 2)) (d_cons (d_lst (d_cons (d_var (pv 10)) (d_cons (d_var (pv 10)) (d_cons (d_var (pv 13)) (d_cons (d_var (pv 13)) (d_cons (d_fn (E := fun _ _ _ => False) D_L_pick (hr.mono (by decide)) pass0 (d_cons (d_var (pv 2)) (d_cons (d_var (pv 8)) d_nil))) d_nil)))))) d_nil))))
  (ds_one (ds_if (d_notT (d_val (d_g (E := fun _ _ _ => False) D_L_asked_right hg (hr.mono (by decide)) pass0 (d_cons (d_var (pv 5)) (d_cons (d_var (pv 4)) (d_cons (d_str) (d_cons (d_var (pv 14)) d_nil))))))) (ds_one (ds_ret d_bl))
  ds_nil))))))))
  (ds_cons (ds_for PassesOwn.never rfl (di_l rfl (d_cat rfl (d_listR rfl (by rfl) (by rfl) T.z_list (by rfl) T.z_range (d_var (pv 6))) (d_lst (d_cons d_non (d_cons d_bl (d_cons (d_str) (d_cons (d_op op_gSub d_int d_int) (d_cons (d_var (pv 6)) (d_cons (d_lstM (d_cons d_int d_nil)) (d_cons (d_op op_gPow d_int d_int) d_nil)))))))))) (dg_name (pg_name (i := 15) sclaw.nd rfl (.inl rfl)))
  (ds_one (ds_if (d_notT (d_val (d_g (E := fun _ _ _ => False) D_L_asked_right hg (hr.mono (by decide)) pass0 (d_cons (d_var (pv 5)) (d_cons (d_var (pv 4)) (d_cons (d_str) (d_cons (d_var (pv 15)) d_nil))))))) (ds_one (ds_ret d_bl))
  ds_nil)))
  (ds_one (ds_if (d_notT (d_val (d_fn (E := fun _ _ _ => False) D_L_compared (hr.mono (by decide)) pass0 (d_cons (d_var (pv 2)) (d_cons (d_var (pv 4)) (d_cons (d_var (pv 5)) d_nil)))))) (ds_one (ds_ret d_bl))
  ds_nil)))))))))))))
  (ds_one (ds_ret d_bl))), body_ok (N := ["script", "start", "source", "turn", "plan", "program", "many", "stage", "odd", "look", "some", "near", "more", "bad", "value", "place"]) (ps := []) h⟩)
end
end K02
namespace K02
open PySem PySem.Spec PyProof.Rows L2 Lw
/-- is it a place -/
def plB (d : Dt) (n : Int) : Bool := match d with
  | .int i => decide (0 ≤ i) && decide (i < n)
  | _ => false
theorem plB_int {d : Dt} {n : Int} (h : plB d n = true) : ∃ i, d = .int i ∧ 0 ≤ i ∧ i < n := by
  unfold plB at h
  split at h
  · rename_i i
    obtain ⟨h1, h2⟩ := Bool.and_eq_true_iff.mp h
    exact ⟨i, rfl, of_decide_eq_true h1, of_decide_eq_true h2⟩
  · cases h
theorem ky_int {M : Mh} {d : Dt} (h : ky M d = some (.b .int)) : ∃ i, d = .int i := by
  unfold ky at h
  split at h
  any_goals (first | cases h; done | skip)
  · exact ⟨_, rfl⟩
  · split at h <;> cases h
theorem plB_no {M : Mh} {d : Dt} {k : Kd} {n : Int} (h : ky M d = some (.b k)) (hk : k ≠ .int) : plB d n = false := by
  unfold plB
  split
  · cases h
    exact absurd rfl hk
  · rfl
theorem place_read {d : Dt} {n : Int} {M : Mh} {R : Dt → Mh → Prop} {k : Kd} (hk : ky M d = some (.b k)) (w : R (.bl (plB d n)) M) : (wAnd (wIsi clss .int (wVar 0)) (wAnd (wNot (wIsi clss .bl (wVar 0))) (wChain gLe gLt (wC (.int 0)) (wVar 0) (wVar 1)))) [some d, some (.int n)] M R := by
  by_cases e : k = .int
  · subst e
    obtain ⟨i, rfl⟩ := ky_int hk
    simp only [wAnd, wNot, wIsi, wVar, wChain, wC, gLe, gLt, gInt, List.getElem?_cons_zero, List.getElem?_cons_succ, hk]
    simp only [Kd.is, Bool.not_false]
    have e : plB (.int i) n = (decide (0 ≤ i) && decide (i < n)) := rfl
    rw [e] at w
    cases q : decide (0 ≤ i) with
    | true => rw [q] at w; exact w
    | false => rw [q] at w; exact w
  · rw [plB_no hk e] at w
    simp only [wAnd, wNot, wIsi, wVar, wChain, wC, List.getElem?_cons_zero, List.getElem?_cons_succ, hk]
    cases k <;> first | exact absurd rfl e | exact w
theorem isPos_read {d : Dt} {n : Int} {M : Mh} {R : Dt → Mh → Prop} {Rx} {k : Kd} (hk : ky M d = some (.b k)) (w : R (.bl (plB d n)) M) : S_is_position [d, .int n] M R Rx := ⟨rfl, place_read hk w⟩
theorem isPlace_read {d : Dt} {n : Int} {M : Mh} {R : Dt → Mh → Prop} {Rx} {k : Kd} (hk : ky M d = some (.b k)) (w : R (.bl (plB d n)) M) : S_L_is_place [d, .int n] M R Rx := ⟨rfl, place_read hk w⟩
/-! the first stage that can't stand -/
def fbD : Option Nat → Dt
  | none => .non
  | some n => .int (n : Nat)
theorem dpS_word (s : Sx) : ∃ (w : Str) (l : List Dt), dpS s = .tup (.str w :: l) ∧ (formS s → (w = "flat" ↔ s.isFlat = true)) := by
  cases s with
  | nm w x =>
    refine ⟨w, [.str x], by rw [dpS], fun h => ⟨fun e => ?_, fun e => by simp [Sx.isFlat] at e⟩⟩
    subst e
    exact absurd rfl (words_apart _ (List.mem_append_left _ (show ("flat" : Str) ∈ named from h.1))).1
  | nu w n =>
    refine ⟨w, [.int n], by rw [dpS], fun h => ⟨fun e => ?_, fun e => by simp [Sx.isFlat] at e⟩⟩
    subst e
    exact absurd rfl (words_apart _ (List.mem_append_right _ (show ("flat" : Str) ∈ counted from h.1))).1
  | flat => exact ⟨"flat", [], by rw [dpS], fun _ => ⟨fun _ => rfl, fun _ => rfl⟩⟩
  | zip y r => exact ⟨"zip", _, by rw [dpS], fun _ => ⟨fun e => absurd e (by decide +kernel), fun e => by simp [Sx.isFlat] at e⟩⟩
theorem first_loop {M : Mh} {R : De} (x : Dt) : ∀ (r : List Sx) (n : Nat) (d : Int) (a b : Option Dt), FormR r → 0 ≤ d → (∀ s ∈ r, rkS s ≤ 4) → (∀ e, fb d n r = some e → R.rt (.int (e : Nat)) M) → (fb d n r = none → ∀ δ : Sl, R.nx δ M) →
    forL W_L_first_bad_2g W_L_first_bad_2b (enm n (dpR r)) [some x, some (.int d), a, b] M R
  | [], n, d, a, b, _, _, _, _, h2 => by
    rw [dpR]
    exact h2 rfl _
  | s :: r, n, d, a, b, hf, hd, hk, h1, h2 => by
    rw [dpR, enm, forL]
    rw [fb] at h1 h2
    obtain ⟨w, l, e, hw⟩ := dpS_word s
    have hw := hw (hf s (by simp))
    rw [e]
    simp only [W_L_first_bad_2g, W_L_first_bad_2b, wVar, wC, wOp, wB, wNotT, wAndT, wOrT, wNot, wAnd, wOr, wIfE, wNil, wCons, sq, wStar, wTup, wLst, wLstM, gAdd, Lw.gSub, gMul, gInt, gLt, gLe, gGt, gGe, gEq, gNe, eqD, gIsN, gNotN, gIn, gNotIn, gInB, gIx, wNo, wPart, sql, wSl, wCall, gLen, gList, gListM, gTuple, gInt1, gMax2, gMin2, ky, wIsi, clss, wFld, wBmL, wBmS, gApp, gPop, gPopAt, gExt, wNext, wSeq, wBreak, wCont, wExpr, wRet, wRetN, wFz, wIf, wgN, wgNil, wgCons, wgTup, wgLst, wAsg, wPar, wPar3, wSetF, wiL, wiT, wiC, wiR1, wiR2, wiE, wFor, wWhile, wYes, wLc, wFn, wMe, bodyS, wRaise, wNeg, wChain, gStarts, gLstrip, gSplit, gJoin, gIntS, gStr, gMulS, wCat, wTryR, wTryAs, wSetX, wRep, wCatM, wDic0, fl, tv, wMkP, wMkP1, xMkP, wRetX, wRetW, xOf, xIf, xFn, xMe, wTry3, wLenSet, wLcP, wSlM, wRngL, gPow, wiEA, gRepr, gPgEq, gPgNe, gTpNe, gLsEq, wIsi2, wIsC, wPp, wRaise, List.getElem?_cons_zero, List.getElem?_cons_succ, List.set_cons_zero, List.set_cons_succ]
    simp only [e, atI_zero, eqD, true_and, List.length_cons, List.length_nil]
    have go : ¬ (s.isFlat = true ∧ d = 0) → S_L_height [.int d, .tup (.str w :: l)] M (fun x_1 M1 => forL (wgTup 2 (wgCons (wgN 2) (wgCons (wgN 3) wgNil))) W_L_first_bad_2b (enm (n + 1) (dpR r)) [some x, some x_1, some (.int n), some (.tup (.str w :: l))] M1 R) nox := fun g => by
      have o : okS d s := okS_of_form (hf s (by simp)) fun q => by
        have : ¬ d = 0 := fun z => g ⟨q, z⟩
        omega
      refine ⟨d, s, by rw [e], hk s (by simp), o, ?_⟩
      rw [if_neg g] at h1 h2
      exact first_loop x r (n + 1) (hgS d s) _ _ (fun t ht => hf t (by simp [ht])) (hgS_pos o hd) (fun t ht => hk t (by simp [ht])) h1 h2
    by_cases g1 : w = "flat"
    · rw [decide_eq_true g1]
      by_cases g2 : d = 0
      · rw [decide_eq_true g2]
        rw [if_pos ⟨hw.mp g1, g2⟩] at h1
        exact h1 n rfl
      · rw [decide_eq_false g2]
        exact go fun z => g2 z.2
    · rw [decide_eq_false g1]
      exact go fun z => g1 (hw.mpr z.1)
theorem first_read {x : Str} {r : List Sx} {M : Mh} {R : Dt → Mh → Prop} {Rx} (hf : FormR r) (hk : ∀ s ∈ r, rkS s ≤ 4) (w : R (fbD (fb 0 0 r)) M) : S_L_first_bad [dpP x r] M R Rx := by
  refine ⟨rfl, ?_⟩
  show W_L_first_bad [some (dpP x r), none, none, none] M _
  simp only [W_L_first_bad, W_L_first_bad_1, W_L_first_bad_2, W_L_first_bad_3, W_L_first_bad_2i, wFor, wVar, wC, wOp, wB, wNotT, wAndT, wOrT, wNot, wAnd, wOr, wIfE, wNil, wCons, sq, wStar, wTup, wLst, wLstM, gAdd, Lw.gSub, gMul, gInt, gLt, gLe, gGt, gGe, gEq, gNe, eqD, gIsN, gNotN, gIn, gNotIn, gInB, gIx, wNo, wPart, sql, wSl, wCall, gLen, gList, gListM, gTuple, gInt1, gMax2, gMin2, ky, wIsi, clss, wFld, wBmL, wBmS, gApp, gPop, gPopAt, gExt, wNext, wSeq, wBreak, wCont, wExpr, wRet, wRetN, wFz, wIf, wgN, wgNil, wgCons, wgTup, wgLst, wAsg, wPar, wPar3, wSetF, wiL, wiT, wiC, wiR1, wiR2, wiE, wFor, wWhile, wYes, wLc, wFn, wMe, bodyS, wRaise, wNeg, wChain, gStarts, gLstrip, gSplit, gJoin, gIntS, gStr, gMulS, wCat, wTryR, wTryAs, wSetX, wRep, wCatM, wDic0, fl, tv, wMkP, wMkP1, xMkP, wRetX, wRetW, xOf, xIf, xFn, xMe, wTry3, wLenSet, wLcP, wSlM, wRngL, gPow, wiEA, gRepr, gPgEq, gPgNe, gTpNe, gLsEq, wIsi2, wIsC, wPp, wRaise, List.getElem?_cons_zero, List.getElem?_cons_succ, List.set_cons_zero, List.set_cons_succ, dpP]
  simp only [atI_one]
  refine first_loop _ r 0 0 none none hf (by decide) hk (fun e q => ?_) fun q _ => ?_
  · rw [q] at w; exact w
  · rw [q] at w; exact w
end K02
namespace K02
open PySem PySem.Spec PyProof.Rows L2 Lw
theorem bls_map {α : Type} (f : α → Bool) : ∀ l : List α, bls (l.map fun e => .bl (f e)) = some (l.map f)
  | [] => rfl
  | a :: l => by
    rw [List.map_cons, bls, bls_map f l]
    rfl
theorem dis_of {n : Int} : ∀ {l : List Dt}, l.all (fun e => plB e n) = true → ∃ ns : List Int, dis l = some ns ∧ l = ns.map Dt.int ∧ ∀ i ∈ ns, 0 ≤ i ∧ i < n
  | [], _ => ⟨[], rfl, rfl, fun _ h => nomatch h⟩
  | d :: l, h => by
    rw [List.all_cons, Bool.and_eq_true] at h
    obtain ⟨i, rfl, h1, h2⟩ := plB_int h.1
    obtain ⟨ns, e1, e2, e3⟩ := dis_of h.2
    refine ⟨i :: ns, by rw [dis, e1]; rfl, by rw [List.map_cons, ← e2], fun j hj => ?_⟩
    rcases List.mem_cons.mp hj with e | e
    · subst e; exact ⟨h1, h2⟩
    · exact e3 j e
/-- the positions, if all is well -/
def okPos (l : List Dt) (n : Int) : Option (List Int) := if l.all (fun e => plB e n) = true then match dis l with
    | some ns => if ndup ns = ns.length then some ns else none
    | none => none
  else none
def keepP (ns : List Int) (i : Nat) : Bool := !(inV (.int (i : Nat)) (ns.map V.int))
theorem tv_ints (ns : List Int) : (ns.map Dt.int).map tv = ns.map V.int := by
  rw [List.map_map]
  rfl
theorem fl_ints (ns : List Int) : (ns.map Dt.int).all fl = true := by
  induction ns with
  | nil => rfl
  | cons i ns ih => rw [List.map_cons, List.all_cons, ih]; rfl
/-- what a row that is handed to Program gives -/
def Outc (x : Str) (r : List Sx) (R : Dt → Mh → Prop) (Rx : Rxx) (M : Mh) : Prop := match fb 0 0 r with
  | none => R (dgP x r) M
  | some m => Rx "BadStage" "position" (.int (m : Nat)) M
theorem outc_row {x : Str} {r : List Sx} {R : Dt → Mh → Prop} {Rx : Rxx} {M : Mh} {d : Dt} (h : RowOk x r) (hq : sq M d = some (dgR r)) (w : Outc x r R Rx M) :
    ∃ y d' its, [Dt.str x, d] = [.str y, d'] ∧ y ∈ sources ∧ sq M d' = some its ∧ ((6 < its.length ∧ Rx "BadStages" "value" d' M) ∨ (its.length ≤ 6 ∧
      ((∃ r, its = dgR r ∧ PlanOk y r ∧ R (dgP y r) M) ∨ ∃ r0 e more, its = dgR r0 ++ e :: more ∧ PlanOk y r0 ∧ NoSt (y :: lvR r0) (hgR 0 r0) e ∧ Rx "BadStage" "position" (.int r0.length) M))) := by
  refine ⟨x, d, dgR r, rfl, h.ls.2 x (by simp), hq, .inr ⟨by rw [dgR_len]; exact h.len, ?_⟩⟩
  unfold Outc at w
  cases q : fb 0 0 r with
  | none =>
    rw [q] at w
    exact .inl ⟨r, rfl, h.plan q, w⟩
  | some m =>
    rw [q] at w
    obtain ⟨r0, r1, rfl, h1, h2, h3⟩ := fb_some h.form (by decide) q
    have h0 := h.sub (List.sublist_append_left r0 (.flat :: r1))
    refine .inr ⟨r0, dgS .flat, dgR r1, by rw [dgR_app, dgR], ⟨h1, h0.len, h0.ls⟩, .inr (.inl ⟨rfl, by rw [h2]; decide⟩), ?_⟩
    rw [h3, Nat.zero_add] at w
    exact w
theorem pg_form (x : Str) (r : List Sx) : dgP x r = pgD (.lst (dints (hgs 0 r))) x (dstrs (lvR r)) (dgR r) := rfl
theorem source_read {x : Str} {r : List Sx} {M : Mh} {R : Dt → Mh → Prop} {Rx} (w : R (.str x) M) : S_Program_source [dgP x r] M R Rx := src_pg w
/-! then -/
theorem then_rd {x : Str} {r : List Sx} {d : Dt} {M : Mh} {R : Dt → Mh → Prop} {Rx : Rxx} (hl : r.length ≤ 6) (w : ∃ y d' its, [Dt.str x, .lst (dgR r ++ [d])] = [.str y, d'] ∧ y ∈ sources ∧ sq M d' = some its ∧ ((6 < its.length ∧ Rx "BadStages" "value" d' M) ∨ (its.length ≤ 6 ∧
      ((∃ r, its = dgR r ∧ PlanOk y r ∧ R (dgP y r) M) ∨ ∃ r0 e more, its = dgR r0 ++ e :: more ∧ PlanOk y r0 ∧ NoSt (y :: lvR r0) (hgR 0 r0) e ∧ Rx "BadStage" "position" (.int r0.length) M)))) : S_Program_then [dgP x r, d] M R Rx := by
  refine ⟨rfl, ?_⟩
  show W_Program_then [some (dgP x r), some d] M _
  simp only [W_Program_then, wVar, wC, wOp, wB, wNotT, wAndT, wOrT, wNot, wAnd, wOr, wIfE, wNil, wCons, sq, wStar, wTup, wLst, wLstM, gAdd, Lw.gSub, gMul, gInt, gLt, gLe, gGt, gGe, gEq, gNe, eqD, gIsN, gNotN, gIn, gNotIn, gInB, gIx, wNo, wPart, sql, wSl, wCall, gLen, gList, gListM, gTuple, gInt1, gMax2, gMin2, ky, wIsi, clss, wFld, wBmL, wBmS, gApp, gPop, gPopAt, gExt, wNext, wSeq, wBreak, wCont, wExpr, wRet, wRetN, wFz, wIf, wgN, wgNil, wgCons, wgTup, wgLst, wAsg, wPar, wPar3, wSetF, wiL, wiT, wiC, wiR1, wiR2, wiE, wFor, wWhile, wYes, wLc, wFn, wMe, bodyS, wRaise, wNeg, wChain, gStarts, gLstrip, gSplit, gJoin, gIntS, gStr, gMulS, wCat, wTryR, wTryAs, wSetX, wRep, wCatM, wDic0, fl, tv, wMkP, wMkP1, xMkP, wRetX, wRetW, xOf, xIf, xFn, xMe, wTry3, wLenSet, wLcP, wSlM, wRngL, gPow, wiEA, gRepr, gPgEq, gPgNe, gTpNe, gLsEq, wIsi2, wIsC, wPp, wRaise, List.getElem?_cons_zero, List.getElem?_cons_succ, List.set_cons_zero, List.set_cons_succ]
  rw [pg_form]
  refine ⟨rfl, src_pg ?_⟩
  simp only [pgD, wFld, wVar, List.getElem?_cons_zero, List.getElem?_cons_succ, sq, sql, true_and, List.append_nil]
  refine ⟨?_, w⟩
  rw [List.length_append, dgR_len]
  exact szle (by simp only [List.length_cons, List.length_nil]; omega)
theorem then_full {x : Str} {r : List Sx} {d : Dt} {M : Mh} {R : Dt → Mh → Prop} {Rx : Rxx} (h : PlanOk x r) (hl : r.length = 6) (w : Rx "BadStages" "value" (.lst (dgR r ++ [d])) M) : S_Program_then [dgP x r, d] M R Rx :=
  then_rd h.2.1 ⟨x, _, _, rfl, h.2.2.2 x (by simp), rfl, .inl ⟨by rw [List.length_append, dgR_len, hl]; simp, w⟩⟩
theorem then_no {x : Str} {r : List Sx} {d : Dt} {M : Mh} {R : Dt → Mh → Prop} {Rx : Rxx} (h : PlanOk x r) (hl : r.length < 6) (n : NoSt (x :: lvR r) (hgR 0 r) d) (w : Rx "BadStage" "position" (.int r.length) M) : S_Program_then [dgP x r, d] M R Rx :=
  then_rd h.2.1 ⟨x, _, _, rfl, h.2.2.2 x (by simp), rfl, .inr ⟨by rw [List.length_append, dgR_len]; simp only [List.length_cons, List.length_nil]; omega, .inr ⟨r, d, [], rfl, h, n, w⟩⟩⟩
theorem then_row {x : Str} {r : List Sx} {s : Sx} {M : Mh} {R : Dt → Mh → Prop} {Rx : Rxx} (h : PlanOk x r) (g : RowOk x (r ++ [s])) (w : Outc x (r ++ [s]) R Rx M) : S_Program_then [dgP x r, dgS s] M R Rx :=
  then_rd h.2.1 (outc_row g (by rw [dgR_snoc]; rfl) w)
/-! without -/
theorem lcP_pos {p : Addr} {full : List Dt} {M : Mh} {x : Str} {r : List Sx} {R : List Dt → Mh → Prop} (hM : M p = some (.lst full)) : ∀ (ds acc : List Dt), (∀ e ∈ ds, ∃ k, ky M e = some (.b k)) → R (acc ++ ds.map fun e => .bl (plB e r.length)) M →
    lcP p full (wgN 2) wYes (wFn S_is_position (wCons (wVar 2) (wCons (wCall gLen (wCons (wFld "Program" "row" 2 (wVar 0)) wNil)) wNil))) [some (dgP x r), some (.ptr p), none, none, none] ds acc M R
  | [], acc, _, w => ⟨hM, by rw [List.map_nil, List.append_nil] at w; exact w⟩
  | d :: ds, acc, h, w => by
    obtain ⟨k, hk⟩ := h d (by simp)
    refine ⟨hM, ?_⟩
    simp only [wgN, wYes, wFn, wCons, wNil, wVar, wCall, gLen, wFld, List.getElem?_cons_zero, List.getElem?_cons_succ, List.set_cons_zero, List.set_cons_succ, dgP, sq, true_and]
    refine isPos_read hk ?_
    rw [dgR_len]
    refine lcP_pos hM ds _ (fun e he => h e (by simp [he])) ?_
    rw [List.map_cons] at w
    rw [List.append_assoc]
    exact w
theorem lcL_keep {M : Mh} {a c : Option Dt} {v : Dt} {ns : List Int} {R : List Dt → Mh → Prop} (hq : sq M v = some (ns.map Dt.int)) (hs : ∀ z, v ≠ .str z) : ∀ (ds acc : List Dt) (n : Nat), R (acc ++ keepL (keepP ns) n ds) M →
    lcL (wgTup 2 (wgCons (wgN 3) (wgCons (wgN 4) wgNil))) (wB (wOp gNotIn (wVar 3) (wVar 1))) (wVar 4) [a, some v, c, none, none] (enm n ds) acc M R
  | [], acc, n, w => by
    rw [keepL, List.append_nil] at w
    exact w
  | d :: ds, acc, n, w => by
    rw [enm, lcL]
    simp only [wgTup, wgCons, wgN, wgNil, wB, wOp, wVar, gNotIn, List.getElem?_cons_zero, List.getElem?_cons_succ, List.set_cons_zero, List.set_cons_succ, List.length_cons, List.length_nil, true_and]
    unfold gInB
    split
    · exact absurd rfl (hs _)
    · simp only [hq]
      refine ⟨rfl, fl_ints ns, ?_⟩
      rw [tv_ints]
      rw [keepL] at w
      show (match keepP ns n with | true => _ | false => _)
      cases q : keepP ns n with
      | true =>
        rw [q, if_pos rfl] at w
        refine lcL_keep hq hs ds _ (n + 1) ?_
        rw [List.append_assoc]
        exact w
      | false =>
        rw [q] at w
        exact lcL_keep hq hs ds _ (n + 1) w
/-- what may be asked -/
structure El (d : Dt) : Prop where
  kd : ∃ k, ∀ M, ky M d = some (.b k)
  pd : ∃ p, py d = some p ∧ SmD 100 p ∧ p.depth ≤ 50
inductive VOk (M : Mh) : Dt → Prop
  | el {d : Dt} : El d → (∀ l, d ≠ .lst l) → VOk M d
  | lst {p : Addr} {l : List Dt} : M p = some (.lst l) → (∀ e ∈ l, El e) → l.length ≤ 40 → VOk M (.ptr p)
  | dic {p : Addr} : M p = some (.dic [] []) → VOk M (.ptr p)
theorem VOk.kd {M : Mh} {d : Dt} (h : VOk M d) : ∃ k, ky M d = some (.b k) := by
  cases h with
  | el h _ => obtain ⟨k, h⟩ := h.kd; exact ⟨k, h M⟩
  | lst h _ _ => exact ⟨.lst, by simp only [ky, h]⟩
  | dic h => exact ⟨.dic, by simp only [ky, h]⟩
/-- it is no list -/
theorem VOk.nolist {M : Mh} {d : Dt} (h : VOk M d) (n : sql M d = none) : ∃ k, ky M d = some (.b k) ∧ k ≠ .lst := by
  cases h with
  | el h hn =>
    obtain ⟨k, h⟩ := h.kd
    refine ⟨k, h M, ?_⟩
    rintro rfl
    have := h (fun _ => none)
    cases d with
    | lst l => exact hn l rfl
    | _ => simp [ky] at this
  | lst h _ _ => simp [sql, h] at n
  | dic h => exact ⟨.dic, by simp only [ky, h], by decide⟩
theorem isl_no {M : Mh} {d : Dt} {k : Kd} (hk : ky M d = some (.b k)) (n : k ≠ .lst) {R : Dt → Mh → Prop} (w : R (.bl false) M) {i : Nat} {δ : Sl} (hi : δ[i]? = some (some d)) : wIsi clss .lst (wVar i) δ M R := by
  simp only [wIsi, wVar, hi, hk]
  have : k.is .lst = false := by cases k <;> first | rfl | exact absurd rfl n
  rw [this]
  exact w
def WithO (x : Str) (r : List Sx) (d : Dt) (M : Mh) (R : Dt → Mh → Prop) (Rx : Rxx) : Prop := match (sql M d).bind fun l => okPos l r.length with
  | none => Rx "BadPositions" "value" d M
  | some ns => Outc x (keepL (keepP ns) 0 r) R Rx M
theorem without_read {x : Str} {r : List Sx} {d : Dt} {M : Mh} {R : Dt → Mh → Prop} {Rx : Rxx} (h : PlanOk x r) (v : VOk M d) (w : WithO x r d M R Rx) : S_Program_without [dgP x r, d] M R Rx := by
  refine ⟨rfl, ?_⟩
  show W_Program_without [some (dgP x r), some d, none, none, none] M _
  unfold WithO at w
  rcases q : sql M d with _ | l
  · obtain ⟨k, hk, hn⟩ := v.nolist q
    rw [q] at w
    simp only [W_Program_without, wSeq]
    simp only [W_Program_without_1, wIf, wOrT, wNotT, wB]
    refine isl_no hk hn ?_ rfl
    simp only [wRaise, wVar, List.getElem?_cons_zero, List.getElem?_cons_succ, Bool.not_false]
    exact w
  · obtain ⟨p, rfl, hM, hE⟩ : ∃ p, d = .ptr p ∧ M p = some (.lst l) ∧ ((∀ e ∈ l, El e) ∧ l.length ≤ 40) := by
      cases v with
      | el h hn =>
        obtain ⟨k, h⟩ := h.kd
        cases d with
        | lst l => exact absurd rfl (hn l)
        | ptr p => have := h (fun _ => none); simp [ky] at this
        | _ => simp [sql] at q
      | @lst p l' h1 h2 h3 =>
        simp only [sql, h1] at q
        cases q
        exact ⟨p, rfl, h1, h2, h3⟩
      | dic h1 => simp [sql, h1] at q
    have hky : ky M (.ptr p) = some (.b .lst) := by simp only [ky, hM]
    have hsq : sq M (.ptr p) = some l := by simp only [sq, sql, hM]
    rw [q] at w
    simp only [Option.bind_some, okPos] at w
    simp only [W_Program_without, wSeq]
    simp only [W_Program_without_1, wIf, wOrT, wNotT, wB, wIsi, wVar, List.getElem?_cons_zero, List.getElem?_cons_succ, hky, wCall, wCons, wNil, wLcP, hM, wipD, List.set_cons_zero, List.set_cons_succ]
    refine lcP_pos hM l [] (fun e he => by obtain ⟨k, hk⟩ := (hE.1 e he).kd; exact ⟨k, hk M⟩) ?_
    simp only [List.nil_append, gAll, bls_map]
    rw [List.all_map]
    cases g : l.all (fun e => plB e (r.length : Nat)) with
    | false =>
      rw [g] at w
      have e1 : (l.all ((fun b => b) ∘ fun e => plB e (r.length : Nat))) = false := g
      rw [e1]
      simp only [Bool.not_false, wRaise, wVar, List.getElem?_cons_zero, List.getElem?_cons_succ]
      exact w
    | true =>
      rw [g, if_pos rfl] at w
      have e1 : (l.all ((fun b => b) ∘ fun e => plB e (r.length : Nat))) = true := g
      rw [e1]
      simp only [Bool.not_true, wNext]
      obtain ⟨ns, d1, d2, d3⟩ := dis_of g
      have hln : l.length = ns.length := by rw [d2, List.length_map]
      rw [d1] at w
      simp only [W_Program_without_2, wIf, wB, wOp, wLenSet, wVar, List.getElem?_cons_zero, List.getElem?_cons_succ, q, d1, wCall, wCons, wNil, gLen, hsq, gNe, eqD]
      refine ⟨by omega, ?_⟩
      rw [hln]
      by_cases e : ndup ns = ns.length
      · simp only [if_pos e] at w
        rw [e]
        simp only [decide_true, Bool.not_true, wNext]
        simp only [W_Program_without_3, wRetX, xMkP, wCons, wPp, wVar, List.getElem?_cons_zero, List.getElem?_cons_succ]
        rw [pg_form]
        refine ⟨rfl, src_pg ?_⟩
        simp only [pgD, wFld, wVar, List.getElem?_cons_zero, List.getElem?_cons_succ, wLc, wiEA, wCons, wNil, true_and, wipD, List.set_cons_zero, List.set_cons_succ]
        refine ⟨by rw [enm_len, dgR_len]; exact szle (by have := h.2.1; omega), ?_⟩
        refine lcL_keep (ns := ns) (by rw [hsq, d2]) (fun z e => by cases e) (dgR r) [] 0 ?_
        rw [List.nil_append]
        refine outc_row ((RowOk.of h).sub (keepL_sub _ r 0)) ?_ w
        show some _ = some _
        rw [dgR_map, dgR_map, keepL_map]
      · simp only [if_neg e] at w
        have e2 : decide ((ndup ns : Int) = (ns.length : Int)) = false := decide_eq_false (by omega)
        rw [e2]
        simp only [Bool.not_false, wRaise, wVar, List.getElem?_cons_zero, List.getElem?_cons_succ]
        exact w
end K02
namespace K02
open PySem PySem.Spec PyProof.Rows L2 Lw
/-! exchanged -/
def exI (d : Dt) : Nat := match d with
  | .int i => i.toNat
  | _ => 0
def ExchO (x : Str) (r : List Sx) (d : Dt) (M : Mh) (R : Dt → Mh → Prop) (Rx : Rxx) : Prop := match plB d (r.length - 1 : Int) with
  | false => Rx "BadPositions" "value" d M
  | true => Outc x (exL (exI d) r) R Rx M
theorem atI_at {l : List Dt} {j : Nat} (h : j < l.length) : atI l (j : Int) = some l[j] := atI_nat (List.getElem?_eq_getElem h)
theorem exch_read {x : Str} {r : List Sx} {d : Dt} {M : Mh} {R : Dt → Mh → Prop} {Rx : Rxx} (h : PlanOk x r) (v : VOk M d) (w : ExchO x r d M R Rx) : S_Program_exchanged [dgP x r, d] M R Rx := by
  refine ⟨rfl, ?_⟩
  show W_Program_exchanged [some (dgP x r), some d, none, none, none] M _
  obtain ⟨k, hk⟩ := v.kd
  unfold ExchO at w
  simp only [W_Program_exchanged, wSeq]
  simp only [W_Program_exchanged_1, wIf, wNotT, wB, wFn, wOp, wCons, wNil, wVar, wCall, gLen, wFld, wC, Lw.gSub, List.getElem?_cons_zero, List.getElem?_cons_succ, dgP, sq, true_and, dgR_len]
  refine isPos_read hk ?_
  cases q : plB d (r.length - 1 : Int) with
  | false =>
    rw [q] at w
    simp only [Bool.not_false, wRaise, wVar, List.getElem?_cons_zero, List.getElem?_cons_succ]
    exact w
  | true =>
    rw [q] at w
    simp only [Bool.not_true, wNext]
    obtain ⟨i, rfl, h1, h2⟩ := plB_int q
    obtain ⟨j, rfl⟩ : ∃ j : Nat, i = (j : Int) := ⟨i.toNat, by omega⟩
    have hj : j + 1 < r.length := by omega
    have l1 : j < (dgR r).length := by rw [dgR_len]; omega
    have l2 : j + 1 < (dgR r).length := by rw [dgR_len]; omega
    have e1 : ((j : Int) + 1) = ((j + 1 : Nat) : Int) := by omega
    have e2 : ((j : Int) + 2) = ((j + 2 : Nat) : Int) := by omega
    simp only [W_Program_exchanged_2, W_Program_exchanged_3, W_Program_exchanged_4, wVar, wC, wOp, wB, wNotT, wAndT, wOrT, wNot, wAnd, wOr, wIfE, wNil, wCons, sq, wStar, wTup, wLst, wLstM, gAdd, Lw.gSub, gMul, gInt, gLt, gLe, gGt, gGe, gEq, gNe, eqD, gIsN, gNotN, gIn, gNotIn, gInB, gIx, wNo, wPart, sql, wSl, wCall, gLen, gList, gListM, gTuple, gInt1, gMax2, gMin2, ky, wIsi, clss, wFld, wBmL, wBmS, gApp, gPop, gPopAt, gExt, wNext, wSeq, wBreak, wCont, wExpr, wRet, wRetN, wFz, wIf, wgN, wgNil, wgCons, wgTup, wgLst, wAsg, wPar, wPar3, wSetF, wiL, wiT, wiC, wiR1, wiR2, wiE, wFor, wWhile, wYes, wLc, wFn, wMe, bodyS, wRaise, wNeg, wChain, gStarts, gLstrip, gSplit, gJoin, gIntS, gStr, gMulS, wCat, wTryR, wTryAs, wSetX, wRep, wCatM, wDic0, fl, tv, wMkP, wMkP1, xMkP, wRetX, wRetW, xOf, xIf, xFn, xMe, wTry3, wLenSet, wLcP, wSlM, wRngL, gPow, wiEA, gRepr, gPgEq, gPgNe, gTpNe, gLsEq, wIsi2, wIsC, wPp, wRaise, List.getElem?_cons_zero, List.getElem?_cons_succ, List.set_cons_zero, List.set_cons_succ, sq, sql, true_and, atI_at l1, e1, atI_at l2]
    refine src_pg (h := .lst (dints (hgs 0 r))) (t := dstrs (lvR r)) (l := dgR r) ?_
    have f1 : Lw.cutD (dgR r) none (some (j : Int)) = (dgR r).take j := Lw.cutD_to _ _
    have f2 : Lw.cutD (dgR r) (some ((j : Int) + 2)) none = (dgR r).drop (j + 2) := by rw [e2]; exact Lw.cutD_from _ _
    rw [f1, f2]
    simp only [List.append_nil]
    refine ⟨?_, ?_⟩
    · have := h.2.1
      refine szle ?_
      simp only [List.length_append, List.length_take, List.length_drop, List.length_cons, dgR_len]
      omega
    · have e3 : (dgR r).take j ++ (dgR r)[j + 1] :: (dgR r)[j] :: (dgR r).drop (j + 2) = dgR (exL j r) := by
        have z := exL_eq l2
        rw [dgR_map (exL j r), ← exL_map, ← dgR_map, z]
        simp
      rw [e3]
      exact outc_row ((RowOk.of h).perm (exL_perm hj)) rfl w
/-! what is told -/
def TOutc (x : Str) (r : List Sx) (R : Dt → Mh → Prop) (M : Mh) : Prop := match fb 0 0 r with
  | none => R (.tup [.str "made", dgP x r]) M
  | some m => R (.tup [.str "stage", .int (m : Nat)]) M
def toldK (R : Dt → Mh → Prop) : Rxx := fun c f v M' => ((c = "BadPositions" ∧ f = "value" ∧ R (.tup [.str "positions", v]) M') ∨ (c = "BadStages" ∧ f = "value" ∧ R (.tup [.str "stages", v]) M')) ∨ (c = "BadStage" ∧ f = "position" ∧ R (.tup [.str "stage", v]) M')
theorem told_outc {x : Str} {r : List Sx} {R : Dt → Mh → Prop} {M : Mh} (w : TOutc x r R M) : Outc x r (fun p M' => R (.tup [.str "made", p]) M') (toldK R) M := by
  unfold Outc
  unfold TOutc at w
  cases q : fb 0 0 r with
  | none => rw [q] at w; exact w
  | some m => rw [q] at w; exact .inr ⟨rfl, rfl, w⟩
theorem told_then {x : Str} {r : List Sx} {d : Dt} {M : Mh} {R : Dt → Mh → Prop} {Rx} (w : S_Program_then [dgP x r, d] M (fun p M' => R (.tup [.str "made", p]) M') (toldK R)) : S_L_told [dgP x r, .str "then", d] M R Rx := by
  refine ⟨rfl, ?_⟩
  show W_L_told [some (dgP x r), some (.str "then"), some d, none] M _
  simp only [W_L_told, wTry3, wSeq, wIf, wB, wOp, wVar, wC, gEq, eqD, wRetW, xMe, wCons, wNil, List.getElem?_cons_zero, List.getElem?_cons_succ, decide_true]
  exact ⟨rfl, w⟩
theorem told_other {x : Str} {r : List Sx} {d : Dt} {M : Mh} {R : Dt → Mh → Prop} {Rx} (w : S_Program_without [dgP x r, d] M (fun p M' => R (.tup [.str "made", p]) M') (toldK R)) : S_L_told [dgP x r, .str "without", d] M R Rx := by
  refine ⟨rfl, ?_⟩
  show W_L_told [some (dgP x r), some (.str "without"), some d, none] M _
  have e : decide (("without" : Str) = "then") = false := by decide +kernel
  simp only [W_L_told, wTry3, wSeq, wIf, wB, wOp, wVar, wC, gEq, eqD, wRetW, xIf, xMe, wCons, wNil, wNext, List.getElem?_cons_zero, List.getElem?_cons_succ, decide_true, e]
  exact ⟨rfl, w⟩
theorem told_exch {x : Str} {r : List Sx} {d : Dt} {M : Mh} {R : Dt → Mh → Prop} {Rx} (w : S_Program_exchanged [dgP x r, d] M (fun p M' => R (.tup [.str "made", p]) M') (toldK R)) : S_L_told [dgP x r, .str "exchanged", d] M R Rx := by
  refine ⟨rfl, ?_⟩
  show W_L_told [some (dgP x r), some (.str "exchanged"), some d, none] M _
  have e : decide (("exchanged" : Str) = "then") = false := by decide +kernel
  have e2 : decide (("exchanged" : Str) = "without") = false := by decide +kernel
  simp only [W_L_told, wTry3, wSeq, wIf, wB, wOp, wVar, wC, gEq, eqD, wRetW, xIf, xMe, wCons, wNil, wNext, List.getElem?_cons_zero, List.getElem?_cons_succ, e, e2]
  exact ⟨rfl, w⟩
/-! what is due -/
def DOutc (x : Str) (r : List Sx) (R : Dt → Mh → Prop) (M : Mh) : Prop := match fb 0 0 r with
  | none => R (.tup [.str "made", dpP x r]) M
  | some m => R (.tup [.str "stage", .int (m : Nat)]) M
theorem rk_all : ∀ {r : List Sx} {n : Nat}, rkR r ≤ n → ∀ s ∈ r, rkS s ≤ n
  | [], _, _, _, h => nomatch h
  | t :: r, n, h, s, hs => by
    rw [rkR] at h
    rcases List.mem_cons.mp hs with e | e
    · subst e; exact Nat.le_trans (Nat.le_max_left _ _) h
    · exact rk_all (Nat.le_trans (Nat.le_max_right _ _) h) s e
theorem row_rk {x : Str} {r : List Sx} (h : RowOk x r) : ∀ s ∈ r, rkS s ≤ 4 := rk_all (Nat.le_of_lt (rk_lt4 h.ls))
/-- the end of it -/
theorem due_end {x : Str} {r : List Sx} {M : Mh} {R : Dt → Mh → Prop} {Rx : Rxx} {a b c d e f g h i : Option Dt} (hr : RowOk x r) (w : DOutc x r R M) : wSeq W_L_due_3 W_L_due_4 [a, b, c, d, e, f, g, some (dpP x r), h, i, none] M { nx := fun _ M' => R .non M', rt := R, ex := Rx } := by
  simp only [W_L_due_3, W_L_due_4, wSeq, wAsg, wFn, wCons, wNil, wVar, wgN, List.getElem?_cons_zero, List.getElem?_cons_succ, List.set_cons_zero, List.set_cons_succ]
  refine first_read hr.form (row_rk hr) ?_
  unfold DOutc at w
  cases q : fb 0 0 r with
  | none =>
    rw [q] at w
    simp only [fbD, wRet, wIfE, wB, wOp, wVar, wC, gIsN, wTup, wCons, wNil, List.getElem?_cons_zero, List.getElem?_cons_succ]
    exact ⟨by simp, w⟩
  | some m =>
    rw [q] at w
    simp only [fbD, wRet, wIfE, wB, wOp, wVar, wC, gIsN, wTup, wCons, wNil, List.getElem?_cons_zero, List.getElem?_cons_succ]
    exact ⟨by simp, w⟩
theorem dpP_of {x : Str} {l : List Dt} {r : List Sx} (h : l = dpR r) : Dt.tup [.str x, .tup l] = dpP x r := by subst h; rfl
theorem due_then {x : Str} {r : List Sx} {s : Sx} {M : Mh} {R : Dt → Mh → Prop} {Rx} (h : PlanOk x r) (g : r.length < 6 → RowOk x (r ++ [s])) (w : if r.length = 6 then R (.tup [.str "stages", .non]) M else DOutc x (r ++ [s]) R M) : S_L_due [dpP x r, .str "then", dpS s] M R Rx := by
  refine ⟨rfl, ?_⟩
  show W_L_due [some (dpP x r), some (.str "then"), some (dpS s), none, none, none, none, none, none, none, none] M _
  have e : decide (("then" : Str) = "without") = false := by decide +kernel
  have e2 : decide (("then" : Str) = "exchanged") = false := by decide +kernel
  have l6 := h.2.1
  have e4 : dpR (r ++ [s]) = dpR r ++ [dpS s] := by rw [dpR_map, dpR_map, List.map_append]; rfl
  simp only [W_L_due, W_L_due_1, W_L_due_2, wVar, wC, wOp, wB, wNotT, wAndT, wOrT, wNot, wAnd, wOr, wIfE, wNil, wCons, sq, wStar, wTup, wLst, wLstM, gAdd, Lw.gSub, gMul, gInt, gLt, gLe, gGt, gGe, gEq, gNe, eqD, gIsN, gNotN, gIn, gNotIn, gInB, gIx, wNo, wPart, sql, wSl, wCall, gLen, gList, gListM, gTuple, gInt1, gMax2, gMin2, ky, wIsi, clss, wFld, wBmL, wBmS, gApp, gPop, gPopAt, gExt, wNext, wSeq, wBreak, wCont, wExpr, wRet, wRetN, wFz, wIf, wgN, wgNil, wgCons, wgTup, wgLst, wAsg, wPar, wPar3, wSetF, wiL, wiT, wiC, wiR1, wiR2, wiE, wFor, wWhile, wYes, wLc, wFn, wMe, bodyS, wRaise, wNeg, wChain, gStarts, gLstrip, gSplit, gJoin, gIntS, gStr, gMulS, wCat, wTryR, wTryAs, wSetX, wRep, wCatM, wDic0, fl, tv, wMkP, wMkP1, xMkP, wRetX, wRetW, xOf, xIf, xFn, xMe, wTry3, wLenSet, wLcP, wSlM, wRngL, gPow, wiEA, gRepr, gPgEq, gPgNe, gTpNe, gLsEq, wIsi2, wIsC, wPp, wRaise, List.getElem?_cons_zero, List.getElem?_cons_succ, List.set_cons_zero, List.set_cons_succ, dpP, atI_one, atI_zero, sq, sql, dpR_len, eqD, e, e2, List.length_cons, List.length_nil, List.length_append]
  refine ⟨by simp, trivial, szle (by omega), szle (by omega), by simp, ?_⟩
  by_cases hl : r.length = 6
  · rw [if_pos hl] at w
    rw [decide_eq_true (by omega)]
    exact ⟨by simp, w⟩
  · rw [if_neg hl] at w
    rw [decide_eq_false (by omega)]
    have q := due_end (Rx := Rx) (a := some (dpP x r)) (b := some (.str "then")) (c := some (dpS s)) (d := some (.lst (dpR r))) (e := some (.int (r.length : Nat))) (f := none) (g := none) (h := none) (i := none) (g (by omega)) w
    rw [← dpP_of (x := x) (l := dpR r ++ [dpS s]) (r := r ++ [s]) e4.symm] at q
    exact q
end K02
namespace K02
open PySem PySem.Spec PyProof.Rows L2 Lw
theorem lcP_pl {p : Addr} {full : List Dt} {M : Mh} {a b c : Option Dt} {n : Int} {R : List Dt → Mh → Prop} (hM : M p = some (.lst full)) : ∀ (ds acc : List Dt), (∀ e ∈ ds, ∃ k, ky M e = some (.b k)) → R (acc ++ ds.filter fun e => !plB e n) M →
    lcP p full (wgN 6) (wNotT (wB (wFn S_L_is_place (wCons (wVar 6) (wCons (wVar 4) wNil))))) (wVar 6) [a, b, some (.ptr p), c, some (.int n), none, none, none, none, none, none] ds acc M R
  | [], acc, _, w => ⟨hM, by rw [List.filter_nil, List.append_nil] at w; exact w⟩
  | d :: ds, acc, h, w => by
    obtain ⟨k, hk⟩ := h d (by simp)
    refine ⟨hM, ?_⟩
    simp only [wgN, wNotT, wB, wFn, wCons, wNil, wVar, List.getElem?_cons_zero, List.getElem?_cons_succ, List.set_cons_zero, List.set_cons_succ]
    refine isPlace_read hk ?_
    rw [List.filter_cons] at w
    cases q : plB d n with
    | true =>
      rw [q] at w
      simp only [Bool.not_true]
      exact lcP_pl hM ds acc (fun e he => h e (by simp [he])) w
    | false =>
      rw [q] at w
      simp only [Bool.not_false]
      refine lcP_pl hM ds _ (fun e he => h e (by simp [he])) ?_
      rw [List.append_assoc]
      exact w
theorem lcL_keep2 {M : Mh} {a b c e f g : Option Dt} {v : Dt} {ns : List Int} {R : List Dt → Mh → Prop} (hq : sq M v = some (ns.map Dt.int)) (hs : ∀ z, v ≠ .str z) : ∀ (ds acc : List Dt) (n : Nat), R (acc ++ keepL (keepP ns) n ds) M →
    lcL (wgTup 2 (wgCons (wgN 8) (wgCons (wgN 9) wgNil))) (wB (wOp gNotIn (wVar 8) (wVar 2))) (wVar 9) [a, b, some v, c, e, f, g, none, none, none, none] (enm n ds) acc M R
  | [], acc, n, w => by
    rw [keepL, List.append_nil] at w
    exact w
  | d :: ds, acc, n, w => by
    rw [enm, lcL]
    simp only [wgTup, wgCons, wgN, wgNil, wB, wOp, wVar, gNotIn, List.getElem?_cons_zero, List.getElem?_cons_succ, List.set_cons_zero, List.set_cons_succ, List.length_cons, List.length_nil, true_and]
    unfold gInB
    split
    · exact absurd rfl (hs _)
    · simp only [hq]
      refine ⟨rfl, fl_ints ns, ?_⟩
      rw [tv_ints]
      rw [keepL] at w
      show (match keepP ns n with | true => _ | false => _)
      cases q : keepP ns n with
      | true =>
        rw [q, if_pos rfl] at w
        refine lcL_keep2 hq hs ds _ (n + 1) ?_
        rw [List.append_assoc]
        exact w
      | false =>
        rw [q] at w
        exact lcL_keep2 hq hs ds _ (n + 1) w
theorem filter_all {l : List Dt} {n : Int} : (l.filter fun e => !plB e n).isEmpty = l.all fun e => plB e n := by
  induction l with
  | nil => rfl
  | cons d l ih =>
    rw [List.filter_cons, List.all_cons]
    cases q : plB d n with
    | true => simp only [Bool.not_true, Bool.false_eq_true, if_false, ih, Bool.true_and]
    | false => rfl
def WithD (x : Str) (r : List Sx) (d : Dt) (M : Mh) (R : Dt → Mh → Prop) : Prop := match (sql M d).bind fun l => okPos l r.length with
  | none => R (.tup [.str "positions", d]) M
  | some ns => DOutc x (keepL (keepP ns) 0 r) R M
theorem due_without {x : Str} {r : List Sx} {d : Dt} {M : Mh} {R : Dt → Mh → Prop} {Rx} (h : PlanOk x r) (v : VOk M d) (w : WithD x r d M R) : S_L_due [dpP x r, .str "without", d] M R Rx := by
  refine ⟨rfl, ?_⟩
  show W_L_due [some (dpP x r), some (.str "without"), some d, none, none, none, none, none, none, none, none] M _
  have l6 := h.2.1
  unfold WithD at w
  simp only [W_L_due, wSeq, W_L_due_1, wAsg, wTup, wCons, wNil, wCall, gList, gLen, wOp, gIx, wVar, wC, dpP, atI_one, atI_zero, sq, sql, dpR_len, wgTup, wgCons, wgNil, wgN, List.getElem?_cons_zero, List.getElem?_cons_succ, List.set_cons_zero, List.set_cons_succ, List.length_cons, List.length_nil, true_and]
  refine ⟨by simp, ?_⟩
  simp only [W_L_due_2, wIf, wB, wOp, wVar, wC, gEq, eqD, List.getElem?_cons_zero, List.getElem?_cons_succ, decide_true]
  rcases q : sql M d with _ | l
  · obtain ⟨k, hk, hn⟩ := v.nolist q
    rw [q] at w
    simp only [wSeq, wAsg, wAnd]
    refine isl_no hk hn ?_ rfl
    simp only [wIf, wOrT, wNotT, wB, wVar, wgN, wRet, wTup, wCons, wNil, wC, List.getElem?_cons_zero, List.getElem?_cons_succ, List.set_cons_zero, List.set_cons_succ, Bool.not_false]
    exact ⟨by simp, w⟩
  · obtain ⟨p, rfl, hM, hE⟩ : ∃ p, d = .ptr p ∧ M p = some (.lst l) ∧ ((∀ e ∈ l, El e) ∧ l.length ≤ 40) := by
      cases v with
      | el h hn =>
        obtain ⟨k, h⟩ := h.kd
        cases d with
        | lst l => exact absurd rfl (hn l)
        | ptr p => have := h (fun _ => none); simp [ky] at this
        | _ => simp [sql] at q
      | @lst p l' h1 h2 h3 =>
        simp only [sql, h1] at q
        cases q
        exact ⟨p, rfl, h1, h2, h3⟩
      | dic h1 => simp [sql, h1] at q
    have hky : ky M (.ptr p) = some (.b .lst) := by simp only [ky, hM]
    have hsq : sq M (.ptr p) = some l := by simp only [sq, sql, hM]
    rw [q] at w
    simp only [Option.bind_some, okPos] at w
    have e0 : Kd.is .lst .lst = true := rfl
    simp only [wSeq, wAsg, wAnd, wIsi, wVar, List.getElem?_cons_zero, List.getElem?_cons_succ, hky, e0, wOp, wLcP, hM, wipD, List.set_cons_zero, List.set_cons_succ]
    refine lcP_pl hM l [] (fun e he => by obtain ⟨k, hk⟩ := (hE.1 e he).kd; exact ⟨k, hk M⟩) ?_
    simp only [List.nil_append, wLst, wNil, gEq, eqD, wgN, List.set_cons_zero, List.set_cons_succ, filter_all]
    refine ⟨szle (by simp), ?_⟩
    cases g : l.all (fun e => plB e (r.length : Nat)) with
    | false =>
      rw [g] at w
      simp only [wIf, wOrT, wNotT, wB, wVar, wRet, wTup, wCons, wNil, wC, List.getElem?_cons_zero, List.getElem?_cons_succ, Bool.not_false]
      exact ⟨by simp, w⟩
    | true =>
      rw [g, if_pos rfl] at w
      obtain ⟨ns, d1, d2, d3⟩ := dis_of g
      have hln : l.length = ns.length := by rw [d2, List.length_map]
      rw [d1] at w
      simp only [wIf, wOrT, wNotT, wB, wVar, wOp, wLenSet, wCall, wCons, wNil, gLen, gNe, eqD, q, d1, hsq, List.getElem?_cons_zero, List.getElem?_cons_succ, Bool.not_true]
      refine ⟨by omega, ?_⟩
      rw [hln]
      by_cases e : ndup ns = ns.length
      · simp only [if_pos e] at w
        rw [e]
        simp only [decide_true, Bool.not_true, wNext]
        simp only [wAsg, wTup, wCons, wNil, wOp, gIx, wVar, wC, wCall, atI_zero, atI_one, wLc, wiEA, sq, sql, List.getElem?_cons_zero, List.getElem?_cons_succ, wipD, List.set_cons_zero, List.set_cons_succ]
        refine ⟨by rw [enm_len, dpR_len]; exact szle (by omega), ?_⟩
        refine lcL_keep2 (ns := ns) (by rw [hsq, d2]) (fun z e => by cases e) (dpR r) [] 0 ?_
        simp only [List.nil_append, gTuple, sq, sql, wgN, List.length_cons, List.length_nil]
        refine ⟨by simp, ?_⟩
        have e4 : keepL (keepP ns) 0 (dpR r) = dpR (keepL (keepP ns) 0 r) := by rw [dpR_map, dpR_map, keepL_map]
        rw [e4]
        exact due_end (x := x) ((RowOk.of h).sub (keepL_sub _ r 0)) w
      · simp only [if_neg e] at w
        have e2 : decide ((ndup ns : Int) = (ns.length : Int)) = false := decide_eq_false (by omega)
        rw [e2]
        simp only [Bool.not_false, wRet, wTup, wCons, wNil, wC, wVar, List.getElem?_cons_zero, List.getElem?_cons_succ]
        exact ⟨by simp, w⟩
def ExchD (x : Str) (r : List Sx) (d : Dt) (M : Mh) (R : Dt → Mh → Prop) : Prop := match plB d (r.length - 1 : Int) with
  | false => R (.tup [.str "positions", d]) M
  | true => DOutc x (exL (exI d) r) R M
theorem due_exch {x : Str} {r : List Sx} {d : Dt} {M : Mh} {R : Dt → Mh → Prop} {Rx} (h : PlanOk x r) (v : VOk M d) (w : ExchD x r d M R) : S_L_due [dpP x r, .str "exchanged", d] M R Rx := by
  refine ⟨rfl, ?_⟩
  show W_L_due [some (dpP x r), some (.str "exchanged"), some d, none, none, none, none, none, none, none, none] M _
  have l6 := h.2.1
  obtain ⟨k, hk⟩ := v.kd
  unfold ExchD at w
  have e : decide (("exchanged" : Str) = "without") = false := by decide +kernel
  simp only [W_L_due, wSeq, W_L_due_1, wAsg, wTup, wCons, wNil, wCall, gList, gLen, wOp, gIx, wVar, wC, dpP, atI_one, atI_zero, sq, sql, dpR_len, wgTup, wgCons, wgNil, wgN, List.getElem?_cons_zero, List.getElem?_cons_succ, List.set_cons_zero, List.set_cons_succ, List.length_cons, List.length_nil, true_and]
  refine ⟨by simp, ?_⟩
  simp only [W_L_due_2, wIf, wB, wOp, wVar, wC, gEq, eqD, List.getElem?_cons_zero, List.getElem?_cons_succ, decide_true, e]
  simp only [wSeq, wIf, wNotT, wB, wFn, wCons, wNil, wVar, wOp, Lw.gSub, wC, List.getElem?_cons_zero, List.getElem?_cons_succ]
  refine isPlace_read hk ?_
  cases q : plB d (r.length - 1 : Int) with
  | false =>
    rw [q] at w
    simp only [Bool.not_false, wRet, wTup, wCons, wNil, wC, wVar, List.getElem?_cons_zero, List.getElem?_cons_succ]
    exact ⟨by simp, w⟩
  | true =>
    rw [q] at w
    obtain ⟨i, rfl, h1, h2⟩ := plB_int q
    obtain ⟨j, rfl⟩ : ∃ j : Nat, i = (j : Int) := ⟨i.toNat, by omega⟩
    have hj : j + 1 < r.length := by omega
    have l1 : j < (dpR r).length := by rw [dpR_len]; omega
    have l2 : j + 1 < (dpR r).length := by rw [dpR_len]; omega
    have e1 : ((j : Int) + 1) = ((j + 1 : Nat) : Int) := by omega
    have e2 : ((j : Int) + 2) = ((j + 2 : Nat) : Int) := by omega
    have f1 : Lw.cutD (dpR r) none (some (j : Int)) = (dpR r).take j := Lw.cutD_to _ _
    have f2 : Lw.cutD (dpR r) (some ((j : Int) + 2)) none = (dpR r).drop (j + 2) := by rw [e2]; exact Lw.cutD_from _ _
    simp only [Bool.not_true, wNext, wVar, wC, wOp, wB, wNotT, wAndT, wOrT, wNot, wAnd, wOr, wIfE, wNil, wCons, sq, wStar, wTup, wLst, wLstM, gAdd, Lw.gSub, gMul, gInt, gLt, gLe, gGt, gGe, gEq, gNe, eqD, gIsN, gNotN, gIn, gNotIn, gInB, gIx, wNo, wPart, sql, wSl, wCall, gLen, gList, gListM, gTuple, gInt1, gMax2, gMin2, ky, wIsi, clss, wFld, wBmL, wBmS, gApp, gPop, gPopAt, gExt, wNext, wSeq, wBreak, wCont, wExpr, wRet, wRetN, wFz, wIf, wgN, wgNil, wgCons, wgTup, wgLst, wAsg, wPar, wPar3, wSetF, wiL, wiT, wiC, wiR1, wiR2, wiE, wFor, wWhile, wYes, wLc, wFn, wMe, bodyS, wRaise, wNeg, wChain, gStarts, gLstrip, gSplit, gJoin, gIntS, gStr, gMulS, wCat, wTryR, wTryAs, wSetX, wRep, wCatM, wDic0, fl, tv, wMkP, wMkP1, xMkP, wRetX, wRetW, xOf, xIf, xFn, xMe, wTry3, wLenSet, wLcP, wSlM, wRngL, gPow, wiEA, gRepr, gPgEq, gPgNe, gTpNe, gLsEq, wIsi2, wIsC, wPp, wRaise, List.getElem?_cons_zero, List.getElem?_cons_succ, List.set_cons_zero, List.set_cons_succ, sq, sql, true_and, atI_zero, atI_at l1, e1, atI_at l2, List.append_nil]
    rw [f1, f2]
    have e3 : (dpR r).take j ++ [(dpR r)[j + 1], (dpR r)[j]] ++ (dpR r).drop (j + 2) = dpR (exL j r) := by
      have z := exL_eq l2
      rw [dpR_map (exL j r), ← exL_map, ← dpR_map, z]
    rw [e3]
    refine ⟨szle (by simp), szle ?_, szle ?_, by simp, due_end (x := x) ((RowOk.of h).perm (exL_perm hj)) w⟩
    · simp only [List.length_append, List.length_take, List.length_cons, List.length_nil, dpR_len]
      omega
    · simp only [List.length_append, List.length_take, List.length_drop, List.length_cons, List.length_nil, dpR_len]
      omega
end K02
namespace K02
open PySem PySem.Spec PyProof.Rows L2 Lw
/-! ### the properties read -/
theorem atI_last1 {α : Type} (xs : List α) (v : α) : atI (xs ++ [v]) (-1) = some v := by
  have hl : (xs ++ [v]).length = xs.length + 1 := by simp
  have e : ixN (xs ++ [v]).length (-1) = some xs.length := by
    unfold ixN
    rw [if_neg (by omega), hl, if_pos (by omega)]
    congr 1
    omega
  unfold atI
  rw [e]
  simp
theorem hgs_snoc : ∀ (r : List Sx) (d : Int), ∃ pre, hgs d r = pre ++ [hgR d r]
  | [], d => ⟨[], by simp [hgs, hgR]⟩
  | s :: r, d => by
    obtain ⟨pre, h⟩ := hgs_snoc r (hgS d s)
    exact ⟨d :: pre, by rw [hgs, hgR, h]; rfl⟩
theorem depth_read {x : Str} {r : List Sx} {M : Mh} {R : Dt → Mh → Prop} {Rx} (w : R (.int (hgR 0 r)) M) : S_Program_depth [dgP x r] M R Rx := by
  refine ⟨rfl, ?_⟩
  show W_Program_depth [some (dgP x r)] M _
  obtain ⟨pre, e⟩ := hgs_snoc r 0
  have e2 : dints (hgs 0 r) = dints pre ++ [.int (hgR 0 r)] := by
    rw [e]
    unfold dints
    rw [List.map_append]
    rfl
  simp only [W_Program_depth, wRet, wOp, wFld, wVar, wNeg, wC, gIx, dgP, sq, sql, List.getElem?_cons_zero, List.getElem?_cons_succ, true_and, e2, atI_last1]
  exact w
theorem sources_read {x : Str} {r : List Sx} {M : Mh} {R : Dt → Mh → Prop} {Rx} (w : R (.tup (dstrs (x :: lvR r))) M) : S_Program_sources [dgP x r] M R Rx := by
  refine ⟨rfl, ?_⟩
  show W_Program_sources [some (dgP x r)] M _
  simp only [W_Program_sources, wRet, wFld, wVar, wCall, wCons, wNil, gTuple, dgP, sq, sql, List.getElem?_cons_zero, List.getElem?_cons_succ, true_and]
  exact w
theorem stages_read {x : Str} {r : List Sx} {M : Mh} {R : Dt → Mh → Prop} {Rx} (w : R (.tup (dgR r)) M) : S_Program_stages [dgP x r] M R Rx := by
  refine ⟨rfl, ?_⟩
  show W_Program_stages [some (dgP x r)] M _
  simp only [W_Program_stages, wRet, wFld, wVar, dgP, List.getElem?_cons_zero, List.getElem?_cons_succ, true_and]
  exact w
theorem eqd_int {M : Mh} {R : Bool → Prop} {a b : Int} : eqD M R (.int a) (.int b) = R (decide (a = b)) := rfl
theorem eqd_str {M : Mh} {R : Bool → Prop} {a b : Str} : eqD M R (.str a) (.str b) = R (decide (a = b)) := rfl
theorem eqd_bl {M : Mh} {R : Bool → Prop} {a b : Bool} : eqD M R (.bl a) (.bl b) = R (decide (a = b)) := rfl
/-! ### things beside themselves -/
theorem pg_same {x : Str} {r : List Sx} (h : PlanOk x r) : CqP 14 (dgP x r) (dgP x r) true := by
  have hk := rk_lt4 h.2.2
  obtain ⟨b, c, i⟩ := cq_prog (x := x) (x' := x) h.1 h.1 (n := 14) (by omega)
  have : b = true := i.mpr ⟨rfl, rfl⟩
  subst this
  exact c
theorem row_same {x : Str} {r : List Sx} (h : PlanOk x r) : CqL 14 (dgR r) (dgR r) true := by
  have hk := rk_lt4 h.2.2
  obtain ⟨b, c, i⟩ := cq_row r r h.1 h.1 (n := 14) (by omega)
  have : b = true := i.mpr rfl
  subst this
  exact c
theorem pys_strs : ∀ l : List Str, pys (dstrs l) = some (l.map .str)
  | [] => by simp [dstrs, pys]
  | x :: l => by rw [dstrs_cons, pys, py, pys_strs l]; rfl
theorem lay_strs : ∀ {l : List Str}, (∀ x ∈ l, PyData.strOk x = true) → PyData.canLayAll0 (l.map .str) = true
  | [], _ => rfl
  | x :: l, h => by
    rw [List.map_cons, PyData.canLayAll0, lay_strs fun y hy => h y (by simp [hy])]
    simp only [PyData.canLay0, h x (by simp), Bool.true_and]
theorem depth_strs : ∀ l : List Str, PyData.depthAll (l.map .str) ≤ 1
  | [] => by simp [PyData.depthAll]
  | x :: l => by
    rw [List.map_cons, PyData.depthAll]
    exact Nat.max_le.mpr ⟨by simp [PyData.depth], depth_strs l⟩
theorem eq_strs {M : Mh} {R : Bool → Prop} {x : Str} {l : List Str} (h : LsOk (x :: l)) (w : R true) : eqD M R (.tup (dstrs (x :: l))) (.tup (dstrs (x :: l))) := by
  have h1 : ∀ y ∈ x :: l, PyData.strOk y = true := fun y hy => (tok_sources y (h.2 y hy)).1
  have e : py (.tup (dstrs (x :: l))) = some (.tuple ((x :: l).map .str)) := by rw [py, pys_strs]; rfl
  have e2 : PyData.eqv (.tuple ((x :: l).map .str)) (.tuple ((x :: l).map .str)) = true := SeqAt.eqv_refl _ (by rw [PyData.canLay0]; exact lay_strs h1)
  have e3 : (PyData.tuple ((x :: l).map .str)).depth ≤ 64 := by
    have := depth_strs (x :: l)
    rw [PyData.depth]
    omega
  have z : (match pyM M (.tup (dstrs (x :: l))), pyM M (.tup (dstrs (x :: l))) with
    | some p, some q => p.depth ≤ 64 ∧ q.depth ≤ 64 ∧ R (PyData.eqv p q)
    | _, _ => False) := by
    show (match py (.tup (dstrs (x :: l))), py (.tup (dstrs (x :: l))) with
      | some p, some q => p.depth ≤ 64 ∧ q.depth ≤ 64 ∧ R (PyData.eqv p q)
      | _, _ => False)
    rw [e]
    exact ⟨e3, e3, by rw [e2]; exact w⟩
  exact z
/-! ### asked right -/
structure DueTold (x : Str) (r : List Sx) (word : Str) (d : Dt) (M : Mh) (due told : Dt) : Prop where
  due : ∀ (R : Dt → Mh → Prop) Rx, R due M → S_L_due [dpP x r, .str word, d] M R Rx
  told : ∀ (R : Dt → Mh → Prop) Rx, R told M → S_L_told [dgP x r, .str word, d] M R Rx
theorem asked_pre {x : Str} {r : List Sx} {word w0 : Str} {d a b : Dt} {M : Mh} {R : De} {p : PyData} (h : PlanOk x r) (D : DueTold x r word d M (.tup [.str w0, a]) (.tup [.str w0, b])) (hp : pyR M d = some p) (sm : SmD 1000000 p)
    (w : wSeq W_L_asked_right_5 (wSeq W_L_asked_right_6 (wSeq W_L_asked_right_7 W_L_asked_right_8)) [some (dgP x r), some (dpP x r), some (.str word), some d, some (.tup [.str w0, a]), some (.str p.shown), some (.tup [.str w0, b]), none, none, none, none] M R) :
    W_L_asked_right [some (dgP x r), some (dpP x r), some (.str word), some d, none, none, none, none, none, none, none] M R := by
  simp only [W_L_asked_right, wSeq, W_L_asked_right_1, W_L_asked_right_2, wPar, wAsg, wCons, wNil, wFn, wVar, wCall, gRepr, wgN, hp, List.getElem?_cons_zero, List.getElem?_cons_succ, List.set_cons_zero, List.set_cons_succ]
  refine D.due _ _ ?_
  simp only [hp]
  refine ⟨sm, ?_⟩
  refine D.told _ _ ?_
  simp only [W_L_asked_right_3, wIf, wOrT, wB, wOp, wVar, wC, gIx, sq, sql, atI_zero, gNe, eqD, wFn, wCons, wNil, wCall, gRepr, hp, List.getElem?_cons_zero, List.getElem?_cons_succ, decide_true, Bool.not_true]
  refine ⟨x, r, rfl, h, true, pg_same h, ?_⟩
  simp only [Bool.not_true, wNext, hp, decide_true]
  refine ⟨sm, ?_⟩
  simp only [W_L_asked_right_4, wIf, wOrT, wB, wOp, wPp, wVar, List.getElem?_cons_zero, List.getElem?_cons_succ]
  refine ⟨rfl, depth_read ?_⟩
  simp only [wFn, wCons, wNil, wVar, List.getElem?_cons_zero, List.getElem?_cons_succ]
  refine ⟨x, r, rfl, h, ?_⟩
  simp only [gNe, eqd_int, decide_true, Bool.not_true]
  refine ⟨rfl, sources_read ⟨x, r, rfl, h, rfl, sources_read ?_⟩⟩
  refine eq_strs h.2.2 ?_
  simp only [Bool.not_true, wNext]
  exact w
end K02
namespace K02
open PySem PySem.Spec PyProof.Rows L2 Lw
def smB (p : PyData) : Bool := p.showable && (decide (p.depth ≤ 50) && (decide (p.shown.length ≤ 100) && PyData.strOk p.shown))
theorem smB_ok {p : PyData} (h : smB p = true) : SmD 100 p ∧ p.depth ≤ 50 := by
  unfold smB at h
  simp only [Bool.and_eq_true, decide_eq_true_eq] at h
  exact ⟨⟨h.1, by omega, h.2.2.1, h.2.2.2⟩, h.2.1⟩
theorem smd_ints : ∀ m ∈ List.range 12, smB (.int (m : Nat)) = true := by decide +kernel
theorem smd_int {m : Nat} (h : m ≤ 10) : SmD 100 (.int (m : Nat)) ∧ (PyData.int (m : Nat)).depth ≤ 50 := smB_ok (smd_ints m (List.mem_range.mpr (by omega)))
theorem pys_els : ∀ {l : List Dt}, (∀ e ∈ l, El e) → ∃ ps, pys l = some ps ∧ ps.length = l.length ∧ ∀ p ∈ ps, SmD 100 p ∧ p.depth ≤ 50
  | [], _ => ⟨[], by simp [pys], rfl, fun _ h => nomatch h⟩
  | d :: l, h => by
    obtain ⟨p, h1, h2, h3⟩ := (h d (by simp)).pd
    obtain ⟨ps, e1, e2, e3⟩ := pys_els (l := l) fun e he => h e (List.mem_cons_of_mem _ he)
    refine ⟨p :: ps, by rw [pys, h1, e1], by rw [List.length_cons, List.length_cons, e2], fun q hq => ?_⟩
    rcases List.mem_cons.mp hq with e | e
    · subst e; exact ⟨h2, h3⟩
    · exact e3 q e
theorem lst_rd {M : Mh} {p : Addr} {l : List Dt} (h : M p = some (.lst l)) (g : ∀ e ∈ l, El e) (hl : l.length ≤ 100) : ∃ q, pyR M (.ptr p) = some q ∧ SmD 1000000 q := by
  obtain ⟨ps, e1, e2, e3⟩ := pys_els g
  refine ⟨.list ps, by simp only [pyR, h, e1]; rfl, (SmD.list e3).mono ?_⟩
  have : ps.length * (100 + 2) ≤ 100 * (100 + 2) := Nat.mul_le_mul_right _ (by omega)
  omega
theorem dic_sm : SmD 1000000 (.dict []) := ((smB_ok (p := .dict []) (by decide +kernel)).1).mono (by decide)
theorem El.rd {M : Mh} {d : Dt} (h : El d) : ∃ q, pyR M d = some q ∧ SmD 1000000 q := by
  obtain ⟨p, h1, h2, _⟩ := h.pd
  obtain ⟨k, hk⟩ := h.kd
  refine ⟨p, ?_, h2.mono (by decide)⟩
  cases d with
  | ptr a => have := hk (fun _ => none); simp [ky] at this
  | _ => exact h1
theorem VOk.rd {M : Mh} {d : Dt} (h : VOk M d) : ∃ q, pyR M d = some q ∧ SmD 1000000 q := by
  cases h with
  | el h _ => exact h.rd
  | lst h g hl => exact lst_rd h g (by omega)
  | dic h => exact ⟨.dict [], by simp only [pyR, h], dic_sm⟩
theorem el_more : El (.str "more") := ⟨⟨.str, fun _ => rfl⟩, .str "more", by simp [py], smB_ok (by decide +kernel)⟩
theorem n_pm : decide (("positions" : Str) = "made") = false := by decide +kernel
theorem n_ps : decide (("positions" : Str) = "stages") = false := by decide +kernel
theorem n_sm : decide (("stage" : Str) = "made") = false := by decide +kernel
theorem n_ss : decide (("stage" : Str) = "stages") = false := by decide +kernel
theorem n_tm : decide (("stages" : Str) = "made") = false := by decide +kernel
section
variable {s0 s1 s2 s3 s5 : Option Dt} {M : Mh} {R : De}
theorem asked_pos {d : Dt} (v : VOk M d) (w : (sql M d = none → R.rt (.bl true) M) ∧ ∀ p l, d = .ptr p → M p = some (.lst l) → R.rt (.bl true) (updM M p (.lst (l ++ [.str "more"])))) :
    wSeq W_L_asked_right_5 (wSeq W_L_asked_right_6 (wSeq W_L_asked_right_7 W_L_asked_right_8)) [s0, s1, s2, s3, some (.tup [.str "positions", d]), s5, some (.tup [.str "positions", d]), none, none, none, none] M R := by
  simp only [wSeq, W_L_asked_right_5, W_L_asked_right_6, wIf, wB, wOp, gIx, wVar, wC, sq, sql, atI_zero, gEq, eqd_str, n_pm, n_ps, wNext, List.getElem?_cons_zero, List.getElem?_cons_succ]
  simp only [W_L_asked_right_7, wIf, wB, wIsi, wOp, gIx, wVar, wC, sq, sql, atI_one, List.getElem?_cons_zero, List.getElem?_cons_succ]
  rcases q : sql M d with _ | l
  · obtain ⟨k, hk, hn⟩ := v.nolist q
    have e0 : k.is .lst = false := by cases k <;> first | rfl | exact absurd rfl hn
    obtain ⟨p, hp, sm⟩ := v.rd
    simp only [hk, e0, wNext, W_L_asked_right_8, wRet, wOp, wCall, wCons, wNil, gIx, wVar, wC, sq, sql, atI_one, gRepr, hp, gEq, eqd_str, decide_true, List.getElem?_cons_zero, List.getElem?_cons_succ]
    exact ⟨sm, sm, w.1 q⟩
  · obtain ⟨p, rfl, hM, hE⟩ : ∃ p, d = .ptr p ∧ M p = some (.lst l) ∧ ((∀ e ∈ l, El e) ∧ l.length ≤ 40) := by
      cases v with
      | el h hn =>
        obtain ⟨k, h⟩ := h.kd
        cases d with
        | lst l => exact absurd rfl (hn l)
        | ptr p => have := h (fun _ => none); simp [ky] at this
        | _ => simp [sql] at q
      | @lst p l' h1 h2 h3 =>
        simp only [sql, h1] at q
        cases q
        exact ⟨p, rfl, h1, h2, h3⟩
      | dic h1 => simp [sql, h1] at q
    have hky : ky M (.ptr p) = some (.b .lst) := by simp only [ky, hM]
    have e0 : Kd.is .lst .lst = true := rfl
    obtain ⟨pd, hp, sm⟩ := lst_rd (M := updM M p (.lst (l ++ [.str "more"]))) updM_same (fun e he => by
      rcases List.mem_append.mp he with h | h
      · exact hE.1 e h
      · rw [List.mem_singleton.mp h]; exact el_more) (by rw [List.length_append]; simp only [List.length_cons, List.length_nil]; omega)
    simp only [hky, e0, wExpr, wBmL, wOp, wCons, wNil, gIx, wVar, wC, sq, q, atI_one, gApp, hM, List.getElem?_cons_zero, List.getElem?_cons_succ]
    refine ⟨szlt (by omega), ?_⟩
    simp only [W_L_asked_right_8, wRet, wOp, wCall, wCons, wNil, gIx, wVar, wC, sq, sql, atI_one, gRepr, hp, gEq, eqd_str, decide_true, List.getElem?_cons_zero, List.getElem?_cons_succ]
    exact ⟨sm, sm, w.2 p l rfl hM⟩
theorem asked_stage {m : Nat} (hm : m ≤ 10) (w : R.rt (.bl true) M) :
    wSeq W_L_asked_right_5 (wSeq W_L_asked_right_6 (wSeq W_L_asked_right_7 W_L_asked_right_8)) [s0, s1, s2, s3, some (.tup [.str "stage", .int (m : Nat)]), s5, some (.tup [.str "stage", .int (m : Nat)]), none, none, none, none] M R := by
  have sm := ((smd_int hm).1).mono (m := 1000000) (by decide)
  have hk : ky M (.int (m : Nat)) = some (.b .int) := rfl
  have e0 : Kd.is .int .lst = false := rfl
  have hp : pyR M (.int (m : Nat)) = some (.int (m : Nat)) := by simp [pyR, py]
  simp only [wSeq, W_L_asked_right_5, W_L_asked_right_6, wIf, wB, wOp, gIx, wVar, wC, sq, sql, atI_zero, gEq, eqd_str, n_sm, n_ss, wNext, List.getElem?_cons_zero, List.getElem?_cons_succ]
  simp only [W_L_asked_right_7, wIf, wB, wIsi, wOp, gIx, wVar, wC, sq, sql, atI_one, hk, e0, wNext, W_L_asked_right_8, wRet, wOp, wCall, wCons, wNil, gRepr, hp, gEq, eqd_str, decide_true, List.getElem?_cons_zero, List.getElem?_cons_succ]
  exact ⟨sm, sm, w⟩
theorem cql_app {n : Nat} : ∀ {l m l' m' : List Dt} {r : Bool}, CqL n l l' true → CqL n m m' r → CqL n (l ++ m) (l' ++ m') r
  | _, _, _, _, _, .nil, h => h
  | _, _, _, _, _, .on a b, h => .on a (cql_app b h)
theorem stage_same {s : Sx} (h : formS s) (hk : rkS s ≤ 2) : Cq 14 (dgS s) (dgS s) true := by
  obtain ⟨b, c, i⟩ := cq_stage s s (d := 1) (d' := 1) (n := 14) h h (by omega)
  have : b = true := i.mpr rfl
  subst this
  exact c
theorem asked_stages {x : Str} {r : List Sx} {d : Dt} (h : PlanOk x r) (c : Cq 14 d d true) (w : R.rt (.bl true) M) :
    wSeq W_L_asked_right_5 (wSeq W_L_asked_right_6 (wSeq W_L_asked_right_7 W_L_asked_right_8)) [some (dgP x r), s1, s2, some d, some (.tup [.str "stages", .non]), s5, some (.tup [.str "stages", .lst (dgR r ++ [d])]), none, none, none, none] M R := by
  simp only [wSeq, W_L_asked_right_5, W_L_asked_right_6, wIf, wB, wOp, gIx, wVar, wC, sq, sql, atI_zero, gEq, eqd_str, n_tm, decide_true, wNext, wRet, atI_one, wCat, wCall, wCons, wNil, wPp, List.getElem?_cons_zero, List.getElem?_cons_succ]
  refine ⟨rfl, stages_read ?_⟩
  simp only [gList, sq, wLst, wCons, wNil, wVar, sql, List.getElem?_cons_zero, List.getElem?_cons_succ]
  have hl := h.2.1
  refine ⟨szle (by simp), szle ?_, true, ⟨_, _, rfl, rfl, .inl ⟨rfl, cql_app (row_same h) (.on c .nil)⟩⟩, w⟩
  rw [dgR_len]
  simp only [List.length_cons, List.length_nil]
  omega
end
end K02
namespace K02
open PySem PySem.Spec PyProof.Rows L2 Lw
theorem sgn_abcd : sgn ("abcd" : Str) = dstrs sources := rfl
theorem inv_strs {M : Mh} {z : Str} {l : List Str} {f : Bool → Bool} {R : Dt → Mh → Prop} (w : R (.bl (f (decide (z ∈ l)))) M) : gInB f (.str z) (.tup (dstrs l)) M R := by
  show fl (.str z) = true ∧ (dstrs l).all fl = true ∧ R (.bl (f (inV (tv (.str z)) ((dstrs l).map tv)))) M
  refine ⟨rfl, all_fl l, ?_⟩
  have e : inV (tv (.str z)) ((dstrs l).map tv) = decide (z ∈ l) := inV_strs z l
  rw [e]
  exact w
theorem okR_app : ∀ {r s : List Sx} {d : Int}, okR d r → okR (hgR d r) s → okR d (r ++ s)
  | [], _, _, _, h => h
  | t :: r, s, d, h, g => by
    rw [okR] at h
    rw [hgR] at g
    rw [List.cons_append, okR]
    exact ⟨h.1, okR_app h.2 g⟩
theorem lvR_app (r s : List Sx) : lvR (r ++ s) = lvR r ++ lvR s := by rw [lvR_flat, lvR_flat, lvR_flat, List.flatMap_append]
theorem plan_snoc {x : Str} {r : List Sx} {s : Sx} (h : PlanOk x r) (hl : r.length < 6) (o : okS (hgR 0 r) s) (d : ∀ z ∈ lvS s, z ∉ x :: lvR r) (l : LsOk (lvS s)) : PlanOk x (r ++ [s]) := by
  refine ⟨okR_app h.1 (by rw [okR, okR]; exact ⟨o, trivial⟩), by rw [List.length_append]; simp only [List.length_cons, List.length_nil]; omega, ?_⟩
  rw [lvR_app]
  have e : lvR [s] = lvS s := by rw [lvR, lvR, List.append_nil]
  rw [e]
  exact h.2.2.app l (List.any_eq_false.mpr fun z hz => by simpa using d z hz)
theorem plan_zip {x z : Str} {r : List Sx} (h : PlanOk x r) (hl : r.length < 6) (hz : z ∈ sources) (n : z ∉ x :: lvR r) : PlanOk x (r ++ [.zip z []]) := by
  refine plan_snoc h hl (by rw [okS, okR]; exact ⟨by simp, trivial⟩) (fun y hy => ?_) ?_
  · rw [lvS, lvR] at hy
    rw [List.mem_singleton.mp hy]
    exact n
  · rw [lvS, lvR]
    exact .one hz
theorem plan_skip {x : Str} {r : List Sx} (h : PlanOk x r) (hl : r.length < 6) : PlanOk x (r ++ [.nu "skip" 1]) :=
  plan_snoc h hl (by rw [okS]; exact ⟨by decide +kernel, by decide, by decide⟩) (fun y hy => by rw [show lvS (Sx.nu "skip" 1) = [] from by simp [lvS]] at hy; cases hy) (by rw [show lvS (Sx.nu "skip" 1) = [] from by simp [lvS]]; exact ⟨List.nodup_nil, fun _ h => nomatch h⟩)
theorem dgS_zip0 (z : Str) : dgS (.zip z []) = .tup [.str "zip", dgP z []] := by
  rw [dgS]
  rfl
theorem dgS_skip : dgS (.nu "skip" 1) = .tup [.str "skip", .int 1] := by rw [dgS]
/-- those that are free -/
def freeL (x : Str) (r : List Sx) : List Str := sources.filter fun z => decide (z ∉ x :: lvR r)
section
variable {x : Str} {r : List Sx} {M : Mh}
theorem free_loop {c0 c1 c2 c3 c4 c5 c6 c8 c10 : Option Dt} {R : List Dt → Mh → Prop} : ∀ (ls : List Str) (acc : List Dt), (∀ z ∈ ls, z ∈ sources) → R (acc ++ (ls.filter fun z => decide (z ∉ x :: lvR r)).map fun z => dgS (.zip z [])) M →
    lcL (wgN 9) (wB (wOp gNotIn (wVar 9) (wPp "Program" S_Program_sources (wVar 7)))) (wTup (wCons (wC (.str "zip")) (wCons (wMkP1 (wCons (wVar 9) wNil)) wNil))) [c0, c1, c2, c3, c4, c5, c6, some (dgP x r), c8, none, c10] (dstrs ls) acc M R
  | [], acc, _, w => by
    rw [List.filter_nil, List.map_nil, List.append_nil] at w
    exact w
  | z :: ls, acc, h, w => by
    rw [dstrs_cons, lcL]
    simp only [wgN, wB, wOp, wPp, wVar, List.getElem?_cons_zero, List.getElem?_cons_succ, List.set_cons_zero, List.set_cons_succ]
    refine ⟨rfl, sources_read (inv_strs ?_)⟩
    rw [List.filter_cons] at w
    by_cases q : z ∈ x :: lvR r
    · have e1 : (!decide (z ∈ x :: lvR r)) = false := by rw [decide_eq_true q]; rfl
      rw [if_neg (by rw [decide_eq_true_eq]; exact fun n => n q)] at w
      show (match (!decide (z ∈ x :: lvR r)) with | true => _ | false => _)
      rw [e1]
      exact free_loop ls acc (fun y hy => h y (List.mem_cons_of_mem _ hy)) w
    · have e1 : (!decide (z ∈ x :: lvR r)) = true := by rw [decide_eq_false q]; rfl
      rw [if_pos (by rw [decide_eq_true_eq]; exact q)] at w
      show (match (!decide (z ∈ x :: lvR r)) with | true => _ | false => _)
      rw [e1]
      simp only [wTup, wCons, wNil, wC, wMkP1, wVar, List.getElem?_cons_zero, List.getElem?_cons_succ]
      refine ⟨z, rfl, h z (by simp), by simp, ?_⟩
      refine free_loop ls _ (fun y hy => h y (List.mem_cons_of_mem _ hy)) ?_
      rw [List.append_assoc]
      rw [List.map_cons, dgS_zip0] at w
      exact w
/-- with one stage more -/
theorem more_loop {c0 c1 c2 c3 c4 c5 c8 c9 : Option Dt} {w0 : Str} {R : De} (hl : r.length < 6) : ∀ (ls : List Sx) (c10 : Option Dt), (∀ s ∈ ls, PlanOk x (r ++ [s])) → (∀ c, R.nx [c0, c1, c2, c3, c4, c5, some (.tup [.str w0, dgP x r]), some (dgP x r), c8, c9, c] M) →
    forL (wgN 10) (wIf (wB (wOp gPgNe (wMe "Program" "then" S_Program_then (wOp gIx (wVar 6) (wC (.int 1))) (wCons (wVar 10) wNil)) (wMkP (wCons (wPp "Program" S_Program_source (wVar 7)) (wCons (wCat (wCall gList (wCons (wPp "Program" S_Program_stages (wVar 7)) wNil)) (wLst (wCons (wVar 10) wNil))) wNil))))) (wRet (wC (.bl false))) wNext)
      (ls.map dgS) [c0, c1, c2, c3, c4, c5, some (.tup [.str w0, dgP x r]), some (dgP x r), c8, c9, c10] M R
  | [], c10, _, w => w c10
  | s :: ls, c10, h, w => by
    have hs := h s (by simp)
    have h0 : PlanOk x r := by
      have z := (RowOk.of hs).sub (List.sublist_append_left r [s])
      exact ⟨(show ∀ (a b : List Sx) (d : Int), okR d (a ++ b) → okR d a from fun a => by
        induction a with
        | nil => intro b d _; rw [okR]; trivial
        | cons t a ih => intro b d o; rw [List.cons_append, okR] at o; rw [okR]; exact ⟨o.1, ih b _ o.2⟩) r [s] 0 hs.1, z.len, z.ls⟩
    rw [List.map_cons, forL]
    simp only [wgN, wIf, wB, wOp, wMe, gIx, wVar, wC, sq, sql, atI_one, wCons, wNil, List.getElem?_cons_zero, List.getElem?_cons_succ, List.set_cons_zero, List.set_cons_succ]
    refine ⟨rfl, then_row h0 (RowOk.of hs) ?_⟩
    unfold Outc
    rw [fb_ok hs.1]
    simp only [wMkP, wCons, wNil, wPp, wVar, List.getElem?_cons_zero, List.getElem?_cons_succ]
    refine ⟨rfl, source_read ?_⟩
    simp only [wCat, wCall, wCons, wNil, wPp, wVar, List.getElem?_cons_zero, List.getElem?_cons_succ]
    refine ⟨rfl, stages_read ?_⟩
    simp only [gList, sq, wLst, wCons, wNil, wVar, sql, List.getElem?_cons_zero, List.getElem?_cons_succ]
    refine ⟨szle (by simp), szle ?_, x, _, r ++ [s], rfl, by rw [dgR_snoc], hs, true, pg_same hs, ?_⟩
    · rw [dgR_len]
      simp only [List.length_cons, List.length_nil]
      omega
    · simp only [Bool.not_true, wNext]
      exact more_loop hl ls _ (fun t ht => h t (List.mem_cons_of_mem _ ht)) w
theorem asked_made {s0 s1 s2 s3 s5 : Option Dt} {R : De} (h : PlanOk x r) (w : R.rt (.bl true) M) :
    wSeq W_L_asked_right_5 (wSeq W_L_asked_right_6 (wSeq W_L_asked_right_7 W_L_asked_right_8)) [s0, s1, s2, s3, some (.tup [.str "made", dpP x r]), s5, some (.tup [.str "made", dgP x r]), none, none, none, none] M R := by
  simp only [wSeq, W_L_asked_right_5, wIf, wB, wOp, gIx, wVar, wC, sq, sql, atI_zero, atI_one, gEq, eqd_str, decide_true, wAsg, wFn, wCons, wNil, wgN, List.getElem?_cons_zero, List.getElem?_cons_succ, List.set_cons_zero, List.set_cons_succ]
  refine ⟨x, r, rfl, h, ?_⟩
  simp only [wOrT, wB, wOp, gIx, wVar, wC, sq, sql, atI_one, wPp, List.getElem?_cons_zero, List.getElem?_cons_succ, List.set_cons_zero, List.set_cons_succ]
  refine ⟨true, pg_same h, ?_⟩
  simp only [Bool.not_true]
  refine ⟨rfl, sources_read ⟨rfl, sources_read ?_⟩⟩
  refine eq_strs h.2.2 ?_
  simp only [Bool.not_true]
  refine ⟨rfl, stages_read ⟨rfl, stages_read ⟨_, _, true, rfl, rfl, row_same h, ?_⟩⟩⟩
  simp only [Bool.not_true, wNext]
  simp only [wLc, wiC, wC, wipD, List.set_cons_zero, List.set_cons_succ]
  rw [sgn_abcd]
  refine ⟨szle (by decide), free_loop sources [] (fun _ h => h) ?_⟩
  simp only [List.nil_append, wFor, wiL, wIfE, wB, wOp, wCall, wCons, wNil, wPp, wVar, wC, gLt, gInt, List.getElem?_cons_zero, List.getElem?_cons_succ, List.set_cons_zero, List.set_cons_succ]
  refine ⟨rfl, stages_read ?_⟩
  simp only [gLen, sq, dgR_len]
  have fin : ∀ c8 c9 c10 : Option Dt, (wRet (wAnd (wOp gEq (wPp "Program" S_Program_depth (wOp gIx (wVar 6) (wC (.int 1)))) (wFn S_L_depth (wCons (wOp gIx (wVar 4) (wC (.int 1))) wNil))) (wIsi clss .tup (wPp "Program" S_Program_stages (wOp gIx (wVar 6) (wC (.int 1))))))) [s0, s1, s2, s3, some (.tup [.str "made", dpP x r]), s5, some (.tup [.str "made", dgP x r]), some (dgP x r), c8, c9, c10] M R := by
    intro c8 c9 c10
    simp only [wRet, wAnd, wOp, wPp, gIx, wVar, wC, sq, sql, atI_one, List.getElem?_cons_zero, List.getElem?_cons_succ]
    refine ⟨rfl, depth_read ?_⟩
    simp only [wFn, wCons, wNil, wOp, gIx, wVar, wC, sq, sql, atI_one, List.getElem?_cons_zero, List.getElem?_cons_succ]
    refine ⟨x, r, rfl, h, ?_⟩
    simp only [gEq, eqd_int, decide_true, wIsi, wPp, wOp, gIx, wVar, wC, sq, sql, atI_one, List.getElem?_cons_zero, List.getElem?_cons_succ]
    exact ⟨rfl, stages_read w⟩
  by_cases hl : r.length < 6
  · rw [decide_eq_true (by omega)]
    simp only [wCat, wSl, wNo, wPart, wLst, wCons, wNil, wTup, wVar, wC, sql, List.getElem?_cons_zero, List.getElem?_cons_succ, List.set_cons_zero, List.set_cons_succ]
    have e1 : ∀ L : List Dt, Lw.cutD L none (some (1 : Int)) = L.take 1 := fun L => Lw.cutD_to L 1
    have e : Lw.cutD ((freeL x r).map fun z => dgS (.zip z [])) none (some 1) ++ [.tup [.str "skip", .int 1]] = (((freeL x r).take 1).map (fun z => Sx.zip z []) ++ [Sx.nu "skip" 1]).map dgS := by
      rw [e1, List.map_append, List.map_cons, dgS_skip, List.map_map, List.map_take]
      rfl
    refine ⟨by simp, szle (by simp), szle ?_, ?_⟩
    · have z : ((sources.filter fun z => decide (z ∉ x :: lvR r)).length) ≤ 4 := List.length_filter_le _ sources
      have z2 : (Lw.cutD ((sources.filter fun z => decide (z ∉ x :: lvR r)).map fun z => dgS (.zip z [])) none (some 1)).length ≤ _ := cutD_len
      rw [List.length_map] at z2
      simp only [List.length_cons, List.length_nil]
      omega
    · show forL _ _ (Lw.cutD ((freeL x r).map fun z => dgS (.zip z [])) none (some 1) ++ [.tup [.str "skip", .int 1]]) _ _ _
      rw [e]
      refine more_loop hl _ _ (fun s hs => ?_) fun c => fin _ _ c
      rcases List.mem_append.mp hs with hs | hs
      · obtain ⟨z, hz, rfl⟩ := List.mem_map.mp hs
        have hz := List.mem_of_mem_take hz
        unfold freeL at hz
        obtain ⟨h1, h2⟩ := List.mem_filter.mp hz
        exact plan_zip h hl h1 (by simpa using h2)
      · rw [List.mem_singleton.mp hs]
        exact plan_skip h hl
  · rw [decide_eq_false (by omega)]
    simp only [wLst, wNil, forL]
    exact ⟨szle (by simp), fin _ _ _⟩
end
end K02
namespace K02
open PySem PySem.Spec PyProof.Rows L2 Lw
section
variable {x : Str} {r : List Sx} {M : Mh} {R : Dt → Mh → Prop} {Rx : Rxx}
theorem fb_le {r : List Sx} {m : Nat} (h : FormR r) (e : fb 0 0 r = some m) : m ≤ r.length := by
  obtain ⟨r0, r1, rfl, _, _, h3⟩ := fb_some h (by decide) e
  rw [h3, List.length_append]
  omega
theorem asked_row {word : Str} {d : Dt} {r' : List Sx} (h : PlanOk x r) (g : RowOk x r') (hd : ∀ (R : Dt → Mh → Prop) Rx, DOutc x r' R M → S_L_due [dpP x r, .str word, d] M R Rx) (ht : ∀ (R : Dt → Mh → Prop) Rx, TOutc x r' R M → S_L_told [dgP x r, .str word, d] M R Rx)
    (hp : ∃ p, pyR M d = some p ∧ SmD 1000000 p) (w : R (.bl true) M) : S_L_asked_right [dgP x r, dpP x r, .str word, d] M R Rx := by
  obtain ⟨p, hp, sm⟩ := hp
  refine ⟨rfl, ?_⟩
  show W_L_asked_right [some (dgP x r), some (dpP x r), some (.str word), some d, none, none, none, none, none, none, none] M _
  cases q : fb 0 0 r' with
  | none =>
    refine asked_pre (w0 := "made") (a := dpP x r') (b := dgP x r') h ⟨fun R Rx z => hd R Rx (by unfold DOutc; rw [q]; exact z), fun R Rx z => ht R Rx (by unfold TOutc; rw [q]; exact z)⟩ hp sm (asked_made (g.plan q) w)
  | some m =>
    have hm := fb_le g.form q
    have hl := g.len
    exact asked_pre (w0 := "stage") (a := .int (m : Nat)) (b := .int (m : Nat)) h ⟨fun R Rx z => hd R Rx (by unfold DOutc; rw [q]; exact z), fun R Rx z => ht R Rx (by unfold TOutc; rw [q]; exact z)⟩ hp sm (asked_stage (by omega) w)
theorem asked_bad {word : Str} {d : Dt} (h : PlanOk x r) (v : VOk M d) (hd : ∀ (R : Dt → Mh → Prop) Rx, R (.tup [.str "positions", d]) M → S_L_due [dpP x r, .str word, d] M R Rx) (ht : ∀ (R : Dt → Mh → Prop) Rx, R (.tup [.str "positions", d]) M → S_L_told [dgP x r, .str word, d] M R Rx)
    (w : (sql M d = none → R (.bl true) M) ∧ ∀ p l, d = .ptr p → M p = some (.lst l) → R (.bl true) (updM M p (.lst (l ++ [.str "more"])))) : S_L_asked_right [dgP x r, dpP x r, .str word, d] M R Rx := by
  obtain ⟨p, hp, sm⟩ := v.rd
  refine ⟨rfl, ?_⟩
  show W_L_asked_right [some (dgP x r), some (dpP x r), some (.str word), some d, none, none, none, none, none, none, none] M _
  exact asked_pre (w0 := "positions") (a := d) (b := d) h ⟨hd, ht⟩ hp sm (asked_pos v w)
theorem asked_without {d : Dt} (h : PlanOk x r) (v : VOk M d) (w : R (.bl true) M) (w2 : ∀ p l, d = .ptr p → M p = some (.lst l) → R (.bl true) (updM M p (.lst (l ++ [.str "more"])))) : S_L_asked_right [dgP x r, dpP x r, .str "without", d] M R Rx := by
  cases q : (sql M d).bind fun l => okPos l r.length with
  | none =>
    refine asked_bad h v (fun R Rx z => due_without h v (by unfold WithD; rw [q]; exact z)) (fun R Rx z => told_other (without_read h v (by unfold WithO; rw [q]; exact .inl (.inl ⟨rfl, rfl, z⟩)))) ⟨fun _ => w, w2⟩
  | some ns =>
    refine asked_row (r' := keepL (keepP ns) 0 r) h ((RowOk.of h).sub (keepL_sub _ r 0)) (fun R Rx z => due_without h v (by unfold WithD; rw [q]; exact z)) (fun R Rx z => told_other (without_read h v (by unfold WithO; rw [q]; exact told_outc z))) v.rd w
theorem asked_exch {d : Dt} (h : PlanOk x r) (v : VOk M d) (w : R (.bl true) M) (w2 : ∀ p l, d = .ptr p → M p = some (.lst l) → R (.bl true) (updM M p (.lst (l ++ [.str "more"])))) : S_L_asked_right [dgP x r, dpP x r, .str "exchanged", d] M R Rx := by
  cases q : plB d (r.length - 1 : Int) with
  | false =>
    refine asked_bad h v (fun R Rx z => due_exch h v (by unfold ExchD; rw [q]; exact z)) (fun R Rx z => told_exch (exch_read h v (by unfold ExchO; rw [q]; exact .inl (.inl ⟨rfl, rfl, z⟩)))) ⟨fun _ => w, w2⟩
  | true =>
    obtain ⟨i, rfl, h1, h2⟩ := plB_int q
    have hj : exI (.int i) + 1 < r.length := by
      show i.toNat + 1 < r.length
      omega
    refine asked_row (r' := exL (exI (.int i)) r) h ((RowOk.of h).perm (exL_perm hj)) (fun R Rx z => due_exch h v (by unfold ExchD; rw [q]; exact z)) (fun R Rx z => told_exch (exch_read h v (by unfold ExchO; rw [q]; exact told_outc z))) v.rd w
/-- a stage that is put behind -/
structure StOk (s : Sx) : Prop where
  form : formS s
  rk : rkS s ≤ 2
  lv : lvS s = []
  eq : dgS s = dpS s
  el : El (dpS s)
theorem asked_then {s : Sx} (h : PlanOk x r) (k : StOk s) (w : R (.bl true) M) : S_L_asked_right [dgP x r, dpP x r, .str "then", dpS s] M R Rx := by
  have hl := h.2.1
  have g : r.length < 6 → RowOk x (r ++ [s]) := fun hl => by
    refine ⟨fun t ht => ?_, by rw [List.length_append]; simp only [List.length_cons, List.length_nil]; omega, ?_⟩
    · rcases List.mem_append.mp ht with ht | ht
      · exact form_of_okR h.1 t ht
      · rw [List.mem_singleton.mp ht]; exact k.form
    · rw [lvR_app]
      have e : lvR [s] = [] := by rw [lvR, lvR, k.lv]; rfl
      rw [e, List.append_nil]
      exact h.2.2
  by_cases e : r.length = 6
  · obtain ⟨p, hp, sm⟩ := k.el.rd (M := M)
    refine ⟨rfl, ?_⟩
    show W_L_asked_right [some (dgP x r), some (dpP x r), some (.str "then"), some (dpS s), none, none, none, none, none, none, none] M _
    refine asked_pre (w0 := "stages") (a := .non) (b := .lst (dgR r ++ [dpS s])) h ⟨fun R Rx z => due_then h (fun z => absurd e (by omega)) (by rw [if_pos e]; exact z), fun R Rx z => told_then (then_full h e (.inl (.inr ⟨rfl, rfl, z⟩)))⟩ hp sm (asked_stages h ?_ w)
    rw [← k.eq]
    exact stage_same k.form k.rk
  · have g' := g (by omega)
    refine asked_row (r' := r ++ [s]) h g' (fun R Rx z => due_then h g (by rw [if_neg e]; exact z)) (fun R Rx z => told_then ?_) k.el.rd w
    rw [← k.eq]
    exact then_row h g' (told_outc z)
end
/-! ### odd stages -/
theorem cq_flat {n : Nat} {d : Dt} (h : fl d = true) : Cq n d d true := .fl h h (by cases d <;> first | (simp [eqV, tv]; done) | cases h)
mutual
theorem cq_dpS : ∀ (s : Sx) {n : Nat}, 3 * rkS s + 1 ≤ n → Cq n (dpS s) (dpS s) true
  | .nm w x, n + 1, _ => by rw [dpS]; exact .tup (.on (cq_flat rfl) (.on (cq_flat rfl) .nil))
  | .nu w x, n + 1, _ => by rw [dpS]; exact .tup (.on (cq_flat rfl) (.on (cq_flat rfl) .nil))
  | .flat, n + 1, _ => by rw [dpS]; exact .tup (.on (cq_flat rfl) .nil)
  | .zip y r, n + 3, h => by
    rw [rkS] at h
    rw [dpS]
    exact .tup (.on (cq_flat rfl) (.on (.tup (.on (cq_flat rfl) (.on (.tup (cq_dpR r (by omega))) .nil))) .nil))
  | .zip y r, 0, h => by omega
  | .zip y r, 1, h => by rw [rkS] at h; omega
  | .zip y r, 2, h => by rw [rkS] at h; omega
theorem cq_dpR : ∀ (r : List Sx) {n : Nat}, 3 * rkR r + 1 ≤ n → CqL n (dpR r) (dpR r) true
  | [], _, _ => by rw [dpR]; exact .nil
  | s :: r, n, h => by
    rw [rkR] at h
    rw [dpR]
    exact .on (cq_dpS s (by omega)) (cq_dpR r (by omega))
end
end K02
namespace K02
open PySem PySem.Spec PyProof.Rows L2 Lw
section
variable {x : Str} {r : List Sx} {M : Mh} {f0 : Str}
theorem told_nost {d : Dt} {R : Dt → Mh → Prop} {Rx} (h : PlanOk x r) (n : NoSt (x :: lvR r) (hgR 0 r) d) (w1 : r.length < 6 → R (.tup [.str "stage", .int (r.length : Nat)]) M) (w2 : r.length = 6 → R (.tup [.str "stages", .lst (dgR r ++ [d])]) M) : S_L_told [dgP x r, .str "then", d] M R Rx := by
  have l6 := h.2.1
  by_cases e : r.length = 6
  · exact told_then (then_full h e (.inl (.inr ⟨rfl, rfl, w2 e⟩)))
  · exact told_then (then_no h (by omega) n (.inr ⟨rfl, rfl, w1 (by omega)⟩))
theorem free1_loop {c1 c2 c3 c5 c6 c7 : Option Dt} {R : List Dt → Mh → Prop} : ∀ (ls : List Str) (acc : List Dt), R (acc ++ dstrs (ls.filter fun z => decide (z ∉ x :: lvR r))) M →
    lcL (wgN 4) (wB (wOp gNotIn (wVar 4) (wPp "Program" S_Program_sources (wVar 0)))) (wVar 4) [some (dgP x r), c1, c2, c3, none, c5, c6, c7] (dstrs ls) acc M R
  | [], acc, w => by
    rw [List.filter_nil, dstrs_nil, List.append_nil] at w
    exact w
  | z :: ls, acc, w => by
    rw [dstrs_cons, lcL]
    simp only [wgN, wB, wOp, wPp, wVar, List.getElem?_cons_zero, List.getElem?_cons_succ, List.set_cons_zero, List.set_cons_succ]
    refine ⟨rfl, sources_read (inv_strs ?_)⟩
    rw [List.filter_cons] at w
    by_cases q : z ∈ x :: lvR r
    · have e1 : (!decide (z ∈ x :: lvR r)) = false := by rw [decide_eq_true q]; rfl
      rw [if_neg (by rw [decide_eq_true_eq]; exact fun n => n q)] at w
      show (match (!decide (z ∈ x :: lvR r)) with | true => _ | false => _)
      rw [e1]
      exact free1_loop ls acc w
    · have e1 : (!decide (z ∈ x :: lvR r)) = true := by rw [decide_eq_false q]; rfl
      rw [if_pos (by rw [decide_eq_true_eq]; exact q)] at w
      show (match (!decide (z ∈ x :: lvR r)) with | true => _ | false => _)
      rw [e1]
      refine free1_loop ls _ ?_
      rw [List.append_assoc]
      rw [dstrs_cons] at w
      exact w
theorem free_some (h : LsOk (x :: lvR r)) (h3 : (x :: lvR r).length ≤ 3) : ∃ z l, freeL x r = z :: l ∧ z ∈ sources ∧ z ∉ x :: lvR r := by
  rcases q : freeL x r with _ | ⟨z, l⟩
  · have all : ∀ z ∈ sources, z ∈ x :: lvR r := fun z hz => by
      have n : z ∉ freeL x r := by rw [q]; simp
      unfold freeL at n
      rw [List.mem_filter] at n
      by_cases g : z ∈ x :: lvR r
      · exact g
      · exact absurd ⟨hz, by rw [decide_eq_true_eq]; exact g⟩ n
    have z := len_sub (l := sources) (m := x :: lvR r) (by decide +kernel) all
    have e : sources.length = 4 := rfl
    omega
  · refine ⟨z, l, rfl, ?_⟩
    have hz : z ∈ freeL x r := by rw [q]; simp
    unfold freeL at hz
    obtain ⟨h1, h2⟩ := List.mem_filter.mp hz
    exact ⟨h1, of_decide_eq_true h2⟩
theorem eqd_strs_ne : decide (("stage" : Str) = "stage") = true := by decide +kernel
theorem odd_loop1 {R : De} (h : PlanOk x r) : ∀ (ds : List Dt) (c5 : Option Dt), (∀ d ∈ ds, NoSt (x :: lvR r) (hgR 0 r) d) → (∀ c, R.nx [some (dgP x r), some (dpP x r), some (.int (r.length : Nat)), some (.str f0), none, c, none, none] M) →
    forL W_L_odd_right_2g W_L_odd_right_2b ds [some (dgP x r), some (dpP x r), some (.int (r.length : Nat)), some (.str f0), none, c5, none, none] M R
  | [], c5, _, w => w c5
  | d :: ds, c5, hn, w => by
    have l6 := h.2.1
    have n := hn d (by simp)
    have next := odd_loop1 h ds (some d) (fun e he => hn e (List.mem_cons_of_mem _ he)) w
    rw [forL]
    simp only [W_L_odd_right_2g, wgN, List.set_cons_zero, List.set_cons_succ]
    simp only [W_L_odd_right_2b, wSeq, wIf, wB, wOp, wFn, wCons, wNil, wVar, wC, List.getElem?_cons_zero, List.getElem?_cons_succ]
    refine told_nost h n (fun e => ?_) (fun e => ?_)
    · simp only [gIx, sq, sql, atI_zero, wIfE, wB, wOp, wVar, wC, gLt, gInt, gNe, eqd_str, List.getElem?_cons_zero, List.getElem?_cons_succ]
      have e1 : decide ((r.length : Int) < 6) = true := decide_eq_true (by omega)
      rw [e1]
      simp only [eqd_str, decide_true, Bool.not_true, wNext, wIf, wAndT, wB, wOp, wFn, wCons, wNil, wVar, wC, gLt, gInt, e1, List.getElem?_cons_zero, List.getElem?_cons_succ]
      refine told_nost h n (fun e => ?_) (fun e' => absurd e' (by omega))
      simp only [gIx, sq, sql, atI_one, gNe, eqd_int, decide_true, Bool.not_true, wNext]
      exact next
    · simp only [gIx, sq, sql, atI_zero, wIfE, wB, wOp, wVar, wC, gLt, gInt, gNe, eqd_str, List.getElem?_cons_zero, List.getElem?_cons_succ]
      have e1 : decide ((r.length : Int) < 6) = false := decide_eq_false (by omega)
      rw [e1]
      simp only [eqd_str, decide_true, Bool.not_true, wNext, wIf, wAndT, wB, wOp, wVar, wC, gLt, gInt, e1, List.getElem?_cons_zero, List.getElem?_cons_succ]
      exact next
theorem smd_stages : ∀ m ∈ List.range 12, smB (.tuple [.str "stage", .int (m : Nat)]) = true := by decide +kernel
theorem odd_loop2 {R : De} (h : PlanOk x r) (hk : rkR r ≤ 2) : ∀ (ds : List Dt) (c5 c6 : Option Dt), (∀ d ∈ ds, BadD d ∧ Cq 13 d d true) → (∀ c c', R.nx [some (dgP x r), some (dpP x r), some (.int (r.length : Nat)), some (.str f0), none, c, c', none] M) →
    forL W_L_odd_right_3g W_L_odd_right_3b ds [some (dgP x r), some (dpP x r), some (.int (r.length : Nat)), some (.str f0), none, c5, c6, none] M R
  | [], c5, c6, _, w => w c5 c6
  | d :: ds, c5, c6, hn, w => by
    have l6 := h.2.1
    obtain ⟨n, cq⟩ := hn d (by simp)
    have next := fun c6 => odd_loop2 h hk ds (some d) c6 (fun e he => hn e (List.mem_cons_of_mem _ he)) w
    have sm := ((smB_ok (smd_stages r.length (List.mem_range.mpr (by omega)))).1).mono (m := 1000000) (by decide)
    have hp : ∀ M, pyR M (.tup [.str "stage", .int (r.length : Nat)]) = some (.tuple [.str "stage", .int (r.length : Nat)]) := fun M => by simp [pyR, py, pys]
    rw [forL]
    simp only [W_L_odd_right_3g, wgN, List.set_cons_zero, List.set_cons_succ]
    simp only [W_L_odd_right_3b, wSeq, wAsg, wgN, wFn, wCons, wNil, wVar, wC, List.getElem?_cons_zero, List.getElem?_cons_succ, List.set_cons_zero, List.set_cons_succ]
    refine told_nost h (.inl n) (fun e => ?_) (fun e => ?_)
    · have e1 : decide ((r.length : Int) < 6) = true := decide_eq_true (by omega)
      have e2 : decide ((r.length : Int) = 6) = false := decide_eq_false (by omega)
      simp only [wIf, wAndT, wB, wOp, wVar, wC, gLt, gInt, e1, wCall, wCons, wNil, wTup, gRepr, hp, gNe, eqd_str, decide_true, Bool.not_true, wNext, gEq, eqd_int, e2, List.getElem?_cons_zero, List.getElem?_cons_succ]
      exact ⟨sm, by simp, sm, next _⟩
    · have e1 : decide ((r.length : Int) < 6) = false := decide_eq_false (by omega)
      have e2 : decide ((r.length : Int) = 6) = true := decide_eq_true (by omega)
      simp only [wIf, wAndT, wB, wOp, wVar, wC, gLt, gInt, e1, wNext, gEq, eqd_int, e2, wTup, wCons, wNil, wCat, wCall, wPp, List.getElem?_cons_zero, List.getElem?_cons_succ]
      refine ⟨rfl, stages_read ?_⟩
      simp only [gList, sq, wLst, wCons, wNil, wVar, sql, List.getElem?_cons_zero, List.getElem?_cons_succ]
      have cr : CqL 13 (dgR r) (dgR r) true := by
        obtain ⟨b, c, i⟩ := cq_row r r h.1 h.1 (n := 13) (by omega)
        have : b = true := i.mpr rfl
        subst this
        exact c
      have cd : Cq 13 d d true := cq
      refine ⟨szle (by simp), szle ?_, by simp, _, _, true, rfl, rfl, .on (cq_flat rfl) (.on (.lst rfl (cql_app cr (.on cd .nil))) .nil), ?_⟩
      · rw [dgR_len]
        simp only [List.length_cons, List.length_nil]
        omega
      · simp only [Bool.not_true]
        exact next _
end
end K02
namespace K02
open PySem PySem.Spec PyProof.Rows L2 Lw
theorem dgS_zips (f0 x : Str) : dgS (.zip f0 [.zip x []]) = .tup [.str "zip", dgP f0 [.zip x []]] := by
  rw [dgS]
  rfl
theorem dgS_zipl (f0 : Str) : dgS (.zip f0 [.nu "lots" 2]) = .tup [.str "zip", dgP f0 [.nu "lots" 2]] := by
  rw [dgS]
  rfl
theorem dgR_one (s : Sx) : dgR [s] = [dgS s] := by rw [dgR, dgR]
theorem lots2 : dgS (.nu "lots" 2) = .tup [.str "lots", .int 2] := by rw [dgS]
theorem plan_lots {f0 : Str} (h : f0 ∈ sources) : PlanOk f0 [.nu "lots" 2] := by
  refine ⟨?_, by simp, ?_⟩
  · rw [okR, okR, okS]
    exact ⟨⟨by decide +kernel, by decide, by decide⟩, trivial⟩
  · have e : lvR [.nu "lots" 2] = [] := by simp [lvR, lvS]
    rw [e]
    exact .one h
theorem plan_zz {f0 x : Str} (h : f0 ∈ sources) (hx : x ∈ sources) (n : f0 ≠ x) : PlanOk f0 [.zip x []] := by
  have z := plan_zip (r := []) (z := x) (plan0 h) (by simp) hx (by
    have e : lvR [] = [] := by rw [lvR]
    rw [e]
    intro q
    exact n (List.mem_singleton.mp q).symm)
  exact z
theorem depth1 (a : Int) : (1 : Int) + min a 1 = 1 + (if 1 < a then 1 else a) := by
  split <;> omega
theorem odd_read {x : Str} {r : List Sx} {M : Mh} {R : Dt → Mh → Prop} {Rx : Rxx} (h : PlanOk x r) (h3 : (x :: lvR r).length ≤ 3) (w : R (.bl true) M) : S_L_odd_right [dgP x r, dpP x r] M R Rx := by
  obtain ⟨f0, fl', ef, hf, nf⟩ := free_some h.2.2 h3
  obtain ⟨pre, y, ey⟩ : ∃ pre y, x :: lvR r = pre ++ [y] := ⟨(x :: lvR r).dropLast, (x :: lvR r).getLast (by simp), (List.dropLast_concat_getLast (by simp)).symm⟩
  have hx : x ∈ sources := h.2.2.2 x (by simp)
  have hy : y ∈ x :: lvR r := by rw [ey]; simp
  have hys : y ∈ sources := h.2.2.2 y hy
  have hfx : f0 ≠ x := fun e => nf (by rw [e]; simp)
  have l6 := h.2.1
  have hk : rkR r ≤ 2 := by
    have h1 := rkR_le r
    rw [List.length_cons] at h3
    omega
  refine ⟨rfl, ?_⟩
  show W_L_odd_right [some (dgP x r), some (dpP x r), none, none, none, none, none, none] M _
  simp only [W_L_odd_right, wSeq, W_L_odd_right_1, wPar, wCons, wNil, wCall, wOp, gIx, wVar, wC, gLen, sq, sql, dpP, atI_one, dpR_len, wLc, wiC, wipD, List.getElem?_cons_zero, List.getElem?_cons_succ, List.set_cons_zero, List.set_cons_succ]
  refine ⟨szle (by decide), ?_⟩
  rw [sgn_abcd]
  refine free1_loop sources [] ?_
  have ef' : (sources.filter fun z => decide (z ∉ x :: lvR r)) = f0 :: fl' := ef
  rw [ef']
  simp only [List.nil_append, dstrs_cons, atI_zero, W_L_odd_right_2, wFor, W_L_odd_right_2i, wiL, wLst, wTup, wCons, wNil, wC, wMkP1, wOp, gIx, wPp, wVar, wNeg, List.getElem?_cons_zero, List.getElem?_cons_succ]
  refine ⟨rfl, sources_read ?_⟩
  have ed : dstrs (x :: lvR r) = dstrs pre ++ [.str y] := by rw [ey, dstrs_app]; rfl
  simp only [sq, ed, atI_last1]
  refine ⟨y, rfl, hys, by simp, ?_⟩
  simp only [wMkP, wTup, wLst, wCons, wNil, wC, wMkP1, wPp, wVar, List.getElem?_cons_zero, List.getElem?_cons_succ]
  refine ⟨rfl, source_read ⟨x, rfl, hx, by simp, szle (by simp), f0, _, [.zip x []], rfl, ?_, plan_zz hf hx hfx, by simp, szle (by simp), ?_⟩⟩
  · rw [dgR_one, dgS_zip0]
    rfl
  rw [← dgS_zip0, ← dgS_zips]
  refine odd_loop1 h _ none (fun d hd => ?_) fun c => ?_
  · rcases List.mem_cons.mp hd with e | hd
    · subst e
      exact .inr (.inr ⟨y, [], rfl, plan0 hys, y, by simp, hy⟩)
    · rw [List.mem_singleton.mp hd]
      exact .inr (.inr ⟨f0, [.zip x []], rfl, plan_zz hf hx hfx, x, by simp [lvR, lvS], by simp⟩)
  simp only [W_L_odd_right_3, wFor, W_L_odd_right_3i, wiL, wLst, wTup, wCons, wNil, wC, wVar, List.getElem?_cons_zero, List.getElem?_cons_succ]
  refine ⟨by simp, by simp, by simp, by simp, szle (by simp), by simp, by simp, szle (by simp), ?_⟩
  refine odd_loop2 h hk _ c none (fun d hd => ?_) fun c c' => ?_
  · simp only [List.mem_cons, List.not_mem_nil, or_false] at hd
    rcases hd with e | e | e | e | e | e | e | e | e | e <;> subst e
    · exact ⟨.fl rfl, cq_flat rfl⟩
    · exact ⟨.nil, .tup .nil⟩
    · exact ⟨.len (by decide +kernel) (by simp), .tup (.on (cq_flat rfl) .nil)⟩
    · exact ⟨.nuI (by decide +kernel) (by omega), .tup (.on (cq_flat rfl) (.on (cq_flat rfl) .nil))⟩
    · exact ⟨.nuI (by decide +kernel) (by omega), .tup (.on (cq_flat rfl) (.on (cq_flat rfl) .nil))⟩
    · exact ⟨.lst, .lst rfl (.on (cq_flat rfl) (.on (cq_flat rfl) .nil))⟩
    · exact ⟨.zip, .tup (.on (cq_flat rfl) (.on (.tup (.on (cq_flat rfl) (.on (.tup (cq_dpR r (by omega))) .nil))) .nil))⟩
    · exact ⟨.nmS (by decide +kernel) (by decide +kernel) (by decide +kernel), .tup (.on (cq_flat rfl) (.on (cq_flat rfl) .nil))⟩
    · exact ⟨.fl rfl, cq_flat rfl⟩
    · exact ⟨.fl rfl, cq_flat rfl⟩
  have hpl : r.length < 6 → PlanOk x (r ++ [.zip f0 [.nu "lots" 2]]) := fun hl => by
    have pl := plan_lots hf
    have e : lvS (.zip f0 [.nu "lots" 2]) = [f0] := by simp [lvS, lvR]
    refine plan_snoc h hl (by rw [okS]; exact ⟨pl.2.1, pl.1⟩) (fun z hz => ?_) ?_
    · rw [e] at hz
      rw [List.mem_singleton.mp hz]
      exact nf
    · rw [e]
      exact .one hf
  simp only [W_L_odd_right_4, wAsg, wgN, wFn, wTup, wMkP, wLst, wCons, wNil, wC, wVar, List.getElem?_cons_zero, List.getElem?_cons_succ, List.set_cons_zero, List.set_cons_succ]
  refine ⟨by simp, szle (by simp), f0, _, [.nu "lots" 2], rfl, by rw [dgR_one, lots2]; rfl, plan_lots hf, by simp, ?_⟩
  rw [← dgS_zipl]
  by_cases e6 : r.length = 6
  · refine told_then (then_full h e6 (.inl (.inr ⟨rfl, rfl, ?_⟩)))
    have e2 : decide ((r.length : Int) = 6) = true := decide_eq_true (by omega)
    simp only [W_L_odd_right_5, wIf, wB, wOp, wVar, wC, gEq, eqd_int, e2, wRet, gIx, sq, sql, atI_zero, eqd_str, decide_true, List.getElem?_cons_zero, List.getElem?_cons_succ]
    exact w
  · have hl : r.length < 6 := by omega
    have hp := hpl hl
    refine told_then (then_row h (RowOk.of hp) (told_outc (R := fun d M1 => W_L_odd_right_5 [some (dgP x r), some (dpP x r), some (.int (r.length : Nat)), some (.str f0), none, c, some d, none] M1 _) ?_))
    unfold TOutc
    rw [fb_ok hp.1]
    have e2 : decide ((r.length : Int) = 6) = false := decide_eq_false (by omega)
    simp only [W_L_odd_right_5, wIf, wB, wOp, wVar, wC, gEq, eqd_int, e2, wNext, List.getElem?_cons_zero, List.getElem?_cons_succ]
    simp only [W_L_odd_right_6, wAsg, wgN, wOp, wPp, wTup, wCons, wNil, wVar, List.getElem?_cons_zero, List.getElem?_cons_succ]
    refine ⟨rfl, sources_read ?_⟩
    have el : lvR (r ++ [.zip f0 [.nu "lots" 2]]) = lvR r ++ [f0] := by
      rw [lvR_app]
      congr 1
    have es : dstrs (x :: lvR r) ++ [.str f0] = dstrs (x :: lvR (r ++ [.zip f0 [.nu "lots" 2]])) := by
      rw [el, ← List.cons_append, dstrs_app]
      rfl
    have hls := hp.2.2
    refine ⟨by simp, ?_, ?_⟩
    · rw [dstrs_len]
      exact szle (by simp only [List.length_cons, List.length_nil]; rw [List.length_cons] at h3; omega)
    rw [es]
    simp only [W_L_odd_right_7, wRet, wAnd, wOp, wPp, gIx, wVar, wC, sq, sql, atI_zero, atI_one, gEq, eqd_str, decide_true, List.getElem?_cons_zero, List.getElem?_cons_succ, List.set_cons_zero, List.set_cons_succ]
    refine ⟨rfl, sources_read ?_⟩
    refine eq_strs hls ?_
    refine ⟨rfl, depth_read ?_⟩
    simp only [wOp, wC, wCall, wCons, wNil, wPp, wVar, List.getElem?_cons_zero, List.getElem?_cons_succ]
    refine ⟨rfl, depth_read ?_⟩
    have eh : hgR 0 (r ++ [.zip f0 [.nu "lots" 2]]) = 1 + min (hgR 0 r) 1 := by
      have q : ∀ (a b : List Sx) (d : Int), hgR d (a ++ b) = hgR (hgR d a) b := by
        intro a
        induction a with
        | nil => intro b d; rw [hgR]; rfl
        | cons t a ih => intro b d; rw [List.cons_append, hgR, ih, hgR]
      rw [q, hgR, hgR, hgS, hgR, hgR, hgS, if_pos rfl]
      rfl
    simp only [gMin2, Lw.gAdd, eqd_int]
    rw [eh, decide_eq_true (depth1 _)]
    exact w
end K02
namespace K02
open PySem PySem.Spec PyProof.Rows L2 Lw
/-! ### what changes: the stream, and what is new -/
def Fr (s : Addr) (M M' : Mh) : Prop := ∀ p m, p ≠ s → M p = some m → M' p = some m
theorem Fr.refl {s : Addr} {M : Mh} : Fr s M M := fun _ _ _ h => h
theorem Fr.trans {s : Addr} {M1 M2 M3 : Mh} (a : Fr s M1 M2) (b : Fr s M2 M3) : Fr s M1 M3 := fun p m n h => b p m n (a p m n h)
theorem Fr.str {s : Addr} {M : Mh} {m : Mo} : Fr s M (updM M s m) := fun p _ n h => by rw [updM_ne n]; exact h
theorem Fr.new {s p : Addr} {M : Mh} {m : Mo} (h : M p = none) : Fr s M (updM M p m) := fun q _ _ e => by
  rw [updM_ne]
  · exact e
  · rintro rfl
    rw [h] at e
    cases e
theorem Stm.ne {s p : Addr} {M : Mh} (h : Stm M s) (n : M p = none) : p ≠ s := by
  rintro rfl
  obtain ⟨r, m, e⟩ := h
  rw [n] at e
  cases e
theorem Stm.new {s p : Addr} {M : Mh} {m : Mo} (h : Stm M s) (n : p ≠ s) : Stm (updM M p m) s := by
  obtain ⟨r, k, e⟩ := h
  exact ⟨r, k, by rw [updM_ne n.symm]; exact e⟩
theorem stm_at {s : Addr} {M : Mh} {r m : Int} : Stm (updM M s (.lst [.int r, .int m])) s := ⟨r, m, updM_same⟩
section
variable {s : Addr} {M : Mh} {R : Dt → Mh → Prop} {Rx : Rxx}
theorem draw_rd {n : Int} (h : Stm M s) (h0 : 0 < n) (h1 : n < 1073741824) (w : ∀ d M', 0 ≤ d → d < n → Fr s M M' → Stm M' s → R (.int d) M') : S_L_draw [.ptr s, .int n] M R Rx :=
  ⟨s, n, rfl, h, h0, h1, fun d r m a b => w d _ a b .str stm_at⟩
theorem pick_rd {l : List Dt} (h : Stm M s) (h0 : 0 < l.length) (h1 : l.length ≤ 1000) (w : ∀ x M', x ∈ l → Fr s M M' → Stm M' s → R x M') : S_L_pick [.ptr s, .lst l] M R Rx :=
  ⟨s, l, rfl, h, h0, h1, fun i x r m hx => w x _ (List.mem_of_getElem? hx) .str stm_at⟩
theorem mixed_rd {l : List Dt} (h : Stm M s) (h1 : l.length ≤ 1000) (w : ∀ p qs M', qs.Perm l → Fr s M M' → Stm M' s → p ≠ s → M' p = some (.lst qs) → R (.ptr p) M') : S_L_mixed [.ptr s, .lst l] M R Rx :=
  ⟨s, l, rfl, h, h1, fun p qs r m pe hp => w p qs _ pe (Fr.str.trans (.new (by rw [updM_ne (h.ne hp)]; exact hp))) (stm_at.new (h.ne hp)) (h.ne hp) updM_same⟩
theorem perm_strs {qs : List Dt} {l : List Str} (h : qs.Perm (dstrs l)) : ∃ ps : List Str, qs = dstrs ps ∧ ps.Perm l := by
  have all : ∀ d ∈ qs, ∃ z, d = .str z := fun d hd => by
    obtain ⟨z, _, e⟩ := List.mem_map.mp (h.subset hd)
    exact ⟨z, e.symm⟩
  have e : ∃ ps : List Str, qs = dstrs ps := by
    clear h
    induction qs with
    | nil => exact ⟨[], rfl⟩
    | cons d qs ih =>
      obtain ⟨z, rfl⟩ := all d (by simp)
      obtain ⟨ps, rfl⟩ := ih fun d hd => all d (List.mem_cons_of_mem _ hd)
      exact ⟨z :: ps, rfl⟩
  obtain ⟨ps, rfl⟩ := e
  refine ⟨ps, rfl, ?_⟩
  have inj : ∀ a b : Str, Dt.str a = Dt.str b → a = b := fun a b e => Dt.str.inj e
  have key : (ps.map Dt.str).map (fun d => match d with | .str z => z | _ => Str.empty) = ps := by
    rw [List.map_map]
    exact List.map_id _
  have key2 : (l.map Dt.str).map (fun d => match d with | .str z => z | _ => Str.empty) = l := by
    rw [List.map_map]
    exact List.map_id _
  have z := h.map (fun d => match d with | .str z => z | _ => Str.empty)
  unfold dstrs at z
  rw [key, key2] at z
  exact z
/-- a plan over three of the sources -/
theorem plan3_rd {δ : Sl} {i : Nat} (h : Stm M s) (hi : δ[i]? = some (some (.ptr s))) (w : ∀ x r M', PlanOk x r → (x :: lvR r).length ≤ 3 → Fr s M M' → Stm M' s → R (dpP x r) M') :
    wFn S_L_plan (wCons (wVar i) (wCons (wSlM (wFn S_L_mixed (wCons (wVar i) (wCons (wLst (wCons (wC (.str "a")) (wCons (wC (.str "b")) (wCons (wC (.str "c")) (wCons (wC (.str "d")) wNil))))) wNil))) wNo (wPart (wC (.int 3)))) (wCons (wC (.int 6)) wNil))) δ M R := by
  simp only [wFn, wCons, wNil, wVar, hi, wSlM, wLst, wC, wNo, wPart]
  refine ⟨szle (by simp), ?_⟩
  refine mixed_rd (l := dstrs sources) h (by decide) fun p qs M1 pe f1 st1 np e1 => ?_
  obtain ⟨ps, rfl, pp⟩ := perm_strs pe
  simp only [sql, e1]
  intro q hq
  have e3 : Lw.cutD (dstrs ps) none (some (3 : Int)) = dstrs (ps.take 3) := by
    have z : Lw.cutD (dstrs ps) none (some (3 : Int)) = (dstrs ps).take 3 := Lw.cutD_to _ 3
    rw [z]
    unfold dstrs
    rw [List.map_take]
  rw [e3]
  have hl : ps.length = 4 := pp.length_eq
  have l3 : (ps.take 3).length = 3 := by rw [List.length_take, hl]; rfl
  have ls : LsOk (ps.take 3) := by
    have z : LsOk ps := ⟨pp.nodup_iff.mpr (by decide +kernel), fun x hx => pp.subset hx⟩
    exact z.sub (List.take_sublist 3 ps)
  have nq := st1.ne hq
  refine ⟨s, q, 6, ps.take 3, rfl, st1.new nq, updM_same, by omega, (fun e => by rw [e] at l3; cases l3), by omega, by omega, ls, fun x r rest a b hP _ hl3 => ?_⟩
  refine w x r _ hP (by rw [l3] at hl3; exact hl3) ?_ ?_
  · intro z m nz hz
    have h1 := f1 z m nz hz
    have nzq : z ≠ q := by
      rintro rfl
      rw [hq] at h1
      cases h1
    rw [updM_ne nzq, updM_ne nz, updM_ne nzq]
    exact h1
  · exact stm_at.new nq
end
end K02
namespace K02
open PySem PySem.Spec PyProof.Rows L2 Lw
section
variable {s : Addr} {M : Mh} {R : Dt → Mh → Prop} {Rx : Rxx}
theorem free2_loop {x : Str} {r : List Sx} {M : Mh} {c0 c1 c3 c4 c5 c7 : Option Dt} {R : List Dt → Mh → Prop} : ∀ (ls : List Str) (acc : List Dt), R (acc ++ dstrs (ls.filter fun z => decide (z ∉ x :: lvR r))) M →
    lcL (wgN 6) (wB (wOp gNotIn (wVar 6) (wPp "Program" S_Program_sources (wVar 2)))) (wVar 6) [c0, c1, some (dgP x r), c3, c4, c5, none, c7] (dstrs ls) acc M R
  | [], acc, w => by
    rw [List.filter_nil, dstrs_nil, List.append_nil] at w
    exact w
  | z :: ls, acc, w => by
    rw [dstrs_cons, lcL]
    simp only [wgN, wB, wOp, wPp, wVar, List.getElem?_cons_zero, List.getElem?_cons_succ, List.set_cons_zero, List.set_cons_succ]
    refine ⟨rfl, sources_read (inv_strs ?_)⟩
    rw [List.filter_cons] at w
    by_cases q : z ∈ x :: lvR r
    · have e1 : (!decide (z ∈ x :: lvR r)) = false := by rw [decide_eq_true q]; rfl
      rw [if_neg (by rw [decide_eq_true_eq]; exact fun n => n q)] at w
      show (match (!decide (z ∈ x :: lvR r)) with | true => _ | false => _)
      rw [e1]
      exact free2_loop ls acc w
    · have e1 : (!decide (z ∈ x :: lvR r)) = true := by rw [decide_eq_false q]; rfl
      rw [if_pos (by rw [decide_eq_true_eq]; exact q)] at w
      show (match (!decide (z ∈ x :: lvR r)) with | true => _ | false => _)
      rw [e1]
      refine free2_loop ls _ ?_
      rw [List.append_assoc]
      rw [dstrs_cons] at w
      exact w
/-- none of these is equal -/
theorem none_loop {x : Str} {r : List Sx} {M : Mh} {c0 c1 c3 c4 c5 c6 : Option Dt} {R : List Dt → Mh → Prop} : ∀ (ds acc : List Dt), (∀ d ∈ ds, ∀ R' : Dt → Mh → Prop, R' (.bl false) M → gPgEq (dgP x r) d M R') → R acc M →
    lcL (wgN 7) (wB (wOp gPgEq (wVar 2) (wVar 7))) (wVar 7) [c0, c1, some (dgP x r), c3, c4, c5, c6, none] ds acc M R
  | [], acc, _, w => w
  | d :: ds, acc, h, w => by
    rw [lcL]
    simp only [wgN, wB, wOp, wVar, List.getElem?_cons_zero, List.getElem?_cons_succ, List.set_cons_zero, List.set_cons_succ]
    exact h d (by simp) _ (none_loop ds acc (fun e he => h e (List.mem_cons_of_mem _ he)) w)
theorem kind_no {x : Str} {r : List Sx} {d : Dt} {k : Kd} (h : ky M d = some (.b k)) : ∀ R' : Dt → Mh → Prop, R' (.bl false) M → gPgEq (dgP x r) d M R' := fun R' w => .inr ⟨_, _, _, _, k, pg_form x r, h, w⟩
theorem compared_read {x : Str} {r : List Sx} (h : PlanOk x r) (h3 : (x :: lvR r).length ≤ 3) (st : Stm M s) (w : ∀ M', Fr s M M' → Stm M' s → R (.bl true) M') : S_L_compared [.ptr s, dpP x r, dgP x r] M R Rx := by
  refine ⟨rfl, ?_⟩
  show W_L_compared [some (.ptr s), some (dpP x r), some (dgP x r), none, none, none, none, none] M _
  have l6 := h.2.1
  obtain ⟨f0, fl', ef, hf, nf⟩ := free_some h.2.2 h3
  simp only [W_L_compared, wSeq, W_L_compared_1, wAsg, wMkP, wCons, wNil, wOp, gIx, wVar, wC, wCall, wPp, dpP, sq, sql, atI_zero, wgN, List.getElem?_cons_zero, List.getElem?_cons_succ, List.set_cons_zero, List.set_cons_succ]
  refine ⟨rfl, stages_read ?_⟩
  simp only [gTuple, sq]
  refine ⟨x, _, r, rfl, rfl, h, ?_⟩
  simp only [W_L_compared_2, wAsg, wgN]
  show wFn S_L_program _ _ M _
  unfold wFn
  rw [show ∀ a : WE, wCons a wNil = fun δ M R => a δ M fun x M1 => R [x] M1 from fun a => rfl]
  refine plan3_rd st rfl fun y r2 M1 h2 _ f1 st1 => ?_
  refine ⟨y, r2, rfl, h2, ?_⟩
  simp only [W_L_compared_3, wIf, wOrT, wNotT, wB, wOp, wVar, List.getElem?_cons_zero, List.getElem?_cons_succ, List.set_cons_zero, List.set_cons_succ]
  refine .inl ⟨true, pg_same h, ?_⟩
  simp only [Bool.not_true]
  refine ⟨true, pg_same h, ?_⟩
  simp only [Bool.not_true, wNext]
  have rest : W_L_compared_5 [some (.ptr s), some (.tup [.str x, .tup (dpR r)]), some (dgP x r), some (dgP x r), some (dgP y r2), none, none, none] M1 { nx := fun δ' M' => W_L_compared_6 δ' M' { nx := fun _ M' => R .non M', rt := R, ex := Rx }, rt := R, ex := Rx } := by
    simp only [W_L_compared_5, wAsg, wMkP, wCons, wNil, wOp, gIx, wVar, wC, wPp, wLc, wiC, wipD, wgN, List.getElem?_cons_zero, List.getElem?_cons_succ, List.set_cons_zero, List.set_cons_succ]
    refine ⟨szle (by decide), ?_⟩
    rw [sgn_abcd]
    refine free2_loop sources [] ?_
    have ef' : (sources.filter fun z => decide (z ∉ x :: lvR r)) = f0 :: fl' := ef
    rw [ef']
    simp only [List.nil_append, dstrs_cons, sq, sql, atI_zero]
    refine ⟨rfl, stages_read ⟨f0, _, r, rfl, rfl, ⟨h.1, h.2.1, ?_⟩, ?_⟩⟩
    · have z := h.2.2.sub (List.sublist_cons_self x (lvR r))
      refine ⟨List.nodup_cons.mpr ⟨fun q => nf (List.mem_cons_of_mem _ q), z.1⟩, fun y hy => ?_⟩
      rcases List.mem_cons.mp hy with e | e
      · subst e; exact hf
      · exact z.2 y e
    simp only [W_L_compared_6, wRet, wOp, wLc, wiL, wLst, wCons, wNil, wC, wVar, gIx, wPp, sq, sql, atI_one, wipD, List.getElem?_cons_zero, List.getElem?_cons_succ, List.set_cons_zero, List.set_cons_succ]
    refine ⟨rfl, stages_read ⟨szle (by simp), szle (by simp), ?_⟩⟩
    refine none_loop _ [] (fun d hd => ?_) ⟨szle (by simp), ?_⟩
    · simp only [List.mem_cons, List.not_mem_nil, or_false] at hd
      rcases hd with e | e | e | e | e | e | e <;> subst e
      · exact kind_no (k := .non) rfl
      · exact kind_no (k := .tup) rfl
      · exact kind_no (k := .tup) rfl
      · exact kind_no (k := .tup) rfl
      · exact kind_no (k := .str) rfl
      · exact kind_no (k := .int) rfl
      · exact fun R' w => .inl ⟨false, ⟨_, _, _, _, _, _, _, _, pg_form x r, pg_form f0 r, .inr ⟨fun e => nf (by rw [← e]; simp), rfl⟩⟩, w⟩
    · exact w M1 f1 st1
  obtain ⟨b, c, i⟩ := cq_prog (x := y) (x' := x) h2.1 h.1 (n := 14) (by have := rk_lt4 h2.2.2; omega)
  simp only [W_L_compared_4, wIf, wB, wOp, wVar, List.getElem?_cons_zero, List.getElem?_cons_succ]
  refine .inl ⟨b, c, ?_⟩
  simp only [wAnd, wOp, wPp, wVar, List.getElem?_cons_zero, List.getElem?_cons_succ]
  refine ⟨rfl, source_read ⟨rfl, source_read ?_⟩⟩
  simp only [gEq, eqd_str]
  by_cases e : y = x
  · rw [decide_eq_true e]
    simp only
    obtain ⟨b2, c2, i2⟩ := cq_row r2 r h2.1 h.1 (n := 14) (by have := rk_lt4 h2.2.2; omega)
    refine ⟨rfl, stages_read ⟨rfl, stages_read ⟨b2, ⟨_, _, rfl, rfl, c2⟩, ?_⟩⟩⟩
    have eb : b = b2 := by
      rw [Bool.eq_iff_iff, i, i2]
      exact ⟨fun z => z.2, fun z => ⟨e, z⟩⟩
    subst eb
    simp only [gNe, eqd_bl, decide_true, Bool.not_true, wNext]
    exact rest
  · rw [decide_eq_false e]
    have eb : b = false := by
      cases b with
      | false => rfl
      | true => exact absurd (i.mp rfl).1 e
    subst eb
    simp only [gNe, eqd_bl, decide_true, Bool.not_true, wNext]
    exact rest
end
end K02
namespace K02
open PySem PySem.Spec PyProof.Rows L2 Lw
/-! ### things that may be asked, and stay so -/
inductive OddOk (k : Nat) (s : Addr) (M : Mh) : Dt → Prop
  | el {d : Dt} : El d → (∀ l, d ≠ .lst l) → OddOk k s M d
  | lst {p : Addr} {l : List Dt} : M p = some (.lst l) → (∀ e ∈ l, El e) → l.length ≤ k → p ≠ s → OddOk k s M (.ptr p)
  | dic {p : Addr} : M p = some (.dic [] []) → p ≠ s → OddOk k s M (.ptr p)
/-- .. after one was asked -/
def Ap (s : Addr) (M M' : Mh) : Prop := M' = M ∨ ∃ p l, M p = some (.lst l) ∧ (∀ e ∈ l, El e) ∧ p ≠ s ∧ M' = updM M p (.lst (l ++ [.str "more"]))
section
variable {k : Nat} {s : Addr} {M M' : Mh} {d : Dt}
theorem OddOk.v (h : OddOk k s M d) (hk : k ≤ 40) : VOk M d := by
  cases h with
  | el a b => exact .el a b
  | lst a b c _ => exact .lst a b (by omega)
  | dic a _ => exact .dic a
theorem OddOk.fr (h : OddOk k s M d) (f : Fr s M M') : OddOk k s M' d := by
  cases h with
  | el a b => exact .el a b
  | lst a b c n => exact .lst (f _ _ n a) b c n
  | dic a n => exact .dic (f _ _ n a) n
theorem OddOk.mono {j : Nat} (h : OddOk k s M d) (hk : k ≤ j) : OddOk j s M d := by
  cases h with
  | el a b => exact .el a b
  | lst a b c n => exact .lst a b (by omega) n
  | dic a n => exact .dic a n
theorem OddOk.ap (h : OddOk k s M d) (f : Ap s M M') : OddOk (k + 1) s M' d := by
  rcases f with rfl | ⟨p, l, h1, h2, h3, rfl⟩
  · exact h.mono (by omega)
  · cases h with
    | el a b => exact .el a b
    | @lst q l' a b c n =>
      by_cases e : q = p
      · subst e
        rw [h1] at a
        cases a
        exact .lst updM_same (fun e he => by
          rcases List.mem_append.mp he with h | h
          · exact h2 e h
          · rw [List.mem_singleton.mp h]; exact el_more) (by rw [List.length_append]; simp only [List.length_cons, List.length_nil]; omega) n
      · exact .lst (by rw [updM_ne e]; exact a) b (by omega) n
    | @dic q a n =>
      have e : q ≠ p := by
        rintro rfl
        rw [h1] at a
        cases a
      exact .dic (by rw [updM_ne e]; exact a) n
theorem Stm.ap (h : Stm M s) (f : Ap s M M') : Stm M' s := by
  rcases f with rfl | ⟨p, l, _, _, n, rfl⟩
  · exact h
  · exact h.new n
theorem asked_w {x : Str} {r : List Sx} {R : Dt → Mh → Prop} {Rx} (h : PlanOk x r) (o : OddOk k s M d) (hk : k ≤ 40) (w : ∀ M', Ap s M M' → R (.bl true) M') : S_L_asked_right [dgP x r, dpP x r, .str "without", d] M R Rx := by
  refine asked_without h (o.v hk) (w M (.inl rfl)) fun p l e hM => w _ ?_
  subst e
  cases o with
  | el a b => obtain ⟨k, a⟩ := a.kd; have := a (fun _ => none); simp [ky] at this
  | lst a b c n =>
    rw [hM] at a
    cases a
    exact .inr ⟨p, l, hM, b, n, rfl⟩
  | dic a n =>
    rw [hM] at a
    cases a
theorem asked_e {x : Str} {r : List Sx} {R : Dt → Mh → Prop} {Rx} (h : PlanOk x r) (o : OddOk k s M d) (hk : k ≤ 40) (w : ∀ M', Ap s M M' → R (.bl true) M') : S_L_asked_right [dgP x r, dpP x r, .str "exchanged", d] M R Rx := by
  refine asked_exch h (o.v hk) (w M (.inl rfl)) fun p l e hM => w _ ?_
  subst e
  cases o with
  | el a b => obtain ⟨k, a⟩ := a.kd; have := a (fun _ => none); simp [ky] at this
  | lst a b c n =>
    rw [hM] at a
    cases a
    exact .inr ⟨p, l, hM, b, n, rfl⟩
  | dic a n =>
    rw [hM] at a
    cases a
end
/-! small things -/
theorem El.of {d : Dt} {k : Kd} {p : PyData} (h : ∀ M, ky M d = some (.b k)) (e : py d = some p) (s : smB p = true) : El d := ⟨⟨k, h⟩, p, e, smB_ok s⟩
theorem el_non : El .non := .of (k := .non) (fun _ => rfl) (p := .none) (by simp [py]) (by decide +kernel)
theorem el_tru : El (.bl true) := .of (k := .bl) (fun _ => rfl) (p := .bool true) (by simp [py]) (by decide +kernel)
theorem el_0 : El (.str "0") := .of (k := .str) (fun _ => rfl) (p := .str "0") (by simp [py]) (by decide +kernel)
theorem el_neg : El (.int (0 - 1)) := .of (k := .int) (fun _ => rfl) (p := .int (-1)) (by simp [py]) (by decide +kernel)
theorem el_pow : El (.int (10 ^ (30 : Int).toNat)) := .of (k := .int) (fun _ => rfl) (p := .int (10 ^ (30 : Int).toNat)) (by simp [py]) (by decide +kernel)
theorem el_int {m : Nat} (h : m ≤ 10) : El (.int (m : Nat)) := ⟨⟨.int, fun _ => rfl⟩, .int (m : Nat), by simp [py], smd_int h⟩
theorem el_00 : El (.int 0) := el_int (m := 0) (by omega)
theorem el_l0 : El (.lst [.int 0]) := .of (k := .lst) (fun _ => rfl) (p := .list [.int 0]) (by simp [py, pys]) (by decide +kernel)
theorem el_t : El (.tup []) := .of (k := .tup) (fun _ => rfl) (p := .tuple []) (by simp [py, pys]) (by decide +kernel)
theorem el_t0 : El (.tup [.int 0]) := .of (k := .tup) (fun _ => rfl) (p := .tuple [.int 0]) (by simp [py, pys]) (by decide +kernel)
/-! the five stages -/
def five : List Sx := [.flat, .nu "lots" 2, .nm "map" "f", .nu "take" 4, .nm "keep" "abcdefgh"]
theorem five_eq : five.map dpS = [.tup [.str "flat"], .tup [.str "lots", .int 2], .tup [.str "map", .str "f"], .tup [.str "take", .int 4], .tup [.str "keep", .str "abcdefgh"]] := by simp [five, dpS]
theorem five_ok : ∀ s ∈ five, StOk s := by
  intro s hs
  unfold five at hs
  simp only [List.mem_cons, List.not_mem_nil, or_false] at hs
  rcases hs with e | e | e | e | e <;> subst e
  · exact ⟨by show (0 : Int) < 1; decide, by simp [rkS], by simp [lvS], by simp [dgS, dpS], by rw [dpS]; exact .of (k := .tup) (fun _ => rfl) (p := .tuple [.str "flat"]) (by simp [py, pys]) (by decide +kernel)⟩
  · exact ⟨by unfold formS; rw [okS]; exact ⟨by decide +kernel, by decide, by decide⟩, by simp [rkS], by simp [lvS], by simp [dgS, dpS], by rw [dpS]; exact .of (k := .tup) (fun _ => rfl) (p := .tuple [.str "lots", .int 2]) (by simp [py, pys]) (by decide +kernel)⟩
  · exact ⟨by unfold formS; rw [okS]; exact ⟨by decide +kernel, by decide +kernel⟩, by simp [rkS], by simp [lvS], by simp [dgS, dpS], by rw [dpS]; exact .of (k := .tup) (fun _ => rfl) (p := .tuple [.str "map", .str "f"]) (by simp [py, pys]) (by decide +kernel)⟩
  · exact ⟨by unfold formS; rw [okS]; exact ⟨by decide +kernel, by decide, by decide⟩, by simp [rkS], by simp [lvS], by simp [dgS, dpS], by rw [dpS]; exact .of (k := .tup) (fun _ => rfl) (p := .tuple [.str "take", .int 4]) (by simp [py, pys]) (by decide +kernel)⟩
  · exact ⟨by unfold formS; rw [okS]; exact ⟨by decide +kernel, by decide +kernel⟩, by simp [rkS], by simp [lvS], by simp [dgS, dpS], by rw [dpS]; exact .of (k := .tup) (fun _ => rfl) (p := .tuple [.str "keep", .str "abcdefgh"]) (by simp [py, pys]) (by decide +kernel)⟩
section
variable {x : Str} {r : List Sx} {s : Addr} {R : De} {c0 c1 c3 : Option Dt}
theorem five_loop {M : Mh} {c8 c9 c10 c11 c12 c13 c14 c15 : Option Dt} (h : PlanOk x r) : ∀ (ls : List Sx) (c7 : Option Dt), (∀ t ∈ ls, StOk t) → (∀ c, R.nx [c0, c1, some (.ptr s), c3, some (dpP x r), some (dgP x r), some (.int (r.length : Nat)), c, c8, c9, c10, c11, c12, c13, c14, c15] M) →
    forL W_law_1b_2b_3g W_law_1b_2b_3b (ls.map dpS) [c0, c1, some (.ptr s), c3, some (dpP x r), some (dgP x r), some (.int (r.length : Nat)), c7, c8, c9, c10, c11, c12, c13, c14, c15] M R
  | [], c7, _, w => w c7
  | t :: ls, c7, hs, w => by
    rw [List.map_cons, forL]
    simp only [W_law_1b_2b_3g, W_law_1b_2b_3b, W_law_1b_2b_3b_1, wgN, wIf, wNotT, wB, wFn, wCons, wNil, wVar, wC, List.getElem?_cons_zero, List.getElem?_cons_succ, List.set_cons_zero, List.set_cons_succ]
    refine asked_then h (hs t (by simp)) ?_
    simp only [Bool.not_true, wNext]
    exact five_loop h ls _ (fun u hu => hs u (List.mem_cons_of_mem _ hu)) w
theorem place_loop {c7 c8 c9 c10 c11 c12 c13 c14 : Option Dt} (h : PlanOk x r) : ∀ (ds : List Dt) (k : Nat) (M : Mh) (c15 : Option Dt), k + ds.length ≤ 40 → Stm M s → (∀ d ∈ ds, OddOk k s M d) → (∀ M' c, Stm M' s → R.nx [c0, c1, some (.ptr s), c3, some (dpP x r), some (dgP x r), some (.int (r.length : Nat)), c7, c8, c9, c10, c11, c12, c13, c14, c] M') →
    forL W_law_1b_2b_7g W_law_1b_2b_7b ds [c0, c1, some (.ptr s), c3, some (dpP x r), some (dgP x r), some (.int (r.length : Nat)), c7, c8, c9, c10, c11, c12, c13, c14, c15] M R
  | [], k, M, c15, _, st, _, w => w M c15 st
  | d :: ds, k, M, c15, hk, st, ho, w => by
    rw [forL]
    rw [List.length_cons] at hk
    simp only [W_law_1b_2b_7g, W_law_1b_2b_7b, W_law_1b_2b_7b_1, wgN, wIf, wNotT, wB, wFn, wCons, wNil, wVar, wC, List.getElem?_cons_zero, List.getElem?_cons_succ, List.set_cons_zero, List.set_cons_succ]
    refine asked_e h (ho d (by simp)) (by omega) fun M' f => ?_
    simp only [Bool.not_true, wNext]
    exact place_loop h ds (k + 1) M' _ (by omega) (st.ap f) (fun e he => (ho e (List.mem_cons_of_mem _ he)).ap f) w
theorem rng_mem {n : Nat} {d : Dt} (h : d ∈ rng 0 n) : ∃ i : Nat, d = .int (i : Nat) ∧ i < n := by
  unfold rng at h
  obtain ⟨i, hi, rfl⟩ := List.mem_map.mp h
  exact ⟨i, by rw [Int.zero_add], List.mem_range.mp hi⟩
theorem rng_len (lo : Int) (n : Nat) : (rng lo n).length = n := by unfold rng; rw [List.length_map, List.length_range]
theorem look_loop {odds : List Dt} {c7 c15 : Option Dt} (h : PlanOk x r) (ho0 : 0 < odds.length) (ho1 : odds.length ≤ 1000) : ∀ (ds : List Dt) (k : Nat) (M : Mh) (c9 c10 c11 c12 c13 c14 : Option Dt), 7 ≤ k → k + ds.length ≤ 40 → Stm M s → (∀ d ∈ odds, OddOk k s M d) →
    (∀ M' c9 c10 c11 c12 c13 c14, Stm M' s → R.nx [c0, c1, some (.ptr s), c3, some (dpP x r), some (dgP x r), some (.int (r.length : Nat)), c7, some (.lst odds), c9, c10, c11, c12, c13, c14, c15] M') →
    forL W_law_1b_2b_6g W_law_1b_2b_6b ds [c0, c1, some (.ptr s), c3, some (dpP x r), some (dgP x r), some (.int (r.length : Nat)), c7, some (.lst odds), c9, c10, c11, c12, c13, c14, c15] M R
  | [], k, M, c9, c10, c11, c12, c13, c14, _, _, st, _, w => w M c9 c10 c11 c12 c13 c14 st
  | d0 :: ds, k, M, c9, c10, c11, c12, c13, c14, h7, hk, st, ho, w => by
    have l6 := h.2.1
    rw [forL]
    rw [List.length_cons] at hk
    simp only [W_law_1b_2b_6g, wgN, List.set_cons_zero, List.set_cons_succ]
    simp only [W_law_1b_2b_6b, wSeq, W_law_1b_2b_6b_1, wAsg, wSlM, wFn, wCons, wNil, wVar, wC, wRngL, wNo, wPart, wOp, wgN, List.getElem?_cons_zero, List.getElem?_cons_succ, List.set_cons_zero, List.set_cons_succ]
    refine ⟨by omega, by omega, ?_⟩
    refine mixed_rd st (by rw [rng_len]; omega) fun p qs M1 pe f1 st1 np e1 => ?_
    simp only [Lw.gAdd]
    refine draw_rd st1 (by omega) (by omega) fun n M2 n0 n1 f2 st2 => ?_
    have e2 := f2 p _ np e1
    simp only [sql, e2]
    intro q hq
    obtain ⟨n, rfl⟩ : ∃ m : Nat, n = (m : Int) := ⟨n.toNat, by omega⟩
    have ec : Lw.cutD qs none (some (n : Int)) = qs.take n := Lw.cutD_to _ _
    rw [ec]
    have nq := st2.ne hq
    have lq : qs.length = r.length := by rw [pe.length_eq, rng_len]; omega
    have elq : ∀ d ∈ qs, El d := fun d hd => by
      obtain ⟨i, rfl, hi⟩ := rng_mem (pe.subset hd)
      exact el_int (by omega)
    have els : ∀ d ∈ qs.take n, El d := fun d hd => elq d (List.mem_of_mem_take hd)
    have lsl : (qs.take n).length ≤ 6 := by rw [List.length_take]; omega
    generalize qs.take n = some0 at els lsl ⊢
    have e3 : (updM M2 q (.lst some0)) q = some (.lst some0) := updM_same
    have f3 : Fr s M (updM M2 q (.lst some0)) := (f1.trans f2).trans (.new hq)
    have st3 : Stm (updM M2 q (.lst some0)) s := st2.new nq
    generalize updM M2 q (.lst some0) = M3 at e3 f3 st3 ⊢
    simp only [W_law_1b_2b_6b_2, wAsg, wFn, wCons, wNil, wVar, wC, wOp, wCall, gLen, sq, sql, e3, Lw.gAdd, wgN, List.getElem?_cons_zero, List.getElem?_cons_succ, List.set_cons_zero, List.set_cons_succ]
    refine draw_rd st3 (by omega) (by omega) fun nr M4 a0 a1 f4 st4 => ?_
    have e4 := f4 q _ nq e3
    obtain ⟨nr, rfl⟩ : ∃ m : Nat, nr = (m : Int) := ⟨nr.toNat, by omega⟩
    simp only [W_law_1b_2b_6b_3, wAsg, wFn, wCons, wNil, wVar, wC, wOp, wCat, wLst, sql, e4, Lw.gSub, wgN, List.getElem?_cons_zero, List.getElem?_cons_succ, List.set_cons_zero, List.set_cons_succ]
    refine ⟨szle (by simp), szle (by simp), szle (by simp only [List.length_cons, List.length_nil]; omega), ?_⟩
    refine pick_rd st4 (by simp) (by rw [List.length_append]; simp only [List.length_cons, List.length_nil]; omega) fun more M5 hm f5 st5 => ?_
    have elm : El more := by
      rcases List.mem_append.mp hm with hm | hm
      · simp only [List.mem_cons, List.not_mem_nil, or_false] at hm
        rcases hm with e | e | e | e | e | e <;> subst e
        · exact el_non
        · exact el_tru
        · exact el_int (by omega)
        · exact el_neg
        · exact el_0
        · exact el_l0
      · exact els more hm
    have e5 := f5 q _ nq e4
    have ec1 : Lw.cutD some0 none (some (nr : Int)) = some0.take nr := Lw.cutD_to _ _
    have ec2 : Lw.cutD some0 (some (nr : Int)) none = some0.drop nr := Lw.cutD_from _ _
    simp only [W_law_1b_2b_6b_4, wAsg, wCatM, wCat, wCall, wCons, wNil, wSl, wNo, wPart, wLst, gList, wVar, sq, sql, e5, ec1, ec2, wgN, List.getElem?_cons_zero, List.getElem?_cons_succ, List.set_cons_zero, List.set_cons_succ]
    refine ⟨szle (by simp), szle (by simp only [List.length_take, List.length_cons, List.length_nil]; omega), szle (by simp only [List.length_append, List.length_take, List.length_drop, List.length_cons, List.length_nil]; omega), fun q2 hq2 => ?_⟩
    have nq2 := st5.ne hq2
    have elb : ∀ d ∈ some0.take nr ++ [more] ++ some0.drop nr, El d := fun d hd => by
      rcases List.mem_append.mp hd with hd | hd
      · rcases List.mem_append.mp hd with hd | hd
        · exact els d (List.mem_of_mem_take hd)
        · rw [List.mem_singleton.mp hd]; exact elm
      · exact els d (List.mem_of_mem_drop hd)
    have lb : (some0.take nr ++ [more] ++ some0.drop nr).length ≤ 7 := by
      simp only [List.length_append, List.length_take, List.length_drop, List.length_cons, List.length_nil]
      omega
    generalize some0.take nr ++ [more] ++ some0.drop nr = bad0 at elb lb ⊢
    have e6 : (updM M5 q2 (.lst bad0)) q2 = some (.lst bad0) := updM_same
    have e6q : (updM M5 q2 (.lst bad0)) q = some (.lst some0) := Fr.new (s := s) hq2 q _ nq e5
    have f6 : Fr s M (updM M5 q2 (.lst bad0)) := ((f3.trans f4).trans f5).trans (.new hq2)
    have st6 : Stm (updM M5 q2 (.lst bad0)) s := st5.new nq2
    generalize updM M5 q2 (.lst bad0) = M6 at e6 e6q f6 st6 ⊢
    simp only [W_law_1b_2b_6b_5, wAsg, wFn, wLst, wCons, wNil, wVar, wgN, List.getElem?_cons_zero, List.getElem?_cons_succ, List.set_cons_zero, List.set_cons_succ]
    refine pick_rd st6 ho0 ho1 fun v0 M7 hv0 f7 st7 => ?_
    refine ⟨szle (by simp), ?_⟩
    refine pick_rd st7 (by simp) (by simp) fun v M8 hv f8 st8 => ?_
    have fo : Fr s M M8 := (f6.trans f7).trans f8
    have hv' : OddOk k s M8 v := by
      simp only [List.mem_cons, List.not_mem_nil, or_false] at hv
      have a1 : OddOk k s M8 (.ptr q) := .lst (f8 _ _ nq (f7 _ _ nq e6q)) els (by omega) nq
      have a2 : OddOk k s M8 (.ptr q2) := .lst (f8 _ _ nq2 (f7 _ _ nq2 e6)) elb (by omega) nq2
      rcases hv with e | e | e | e | e <;> subst e
      · exact a1
      · exact a1
      · exact a2
      · exact a2
      · exact (ho _ hv0).fr fo
    simp only [W_law_1b_2b_6b_6, wIf, wNotT, wB, wFn, wCons, wNil, wVar, wC, List.getElem?_cons_zero, List.getElem?_cons_succ]
    refine asked_w h hv' (by omega) fun M9 ap => ?_
    simp only [Bool.not_true, wNext]
    exact look_loop h ho0 ho1 ds (k + 1) M9 _ _ _ _ _ _ (by omega) (by omega) (st8.ap ap) (fun e he => ((ho e he).fr fo).ap ap) w
end
end K02
namespace K02
open PySem PySem.Spec PyProof.Rows L2 Lw
theorem pow_ok : CPowW 10 30 := by
  refine ⟨by omega, ?_⟩
  decide +kernel
theorem one_el {a : Dt} (h : El a) : ∀ e ∈ [a], El e := fun e he => by rw [List.mem_singleton.mp he]; exact h
theorem two_el {a b : Dt} (h : El a) (g : El b) : ∀ e ∈ [a, b], El e := fun e he => by
  rcases List.mem_cons.mp he with q | q
  · rw [q]; exact h
  · rw [List.mem_singleton.mp q]; exact g
section
variable {x : Str} {r : List Sx} {s : Addr} {R : De} {c0 c1 c3 : Option Dt}
theorem turn_rd {M : Mh} {c4 c5 c6 c7 c8 c9 c10 c11 c12 c13 c14 c15 : Option Dt} (st : Stm M s) (w : ∀ M' c4 c5 c6 c7 c8 c9 c10 c11 c12 c13 c14 c15, Stm M' s → R.nx [c0, c1, some (.ptr s), c3, c4, c5, c6, c7, c8, c9, c10, c11, c12, c13, c14, c15] M') :
    W_law_1b_2b [c0, c1, some (.ptr s), c3, c4, c5, c6, c7, c8, c9, c10, c11, c12, c13, c14, c15] M R := by
  simp only [W_law_1b_2b, wSeq, W_law_1b_2b_1, wAsg, wgN]
  refine plan3_rd st rfl fun x r M1 h h3 f1 st1 => ?_
  have l6 := h.2.1
  simp only [W_law_1b_2b_2, wPar, wFn, wCons, wNil, wVar, List.getElem?_cons_zero, List.getElem?_cons_succ, List.set_cons_zero, List.set_cons_succ]
  refine ⟨x, r, rfl, h, ?_⟩
  simp only [wCall, wCons, wNil, wOp, gIx, wVar, wC, dpP, sq, sql, atI_one, gLen, dpR_len, List.getElem?_cons_zero, List.getElem?_cons_succ, List.set_cons_zero, List.set_cons_succ]
  simp only [W_law_1b_2b_3, wFor, W_law_1b_2b_3i, wiL, wLst, wTup, wCons, wNil, wC]
  refine ⟨by simp, by simp, by simp, by simp, by simp, szle (by simp), ?_⟩
  rw [← five_eq]
  refine five_loop h five _ five_ok fun c7 => ?_
  simp only [W_law_1b_2b_4, wIf, wOrT, wNotT, wB, wFn, wCons, wNil, wVar, List.getElem?_cons_zero, List.getElem?_cons_succ]
  refine odd_read h h3 ?_
  simp only [Bool.not_true, wOp, wFn, wCons, wNil, wVar, List.getElem?_cons_zero, List.getElem?_cons_succ]
  refine ⟨x, r, rfl, h, true, pg_same h, ?_⟩
  simp only [Bool.not_true, wNext]
  simp only [W_law_1b_2b_5, wAsg, wLst, wLstM, wTup, wCons, wNil, wC, wOp, Lw.gSub, gPow, wDic0, wVar, wgN, List.getElem?_cons_zero, List.getElem?_cons_succ, List.set_cons_zero, List.set_cons_succ]
  refine ⟨by simp, szle (by simp), fun p1 q1 => ?_⟩
  have n1 := st1.ne q1
  have o1 : OddOk 7 s (updM M1 p1 (.lst [.non])) (.ptr p1) := .lst updM_same (one_el el_non) (by simp) n1
  have st2 := st1.new (m := .lst [.non]) n1
  generalize updM M1 p1 (.lst [.non]) = M2 at o1 st2 ⊢
  refine ⟨szle (by simp), fun p2 q2 => ?_⟩
  have n2 := st2.ne q2
  have o2 : OddOk 7 s (updM M2 p2 (.lst [.bl true])) (.ptr p2) := .lst updM_same (one_el el_tru) (by simp) n2
  have o1 := o1.fr (Fr.new (m := .lst [.bl true]) q2)
  have st3 := st2.new (m := .lst [.bl true]) n2
  generalize updM M2 p2 (.lst [.bl true]) = M3 at o1 o2 st3 ⊢
  refine ⟨szle (by simp), fun p3 q3 => ?_⟩
  have n3 := st3.ne q3
  have o3 : OddOk 7 s (updM M3 p3 (.lst [.str "0"])) (.ptr p3) := .lst updM_same (one_el el_0) (by simp) n3
  have o1 := o1.fr (Fr.new (m := .lst [.str "0"]) q3)
  have o2 := o2.fr (Fr.new (m := .lst [.str "0"]) q3)
  have st4 := st3.new (m := .lst [.str "0"]) n3
  generalize updM M3 p3 (.lst [.str "0"]) = M4 at o1 o2 o3 st4 ⊢
  refine ⟨szle (by simp), fun p4 q4 => ?_⟩
  have n4 := st4.ne q4
  have o4 : OddOk 7 s (updM M4 p4 (.lst [.int (0 - 1)])) (.ptr p4) := .lst updM_same (one_el el_neg) (by simp) n4
  have o1 := o1.fr (Fr.new (m := .lst [.int (0 - 1)]) q4)
  have o2 := o2.fr (Fr.new (m := .lst [.int (0 - 1)]) q4)
  have o3 := o3.fr (Fr.new (m := .lst [.int (0 - 1)]) q4)
  have st5 := st4.new (m := .lst [.int (0 - 1)]) n4
  generalize updM M4 p4 (.lst [.int (0 - 1)]) = M5 at o1 o2 o3 o4 st5 ⊢
  refine ⟨szle (by simp), fun p5 q5 => ?_⟩
  have n5 := st5.ne q5
  have o5 : OddOk 7 s (updM M5 p5 (.lst [.int (r.length : Nat)])) (.ptr p5) := .lst updM_same (one_el (el_int (by omega))) (by simp) n5
  have o1 := o1.fr (Fr.new (m := .lst [.int (r.length : Nat)]) q5)
  have o2 := o2.fr (Fr.new (m := .lst [.int (r.length : Nat)]) q5)
  have o3 := o3.fr (Fr.new (m := .lst [.int (r.length : Nat)]) q5)
  have o4 := o4.fr (Fr.new (m := .lst [.int (r.length : Nat)]) q5)
  have st6 := st5.new (m := .lst [.int (r.length : Nat)]) n5
  generalize updM M5 p5 (.lst [.int (r.length : Nat)]) = M6 at o1 o2 o3 o4 o5 st6 ⊢
  refine ⟨szle (by simp), fun p6 q6 => ?_⟩
  have n6 := st6.ne q6
  have o6 : OddOk 7 s (updM M6 p6 (.lst [.int 0, .int 0])) (.ptr p6) := .lst updM_same (two_el el_00 el_00) (by simp) n6
  have o1 := o1.fr (Fr.new (m := .lst [.int 0, .int 0]) q6)
  have o2 := o2.fr (Fr.new (m := .lst [.int 0, .int 0]) q6)
  have o3 := o3.fr (Fr.new (m := .lst [.int 0, .int 0]) q6)
  have o4 := o4.fr (Fr.new (m := .lst [.int 0, .int 0]) q6)
  have o5 := o5.fr (Fr.new (m := .lst [.int 0, .int 0]) q6)
  have st7 := st6.new (m := .lst [.int 0, .int 0]) n6
  generalize updM M6 p6 (.lst [.int 0, .int 0]) = M7 at o1 o2 o3 o4 o5 o6 st7 ⊢
  refine fun p7 q7 => ?_
  have n7 := st7.ne q7
  have o7 : OddOk 7 s (updM M7 p7 (.dic [] [])) (.ptr p7) := .dic updM_same n7
  have o1 := o1.fr (Fr.new (m := .dic [] []) q7)
  have o2 := o2.fr (Fr.new (m := .dic [] []) q7)
  have o3 := o3.fr (Fr.new (m := .dic [] []) q7)
  have o4 := o4.fr (Fr.new (m := .dic [] []) q7)
  have o5 := o5.fr (Fr.new (m := .dic [] []) q7)
  have o6 := o6.fr (Fr.new (m := .dic [] []) q7)
  have st8 := st7.new (m := .dic [] []) n7
  generalize updM M7 p7 (.dic [] []) = M8 at o1 o2 o3 o4 o5 o6 o7 st8 ⊢
  refine ⟨by simp, szle (by simp), szle (by simp), fun p8 q8 => ?_⟩
  have n8 := st8.ne q8
  have o8 : OddOk 7 s (updM M8 p8 (.lst [.lst [.int 0]])) (.ptr p8) := .lst updM_same (one_el el_l0) (by simp) n8
  have o1 := o1.fr (Fr.new (m := .lst [.lst [.int 0]]) q8)
  have o2 := o2.fr (Fr.new (m := .lst [.lst [.int 0]]) q8)
  have o3 := o3.fr (Fr.new (m := .lst [.lst [.int 0]]) q8)
  have o4 := o4.fr (Fr.new (m := .lst [.lst [.int 0]]) q8)
  have o5 := o5.fr (Fr.new (m := .lst [.lst [.int 0]]) q8)
  have o6 := o6.fr (Fr.new (m := .lst [.lst [.int 0]]) q8)
  have o7 := o7.fr (Fr.new (m := .lst [.lst [.int 0]]) q8)
  have st9 := st8.new (m := .lst [.lst [.int 0]]) n8
  generalize updM M8 p8 (.lst [.lst [.int 0]]) = M9 at o1 o2 o3 o4 o5 o6 o7 o8 st9 ⊢
  refine ⟨pow_ok, szle (by simp), fun p9 q9 => ?_⟩
  have n9 := st9.ne q9
  have o9 : OddOk 7 s (updM M9 p9 (.lst [.int (10 ^ (30 : Int).toNat)])) (.ptr p9) := .lst updM_same (one_el el_pow) (by simp) n9
  have o1 := o1.fr (Fr.new (m := .lst [.int (10 ^ (30 : Int).toNat)]) q9)
  have o2 := o2.fr (Fr.new (m := .lst [.int (10 ^ (30 : Int).toNat)]) q9)
  have o3 := o3.fr (Fr.new (m := .lst [.int (10 ^ (30 : Int).toNat)]) q9)
  have o4 := o4.fr (Fr.new (m := .lst [.int (10 ^ (30 : Int).toNat)]) q9)
  have o5 := o5.fr (Fr.new (m := .lst [.int (10 ^ (30 : Int).toNat)]) q9)
  have o6 := o6.fr (Fr.new (m := .lst [.int (10 ^ (30 : Int).toNat)]) q9)
  have o7 := o7.fr (Fr.new (m := .lst [.int (10 ^ (30 : Int).toNat)]) q9)
  have o8 := o8.fr (Fr.new (m := .lst [.int (10 ^ (30 : Int).toNat)]) q9)
  have st10 := st9.new (m := .lst [.int (10 ^ (30 : Int).toNat)]) n9
  generalize updM M9 p9 (.lst [.int (10 ^ (30 : Int).toNat)]) = M10 at o1 o2 o3 o4 o5 o6 o7 o8 o9 st10 ⊢
  refine ⟨szle (by simp), ?_⟩
  have ho : ∀ d ∈ [Dt.non, .tup [], .str "0", .ptr p1, .ptr p2, .ptr p3, .ptr p4, .ptr p5, .ptr p6, .ptr p7, .int 0, .tup [.int 0], .ptr p8, .ptr p9], OddOk 7 s M10 d := fun d hd => by
    simp only [List.mem_cons, List.not_mem_nil, or_false] at hd
    rcases hd with e | e | e | e | e | e | e | e | e | e | e | e | e | e <;> subst e
    · exact .el el_non (fun l e => by cases e)
    · exact .el el_t (fun l e => by cases e)
    · exact .el el_0 (fun l e => by cases e)
    · exact o1
    · exact o2
    · exact o3
    · exact o4
    · exact o5
    · exact o6
    · exact o7
    · exact .el el_00 (fun l e => by cases e)
    · exact .el el_t0 (fun l e => by cases e)
    · exact o8
    · exact o9
  simp only [W_law_1b_2b_6, wFor, W_law_1b_2b_6i, wiR1, wCons, wNil, wC]
  refine ⟨by decide, look_loop h (by simp) (by simp) _ 7 M10 _ _ _ _ _ _ (by omega) (by rw [rng_len]; decide) st10 ho fun M11 c9 c10 c11 c12 c13 c14 st11 => ?_⟩
  simp only [W_law_1b_2b_7, wFor, W_law_1b_2b_7i, wiL, wCat, wRngL, wLst, wLstM, wCons, wNil, wC, wOp, Lw.gSub, gPow, wVar, sql, List.getElem?_cons_zero, List.getElem?_cons_succ]
  refine ⟨by omega, by omega, szle (by simp), fun q hq => ⟨pow_ok, szle (by simp), ?_, ?_⟩⟩
  · rw [rng_len]
    exact szle (by simp only [List.length_cons, List.length_nil]; omega)
  have nq := st11.ne hq
  have oq : OddOk 7 s (updM M11 q (.lst [.int 0])) (.ptr q) := .lst updM_same (one_el el_00) (by simp) nq
  have st12 := st11.new (m := .lst [.int 0]) nq
  refine place_loop h _ 7 _ _ (by rw [List.length_append, rng_len]; simp only [List.length_cons, List.length_nil]; omega) st12 (fun d hd => ?_) fun M13 c15 st13 => ?_
  · rcases List.mem_append.mp hd with hd | hd
    · obtain ⟨i, rfl, hi⟩ := rng_mem hd
      exact .el (el_int (by omega)) (fun l e => by cases e)
    · simp only [List.mem_cons, List.not_mem_nil, or_false] at hd
      rcases hd with e | e | e | e | e | e | e <;> subst e
      · exact .el el_non (fun l e => by cases e)
      · exact .el el_tru (fun l e => by cases e)
      · exact .el el_0 (fun l e => by cases e)
      · exact .el el_neg (fun l e => by cases e)
      · exact .el (el_int (by omega)) (fun l e => by cases e)
      · exact oq
      · exact .el el_pow (fun l e => by cases e)
  simp only [W_law_1b_2b_8, wIf, wNotT, wB, wFn, wCons, wNil, wVar, List.getElem?_cons_zero, List.getElem?_cons_succ]
  refine compared_read h h3 st13 fun M14 f14 st14 => ?_
  simp only [Bool.not_true, wNext]
  exact w M14 _ _ _ _ _ _ _ _ _ _ _ _ st14
theorem turn_loop {c1 : Option Dt} : ∀ (ds : List Dt) (M : Mh) (c3 c4 c5 c6 c7 c8 c9 c10 c11 c12 c13 c14 c15 : Option Dt), Stm M s → (∀ M' c3 c4 c5 c6 c7 c8 c9 c10 c11 c12 c13 c14 c15, R.nx [c0, c1, some (.ptr s), c3, c4, c5, c6, c7, c8, c9, c10, c11, c12, c13, c14, c15] M') →
    forL W_law_1b_2g W_law_1b_2b ds [c0, c1, some (.ptr s), c3, c4, c5, c6, c7, c8, c9, c10, c11, c12, c13, c14, c15] M R
  | [], M, c3, c4, c5, c6, c7, c8, c9, c10, c11, c12, c13, c14, c15, st, w => w M c3 c4 c5 c6 c7 c8 c9 c10 c11 c12 c13 c14 c15
  | d :: ds, M, c3, c4, c5, c6, c7, c8, c9, c10, c11, c12, c13, c14, c15, st, w => by
    rw [forL]
    simp only [W_law_1b_2g, wgN, List.set_cons_zero, List.set_cons_succ]
    exact turn_rd st fun M' c4 c5 c6 c7 c8 c9 c10 c11 c12 c13 c14 c15 st' => turn_loop ds M' _ c4 c5 c6 c7 c8 c9 c10 c11 c12 c13 c14 c15 st' w
theorem start_loop {ns : List Int} (hn : ns.length ≤ 63) (hb : ∀ z ∈ ns, Builtin.Int.intBits z ≤ 1048576) : ∀ (ds : List Dt) (M : Mh) (c1 c2 c3 c4 c5 c6 c7 c8 c9 c10 c11 c12 c13 c14 c15 : Option Dt), (∀ d ∈ ds, ∃ i : Int, d = .int i ∧ 0 ≤ i ∧ i < 4) → (∀ M' (δ : Sl), R.nx δ M') →
    forL W_law_1g W_law_1b ds [some (.scr ns), c1, c2, c3, c4, c5, c6, c7, c8, c9, c10, c11, c12, c13, c14, c15] M R
  | [], M, _, _, _, _, _, _, _, _, _, _, _, _, _, _, _, _, w => w _ _
  | d :: ds, M, c1, c2, c3, c4, c5, c6, c7, c8, c9, c10, c11, c12, c13, c14, c15, hd, w => by
    obtain ⟨i, rfl, i0, i1⟩ := hd d (by simp)
    rw [forL]
    simp only [W_law_1g, W_law_1b, wSeq, W_law_1b_1, wAsg, wFn, wCons, wNil, wVar, wgN, List.getElem?_cons_zero, List.getElem?_cons_succ, List.set_cons_zero, List.set_cons_succ]
    refine ⟨ns, i, rfl, hn, hb, i0, i1, fun p a b hp => ?_⟩
    simp only [W_law_1b_2, wFor, W_law_1b_2i, wiR1, wCons, wNil, wC]
    exact ⟨by decide, turn_loop _ _ _ _ _ _ _ _ _ _ _ _ _ _ _ ⟨a, b, updM_same⟩ fun M' c3 c4 c5 c6 c7 c8 c9 c10 c11 c12 c13 c14 c15 => start_loop hn hb ds M' _ _ _ _ _ _ _ _ _ _ _ _ _ _ _ (fun e he => hd e (List.mem_cons_of_mem _ he)) w⟩
end
theorem sp_law {ns : List Int} {M : Mh} {R : Dt → Mh → Prop} {Rx} (hn : ns.length ≤ 63) (hb : ∀ z ∈ ns, Builtin.Int.intBits z ≤ 1048576) (h : ∀ M', R (.bl true) M') : S_law [.scr ns] M R Rx := by
  refine ⟨rfl, ?_⟩
  show W_law [some (.scr ns), none, none, none, none, none, none, none, none, none, none, none, none, none, none, none] M _
  simp only [W_law, wSeq]
  simp only [W_law_1, wFor, W_law_1i, wiR1, wCons, wNil, wC, wCall, gMax2, gMin2, gLen, wVar, sq, sql, List.getElem?_cons_zero, List.getElem?_cons_succ]
  have hmap : (List.map Dt.int ns).length = ns.length := List.length_map _
  rw [hmap]
  have hmin : (if (ns.length : Int) < 4 then (ns.length : Int) else 4) ≤ 4 ∧ 0 ≤ (if (ns.length : Int) < 4 then (ns.length : Int) else 4) := by split <;> omega
  generalize (if (ns.length : Int) < 4 then (ns.length : Int) else 4) = mn at hmin ⊢
  have hmax : 0 ≤ (if (1 : Int) < mn then mn else 1) ∧ (if (1 : Int) < mn then mn else 1) ≤ 4 := by split <;> omega
  generalize (if (1 : Int) < mn then mn else 1) = mx at hmax ⊢
  refine ⟨?_, start_loop hn hb _ _ _ _ _ _ _ _ _ _ _ _ _ _ _ _ _ (fun d hd => ?_) fun M' δ => ?_⟩
  · unfold big
    rw [Bool.and_eq_true, decide_eq_true_eq, decide_eq_true_eq]
    omega
  · obtain ⟨i, rfl, hi⟩ := rng_mem hd
    exact ⟨_, rfl, by omega, by omega⟩
  · simp only [W_law_2, wRet, wC]
    exact h M'
end K02
namespace K02
open PySem PySem.Spec PyProof.Rows L2 Lw
section
variable {P : Program} {w : World} {K : PySem.W.Frag} {mg : Str → Option Value} {base : Heap} {f : Addr} {fd : FuncData}
theorem scBadSource_init : FnScope ["self", "value"] ["self", "value"] (defScope sBadSource_init) := ⟨rfl, rfl, rfl, by decide +kernel, rfl, by decide +kernel, by decide +kernel⟩
theorem i_BadSource (F : FunD K "__init__" "BadSource.__init__" (defArgs sBadSource_init) (defBody sBadSource_init) (defScope sBadSource_init) [] [] f fd) (X : XC K (He.ga K "BadSource") "value") : FnOk P w K mg base CX0 1 f fd ["self", "value"] (spErr (He.ga K "BadSource") "value") ∧ Binds K fd ["self", "value"] [] ∧
    KBn K fd ["self", "value"] 1 ["value"] (fun us ws => us ++ ws) (fun vs zs => vs ++ zs) := by
  refine ⟨F.ok scBadSource_init (fun vs H Q E h => ?_) (fun cdv A outer s H vs Q E hr h => ?_), F.bindsN fun _ _ _ _ _ _ us hl => match us, hl with | [_, _], _ => rfl, kb1 F fun _ _ _ _ _ _ _ _ => rfl⟩
  · obtain ⟨_, _, rfl, _⟩ := h
    rfl
  · obtain ⟨a, v, rfl, ha, k⟩ := h
    refine ⟨_, PSs.nox (pss_one (ps_ost (pv 0) (pv 1))), ?_⟩
    exact ⟨_, rfl, _, rfl, a, _, rfl, X.oex, X.nof, .inl ⟨ha, k⟩⟩
theorem scBadStages_init : FnScope ["self", "value"] ["self", "value"] (defScope sBadStages_init) := ⟨rfl, rfl, rfl, by decide +kernel, rfl, by decide +kernel, by decide +kernel⟩
theorem i_BadStages (F : FunD K "__init__" "BadStages.__init__" (defArgs sBadStages_init) (defBody sBadStages_init) (defScope sBadStages_init) [] [] f fd) (X : XC K (He.ga K "BadStages") "value") : FnOk P w K mg base CX0 1 f fd ["self", "value"] (spErr (He.ga K "BadStages") "value") ∧ Binds K fd ["self", "value"] [] ∧
    KBn K fd ["self", "value"] 1 ["value"] (fun us ws => us ++ ws) (fun vs zs => vs ++ zs) := by
  refine ⟨F.ok scBadStages_init (fun vs H Q E h => ?_) (fun cdv A outer s H vs Q E hr h => ?_), F.bindsN fun _ _ _ _ _ _ us hl => match us, hl with | [_, _], _ => rfl, kb1 F fun _ _ _ _ _ _ _ _ => rfl⟩
  · obtain ⟨_, _, rfl, _⟩ := h
    rfl
  · obtain ⟨a, v, rfl, ha, k⟩ := h
    refine ⟨_, PSs.nox (pss_one (ps_ost (pv 0) (pv 1))), ?_⟩
    exact ⟨_, rfl, _, rfl, a, _, rfl, X.oex, X.nof, .inl ⟨ha, k⟩⟩
theorem scBadStage_init : FnScope ["self", "position"] ["self", "position"] (defScope sBadStage_init) := ⟨rfl, rfl, rfl, by decide +kernel, rfl, by decide +kernel, by decide +kernel⟩
theorem i_BadStage (F : FunD K "__init__" "BadStage.__init__" (defArgs sBadStage_init) (defBody sBadStage_init) (defScope sBadStage_init) [] [] f fd) (X : XC K (He.ga K "BadStage") "position") : FnOk P w K mg base CX0 1 f fd ["self", "position"] (spErr (He.ga K "BadStage") "position") ∧ Binds K fd ["self", "position"] [] ∧
    KBn K fd ["self", "position"] 1 ["position"] (fun us ws => us ++ ws) (fun vs zs => vs ++ zs) := by
  refine ⟨F.ok scBadStage_init (fun vs H Q E h => ?_) (fun cdv A outer s H vs Q E hr h => ?_), F.bindsN fun _ _ _ _ _ _ us hl => match us, hl with | [_, _], _ => rfl, kb1 F fun _ _ _ _ _ _ _ _ => rfl⟩
  · obtain ⟨_, _, rfl, _⟩ := h
    rfl
  · obtain ⟨a, v, rfl, ha, k⟩ := h
    refine ⟨_, PSs.nox (pss_one (ps_ost (pv 0) (pv 1))), ?_⟩
    exact ⟨_, rfl, _, rfl, a, _, rfl, X.oex, X.nof, .inl ⟨ha, k⟩⟩
theorem scBadPositions_init : FnScope ["self", "value"] ["self", "value"] (defScope sBadPositions_init) := ⟨rfl, rfl, rfl, by decide +kernel, rfl, by decide +kernel, by decide +kernel⟩
theorem i_BadPositions (F : FunD K "__init__" "BadPositions.__init__" (defArgs sBadPositions_init) (defBody sBadPositions_init) (defScope sBadPositions_init) [] [] f fd) (X : XC K (He.ga K "BadPositions") "value") : FnOk P w K mg base CX0 1 f fd ["self", "value"] (spErr (He.ga K "BadPositions") "value") ∧ Binds K fd ["self", "value"] [] ∧
    KBn K fd ["self", "value"] 1 ["value"] (fun us ws => us ++ ws) (fun vs zs => vs ++ zs) := by
  refine ⟨F.ok scBadPositions_init (fun vs H Q E h => ?_) (fun cdv A outer s H vs Q E hr h => ?_), F.bindsN fun _ _ _ _ _ _ us hl => match us, hl with | [_, _], _ => rfl, kb1 F fun _ _ _ _ _ _ _ _ => rfl⟩
  · obtain ⟨_, _, rfl, _⟩ := h
    rfl
  · obtain ⟨a, v, rfl, ha, k⟩ := h
    refine ⟨_, PSs.nox (pss_one (ps_ost (pv 0) (pv 1))), ?_⟩
    exact ⟨_, rfl, _, rfl, a, _, rfl, X.oex, X.nof, .inl ⟨ha, k⟩⟩
end
def spLaw (K : PySem.W.Frag) : Sp := fun vs H Q _ => ∃ (a : Addr) (ns : List Int), vs = [.ref a] ∧ SqS K H a ns ∧ ns.length ≤ 63 ∧ (∀ z ∈ ns, Builtin.Int.intBits z ≤ 1048576) ∧ ∀ H', Q (.bl true) H'
theorem fn_law {P : Program} {w : World} {K : PySem.W.Frag} {mg : Str → Option Value} {base : Heap} {f : Addr} {fd : FuncData} (F : FnG P w K mg base CX0 50 f fd ["script"] (spD (ev K) S_law)) : FnG P w K mg base CX0 50 f fd ["script"] (spLaw K) := by
  have conv : ∀ vs H Q E, spLaw K vs H Q E → spD (ev K) S_law vs H Q E := by
    rintro vs H Q E ⟨a, ns, rfl, hS, hn, hb, k⟩
    refine ⟨[.scr ns], fun _ => none, fun d _ => d = .bl true, nox, .cons (.scr hS (szle (by omega))) .nil, (fun _ _ z => by cases z), sp_law hn hb (fun _ => rfl), fun v d M' H' _ _ r e => ?_, fun _ _ _ _ _ _ _ _ _ _ _ z => z.elim⟩
    subst e
    cases r
    exact k H'
  exact ⟨fun vs H Q E z => F.len vs H Q E (conv _ _ _ _ z), fun A outer s H args us vs Q E g a b c d z => F.run A outer s H args us vs Q E g a b c d (conv _ _ _ _ z)⟩
/-! what is to be known of the class Program -/
def kds : List Kd := [.non, .bl, .int, .str, .tup, .lst, .dic]
theorem kds_all : ∀ k : Kd, k ∈ kds := by intro k; cases k <;> decide
def otB (K : PySem.W.Frag) : Bool := decide (PySem.W.findIn K (.ref (He.ga K "Program")) "__class__" = some (some (.builtin "object.__class__"))) && (decide (PySem.W.specialIn K (.builtin "object.__class__") "__get__" = some (some (.builtin "getset_descriptor.__get__"))) && (decide (PySem.W.takesIn K (.builtin "object.__class__") = some true) &&
  (decide (PySem.W.mroIn K (He.ga K "Program") (.type "object") = some true) && kds.all fun k => decide (k = .non) || decide (PySem.W.kitOne K (.ref (He.ga K "Program")) (.type k.nm) = some false))))
theorem oty {K : PySem.W.Frag} (cl : Cls K (He.ga K "Program")) (h : otB K = true) : ObjTy (ev K) "Program" := by
  unfold otB at h
  simp only [Bool.and_eq_true, decide_eq_true_eq] at h
  obtain ⟨h1, h2, h3, h4, h5⟩ := h
  refine ⟨cl, h1, h2, h3, h4, fun k hk => ?_⟩
  have q := List.all_eq_true.mp h5 k (kds_all k)
  rcases Bool.or_eq_true_iff.mp q with q | q
  · exact absurd (of_decide_eq_true q) hk
  · exact of_decide_eq_true q
def ckB (K : PySem.W.Frag) : Bool := (kds.all fun k => decide (PySem.W.kitOne K (.type k.nm) (.ref (He.ga K "Program")) = some false)) && decide (PySem.W.kitOne K (.ref (He.ga K "Program")) (.ref (He.ga K "Program")) = some true)
theorem ckp {K : PySem.W.Frag} (h : ckB K = true) : ClsK (ev K) clss "Program" := by
  unfold ckB at h
  obtain ⟨h1, h2⟩ := Bool.and_eq_true_iff.mp h
  refine ⟨fun k => of_decide_eq_true (List.all_eq_true.mp h1 k (kds_all k)), fun c' hc => ?_⟩
  rw [List.mem_singleton.mp hc, decide_eq_true rfl]
  exact of_decide_eq_true h2
def nfB (K : PySem.W.Frag) : Bool := kds.all fun k => decide (PySem.W.subIn K (.type k.nm) (.ref (He.ga K "Program")) = some false)
theorem nfp {K : PySem.W.Frag} (h : nfB K = true) : ∀ k : Kd, PySem.W.subIn K (.type k.nm) (.ref (He.ga K "Program")) = some false := fun k => of_decide_eq_true (List.all_eq_true.mp h k (kds_all k))
def tup0B (K : PySem.W.Frag) (a : Addr) : Bool := match K.lookup a with
  | some ⟨.type c, _, .seq its _, _⟩ => decide (c = "tuple") && its.isEmpty
  | _ => false
theorem tup0_ok {K : PySem.W.Frag} {a : Addr} (h : tup0B K a = true) (H : Hp) : SqT K H a [] := by
  unfold tup0B at h
  split at h
  · rename_i q
    obtain ⟨h1, h2⟩ := Bool.and_eq_true_iff.mp h
    have e1 := of_decide_eq_true h1
    subst e1
    rename_i its _ _
    have e2 : its = #[] := by simpa using h2
    subst e2
    exact .inr ⟨_, #[], _, q, rfl, rfl, szle (by simp), .nil⟩
  · cases h
/-! ### the head: the facts that the top leaves -/
def errs : List (Str × Str) := [("BadSource", "value"), ("BadStages", "value"), ("BadStage", "position"), ("BadPositions", "value")]
def dd_L_source : He.DefD := ⟨("_law_source", none), "_law_source", "_law_source", defArgs sL_source, defBody sL_source, defScope sL_source, [], []⟩
def dd_L_draw : He.DefD := ⟨("_law_draw", none), "_law_draw", "_law_draw", defArgs sL_draw, defBody sL_draw, defScope sL_draw, [], []⟩
def dd_L_pick : He.DefD := ⟨("_law_pick", none), "_law_pick", "_law_pick", defArgs sL_pick, defBody sL_pick, defScope sL_pick, [], []⟩
def dd_L_mixed : He.DefD := ⟨("_law_mixed", none), "_law_mixed", "_law_mixed", defArgs sL_mixed, defBody sL_mixed, defScope sL_mixed, [], []⟩
def dd_L_height : He.DefD := ⟨("_law_height", none), "_law_height", "_law_height", defArgs sL_height, defBody sL_height, defScope sL_height, [], []⟩
def dd_L_depth : He.DefD := ⟨("_law_depth", none), "_law_depth", "_law_depth", defArgs sL_depth, defBody sL_depth, defScope sL_depth, [], []⟩
def dd_L_name : He.DefD := ⟨("_law_name", none), "_law_name", "_law_name", defArgs sL_name, defBody sL_name, defScope sL_name, [], []⟩
def dd_L_stage : He.DefD := ⟨("_law_stage", none), "_law_stage", "_law_stage", defArgs sL_stage, defBody sL_stage, defScope sL_stage, [], []⟩
def dd_L_plan : He.DefD := ⟨("_law_plan", none), "_law_plan", "_law_plan", defArgs sL_plan, defBody sL_plan, defScope sL_plan, [], []⟩
def dd_L_program : He.DefD := ⟨("_law_program", none), "_law_program", "_law_program", defArgs sL_program, defBody sL_program, defScope sL_program, [], []⟩
def dd_L_first_bad : He.DefD := ⟨("_law_first_bad", none), "_law_first_bad", "_law_first_bad", defArgs sL_first_bad, defBody sL_first_bad, defScope sL_first_bad, [], []⟩
def dd_L_told : He.DefD := ⟨("_law_told", none), "_law_told", "_law_told", defArgs sL_told, defBody sL_told, defScope sL_told, [], []⟩
def dd_L_is_place : He.DefD := ⟨("_law_is_place", none), "_law_is_place", "_law_is_place", defArgs sL_is_place, defBody sL_is_place, defScope sL_is_place, [], []⟩
def dd_L_due : He.DefD := ⟨("_law_due", none), "_law_due", "_law_due", defArgs sL_due, defBody sL_due, defScope sL_due, [], []⟩
def dd_L_asked_right : He.DefD := ⟨("_law_asked_right", none), "_law_asked_right", "_law_asked_right", defArgs sL_asked_right, defBody sL_asked_right, defScope sL_asked_right, [], []⟩
def dd_L_odd_right : He.DefD := ⟨("_law_odd_right", none), "_law_odd_right", "_law_odd_right", defArgs sL_odd_right, defBody sL_odd_right, defScope sL_odd_right, [], []⟩
def dd_L_compared : He.DefD := ⟨("_law_compared", none), "_law_compared", "_law_compared", defArgs sL_compared, defBody sL_compared, defScope sL_compared, [], []⟩
def dd_law : He.DefD := ⟨("law", none), "law", "law", defArgs slaw, defBody slaw, defScope slaw, [], []⟩
def dd_is_name : He.DefD := ⟨("is_name", none), "is_name", "is_name", defArgs sis_name, defBody sis_name, defScope sis_name, [], []⟩
def dd_is_source : He.DefD := ⟨("is_source", none), "is_source", "is_source", defArgs sis_source, defBody sis_source, defScope sis_source, [], []⟩
def dd_is_number : He.DefD := ⟨("is_number", none), "is_number", "is_number", defArgs sis_number, defBody sis_number, defScope sis_number, [], []⟩
def dd_is_stage : He.DefD := ⟨("is_stage", none), "is_stage", "is_stage", defArgs sis_stage, defBody sis_stage, defScope sis_stage, [], []⟩
def dd_depth_behind : He.DefD := ⟨("depth_behind", none), "depth_behind", "depth_behind", defArgs sdepth_behind, defBody sdepth_behind, defScope sdepth_behind, [], []⟩
def dd_is_position : He.DefD := ⟨("is_position", none), "is_position", "is_position", defArgs sis_position, defBody sis_position, defScope sis_position, [], []⟩
def dd_Program_can_stand : He.DefD := ⟨("Program", some "can_stand"), "can_stand", "Program.can_stand", defArgs sProgram_can_stand, defBody sProgram_can_stand, defScope sProgram_can_stand, [], []⟩
def dd_Program_eq : He.DefD := ⟨("Program", some "__eq__"), "__eq__", "Program.__eq__", defArgs sProgram_eq, defBody sProgram_eq, defScope sProgram_eq, [], []⟩
def dd_Program_then : He.DefD := ⟨("Program", some "then"), "then", "Program.then", defArgs sProgram_then, defBody sProgram_then, defScope sProgram_then, [], []⟩
def dd_Program_without : He.DefD := ⟨("Program", some "without"), "without", "Program.without", defArgs sProgram_without, defBody sProgram_without, defScope sProgram_without, [], []⟩
def dd_Program_exchanged : He.DefD := ⟨("Program", some "exchanged"), "exchanged", "Program.exchanged", defArgs sProgram_exchanged, defBody sProgram_exchanged, defScope sProgram_exchanged, [], []⟩
def dd_Program_init : He.DefD := ⟨("Program", some "__init__"), "__init__", "Program.__init__", defArgs sProgram_init, defBody sProgram_init, defScope sProgram_init, [.adr (He.dflAt ("Program", some "__init__") 0)], []⟩
def dd_BadSource_init : He.DefD := ⟨("BadSource", some "__init__"), "__init__", "BadSource.__init__", defArgs sBadSource_init, defBody sBadSource_init, defScope sBadSource_init, [], []⟩
def dd_BadStages_init : He.DefD := ⟨("BadStages", some "__init__"), "__init__", "BadStages.__init__", defArgs sBadStages_init, defBody sBadStages_init, defScope sBadStages_init, [], []⟩
def dd_BadStage_init : He.DefD := ⟨("BadStage", some "__init__"), "__init__", "BadStage.__init__", defArgs sBadStage_init, defBody sBadStage_init, defScope sBadStage_init, [], []⟩
def dd_BadPositions_init : He.DefD := ⟨("BadPositions", some "__init__"), "__init__", "BadPositions.__init__", defArgs sBadPositions_init, defBody sBadPositions_init, defScope sBadPositions_init, [], []⟩
def fn : List He.DefD := [dd_L_source, dd_L_draw, dd_L_pick, dd_L_mixed, dd_L_height, dd_L_depth, dd_L_name, dd_L_stage, dd_L_plan, dd_L_program, dd_L_first_bad, dd_L_told, dd_L_is_place, dd_L_due, dd_L_asked_right, dd_L_odd_right, dd_L_compared, dd_law, dd_is_name, dd_is_source, dd_is_number, dd_is_stage, dd_depth_behind, dd_is_position, dd_Program_can_stand, dd_Program_eq, dd_Program_then, dd_Program_without, dd_Program_exchanged, dd_Program_init, dd_BadSource_init, dd_BadStages_init, dd_BadStage_init, dd_BadPositions_init]
def fa0 : List He.Fa := [.free "len", .free "int", .free "str", .free "bool", .free "isinstance", .free "enumerate", .free "range", .free "list", .free "tuple", .free "all", .free "any", .free "max", .free "min", .free "ValueError", .free "set", .free "repr", .glo "Program", .glo "SOURCES", .glo "NAMED", .glo "NUMBERED", .glo "BadSource", .glo "BadStages", .glo "BadStage", .glo "BadPositions", .glo "_law_source", .glo "_law_draw", .glo "_law_pick", .glo "_law_mixed", .glo "_law_height", .glo "_law_depth", .glo "_law_name", .glo "_law_stage", .glo "_law_plan", .glo "_law_program", .glo "_law_first_bad", .glo "_law_told", .glo "_law_is_place", .glo "_law_due", .glo "_law_asked_right", .glo "_law_odd_right", .glo "_law_compared", .glo "law", .glo "is_name", .glo "is_source", .glo "is_number", .glo "is_stage", .glo "depth_behind", .glo "is_position"]
def fa : List He.Fa := fa0 ++ [.str "LETTERS" letters, .int "GREATEST" 4, .int "MOST_STAGES" 6, .mkr "Program", .meth "Program" "can_stand", .meth "Program" "__eq__", .meth "Program" "then", .meth "Program" "without", .meth "Program" "exchanged"]
def pg : List PgD := [⟨"Program", ⟨("", none), "source", "Program.source", defArgs sProgram_source, defBody sProgram_source, defScope sProgram_source, [], []⟩⟩, ⟨"Program", ⟨("", none), "stages", "Program.stages", defArgs sProgram_stages, defBody sProgram_stages, defScope sProgram_stages, [], []⟩⟩, ⟨"Program", ⟨("", none), "sources", "Program.sources", defArgs sProgram_sources, defBody sProgram_sources, defScope sProgram_sources, [], []⟩⟩, ⟨"Program", ⟨("", none), "depth", "Program.depth", defArgs sProgram_depth, defBody sProgram_depth, defScope sProgram_depth, [], []⟩⟩]
def excB (K : PySem.W.Frag) (x : Str × Str) : Bool := xcB K (He.ga K x.1) x.2 && (decide (PySem.W.findIn K (.ref (He.ga K x.1)) "__init__" = some (some (.ref (He.ma K (He.ga K x.1) "__init__")))) && decide (PySem.W.typeIn K (.ref (He.ma K (He.ga K x.1) "__init__")) = some (.type "function")))
abbrev xm (K : PySem.W.Frag) (a b : Str) (c : Bool) : Bool := decide (PySem.W.exmOne K (.ref (He.ga K a)) (.ref (He.ga K b)) = some c)
def ex (K : PySem.W.Frag) : Bool := errs.all (excB K) && (pcB K (He.ga K "Program") && (decide (PySem.W.findIn K (.ref (He.ga K "Program")) "__ne__" = some (some (.builtin "object.__ne__"))) && (decide (PySem.W.subIn K (.ref (He.ga K "Program")) (.type "object") = some true) &&
  (He.tupB K "SOURCES" (sources.map He.Dv.str) && (He.tupB K "NAMED" (named.map He.Dv.str) && (He.tupB K "NUMBERED" (counted.map He.Dv.str) && (otB K && (ckB K && (nfB K && (tup0B K (He.dflAt ("Program", some "__init__") 0 K) &&
  (xm K "BadPositions" "BadPositions" true && (xm K "BadStages" "BadPositions" false && (xm K "BadStages" "BadStages" true && (xm K "BadStage" "BadPositions" false && (xm K "BadStage" "BadStages" false && xm K "BadStage" "BadStage" true)))))))))))))))
abbrev R : PySem.W.OpenRow := PySem.W.OpenLaw.row PySem.Challenge.rw_pulledonce_k02_programs_changed_and_comp
abbrev hk : PySem.W.Hook := hookP 6 fa fn pg ex
def ob (s : PySem.W.SharedT) : AlP := obP 6 fa fn pg ex (HandSHeadRun.getT s)
theorem ob_eq (s : PySem.W.SharedT) : ob s = hk.obs s.abs := obP_eq (HandSHeadRun.getT_eq s)
def loose : List Str := ((["StreamError", "BadSource", "BadStages", "BadStage", "BadPositions", "Program", "LETTERS", "SOURCES", "NAMED", "NUMBERED", "MOST_STAGES", "GREATEST"] : List Str) ++ (["_law_source", "_law_draw", "_law_pick", "_law_mixed", "_law_height", "_law_depth", "_law_name", "_law_stage", "_law_plan", "_law_program", "_law_first_bad", "_law_told", "_law_is_place", "_law_due", "_law_asked_right", "_law_odd_right", "_law_compared", "is_name", "is_source", "is_number", "is_stage", "depth_behind", "is_position"] : List Str))
theorem facts {P : Program} {w : World} {K : PySem.W.Frag} {h : Heap} {mg : Str → Option Value} (X : K.In h) (G : h.Ns mainGlobals mg) (c : SaysP fa fn pg ex K) :
    ∃ fd : FuncData, (∀ (s : Shared) (v : Value), BindsTo s fd ⟨[v], []⟩ [("script", v)]) ∧ ∀ base : Heap, FnG P w K mg base CX0 50 (He.ga K "law") fd ["script"] (spLaw K) := by
  obtain ⟨m1, m2⟩ := Bool.and_eq_true_iff.mp c.more
  obtain ⟨pcb, m2⟩ := Bool.and_eq_true_iff.mp m2
  obtain ⟨n1, m2⟩ := Bool.and_eq_true_iff.mp m2
  obtain ⟨n2, m2⟩ := Bool.and_eq_true_iff.mp m2
  obtain ⟨tS, m2⟩ := Bool.and_eq_true_iff.mp m2
  obtain ⟨tN, m2⟩ := Bool.and_eq_true_iff.mp m2
  obtain ⟨tU, m2⟩ := Bool.and_eq_true_iff.mp m2
  obtain ⟨o1, m2⟩ := Bool.and_eq_true_iff.mp m2
  obtain ⟨o2, m2⟩ := Bool.and_eq_true_iff.mp m2
  obtain ⟨o3, m2⟩ := Bool.and_eq_true_iff.mp m2
  obtain ⟨o4, m2⟩ := Bool.and_eq_true_iff.mp m2
  obtain ⟨x1, m2⟩ := Bool.and_eq_true_iff.mp m2
  obtain ⟨x2, m2⟩ := Bool.and_eq_true_iff.mp m2
  obtain ⟨x3, m2⟩ := Bool.and_eq_true_iff.mp m2
  obtain ⟨x4, m2⟩ := Bool.and_eq_true_iff.mp m2
  obtain ⟨x5, x6⟩ := Bool.and_eq_true_iff.mp m2
  have x1 := of_decide_eq_true x1
  have x2 := of_decide_eq_true x2
  have x3 := of_decide_eq_true x3
  have x4 := of_decide_eq_true x4
  have x5 := of_decide_eq_true x5
  have x6 := of_decide_eq_true x6
  have ne1 := of_decide_eq_true n1
  have ne2 := of_decide_eq_true n2
  have exc : ∀ (i : Nat) (x : Str × Str), errs[i]? = some x → xcB K (He.ga K x.1) x.2 = true ∧ PySem.W.findIn K (.ref (He.ga K x.1)) "__init__" = some (some (.ref (He.ma K (He.ga K x.1) "__init__"))) ∧ PySem.W.typeIn K (.ref (He.ma K (He.ga K x.1) "__init__")) = some (.type "function") := by
    intro i x hx
    have q := List.all_eq_true.mp m1 x (List.mem_of_getElem? hx)
    obtain ⟨q1, q⟩ := Bool.and_eq_true_iff.mp q
    obtain ⟨q2, q3⟩ := Bool.and_eq_true_iff.mp q
    exact ⟨q1, of_decide_eq_true q2, of_decide_eq_true q3⟩
  obtain ⟨fd, Fl⟩ := c.d.def_ 17 (d := dd_law) rfl
  refine ⟨fd, fun s v => FunD.bindsA (ps := ["script"]) Fl (fun _ _ _ _ _ _ us hl => match us, hl with | [_], _ => rfl) s [v] rfl, fun base => ?_⟩
  obtain ⟨fd_L_source, F_L_source⟩ := c.d.def_ 0 (d := dd_L_source) rfl
  obtain ⟨fd_L_draw, F_L_draw⟩ := c.d.def_ 1 (d := dd_L_draw) rfl
  obtain ⟨fd_L_pick, F_L_pick⟩ := c.d.def_ 2 (d := dd_L_pick) rfl
  obtain ⟨fd_L_mixed, F_L_mixed⟩ := c.d.def_ 3 (d := dd_L_mixed) rfl
  obtain ⟨fd_L_height, F_L_height⟩ := c.d.def_ 4 (d := dd_L_height) rfl
  obtain ⟨fd_L_depth, F_L_depth⟩ := c.d.def_ 5 (d := dd_L_depth) rfl
  obtain ⟨fd_L_name, F_L_name⟩ := c.d.def_ 6 (d := dd_L_name) rfl
  obtain ⟨fd_L_stage, F_L_stage⟩ := c.d.def_ 7 (d := dd_L_stage) rfl
  obtain ⟨fd_L_plan, F_L_plan⟩ := c.d.def_ 8 (d := dd_L_plan) rfl
  obtain ⟨fd_L_program, F_L_program⟩ := c.d.def_ 9 (d := dd_L_program) rfl
  obtain ⟨fd_L_first_bad, F_L_first_bad⟩ := c.d.def_ 10 (d := dd_L_first_bad) rfl
  obtain ⟨fd_L_told, F_L_told⟩ := c.d.def_ 11 (d := dd_L_told) rfl
  obtain ⟨fd_L_is_place, F_L_is_place⟩ := c.d.def_ 12 (d := dd_L_is_place) rfl
  obtain ⟨fd_L_due, F_L_due⟩ := c.d.def_ 13 (d := dd_L_due) rfl
  obtain ⟨fd_L_asked_right, F_L_asked_right⟩ := c.d.def_ 14 (d := dd_L_asked_right) rfl
  obtain ⟨fd_L_odd_right, F_L_odd_right⟩ := c.d.def_ 15 (d := dd_L_odd_right) rfl
  obtain ⟨fd_L_compared, F_L_compared⟩ := c.d.def_ 16 (d := dd_L_compared) rfl
  obtain ⟨fd_law, F_law⟩ := c.d.def_ 17 (d := dd_law) rfl
  obtain ⟨fd_is_name, F_is_name⟩ := c.d.def_ 18 (d := dd_is_name) rfl
  obtain ⟨fd_is_source, F_is_source⟩ := c.d.def_ 19 (d := dd_is_source) rfl
  obtain ⟨fd_is_number, F_is_number⟩ := c.d.def_ 20 (d := dd_is_number) rfl
  obtain ⟨fd_is_stage, F_is_stage⟩ := c.d.def_ 21 (d := dd_is_stage) rfl
  obtain ⟨fd_depth_behind, F_depth_behind⟩ := c.d.def_ 22 (d := dd_depth_behind) rfl
  obtain ⟨fd_is_position, F_is_position⟩ := c.d.def_ 23 (d := dd_is_position) rfl
  obtain ⟨fd_Program_can_stand, F_Program_can_stand⟩ := c.d.def_ 24 (d := dd_Program_can_stand) rfl
  obtain ⟨fd_Program_eq, F_Program_eq⟩ := c.d.def_ 25 (d := dd_Program_eq) rfl
  obtain ⟨fd_Program_then, F_Program_then⟩ := c.d.def_ 26 (d := dd_Program_then) rfl
  obtain ⟨fd_Program_without, F_Program_without⟩ := c.d.def_ 27 (d := dd_Program_without) rfl
  obtain ⟨fd_Program_exchanged, F_Program_exchanged⟩ := c.d.def_ 28 (d := dd_Program_exchanged) rfl
  obtain ⟨fd_Program_init, F_Program_init⟩ := c.d.def_ 29 (d := dd_Program_init) rfl
  obtain ⟨fd_BadSource_init, F_BadSource_init⟩ := c.d.def_ 30 (d := dd_BadSource_init) rfl
  obtain ⟨fd_BadStages_init, F_BadStages_init⟩ := c.d.def_ 31 (d := dd_BadStages_init) rfl
  obtain ⟨fd_BadStage_init, F_BadStage_init⟩ := c.d.def_ 32 (d := dd_BadStage_init) rfl
  obtain ⟨fd_BadPositions_init, F_BadPositions_init⟩ := c.d.def_ 33 (d := dd_BadPositions_init) rfl
  have tx : Tx K mg := ⟨He.free_ok X G (c.d.fact 0 (f := .free "len") rfl), He.free_ok X G (c.d.fact 1 (f := .free "int") rfl), He.free_ok X G (c.d.fact 2 (f := .free "str") rfl), He.free_ok X G (c.d.fact 3 (f := .free "bool") rfl), He.free_ok X G (c.d.fact 4 (f := .free "isinstance") rfl), He.free_ok X G (c.d.fact 5 (f := .free "enumerate") rfl), He.free_ok X G (c.d.fact 6 (f := .free "range") rfl), He.free_ok X G (c.d.fact 7 (f := .free "list") rfl), He.free_ok X G (c.d.fact 8 (f := .free "tuple") rfl), He.free_ok X G (c.d.fact 9 (f := .free "all") rfl), He.free_ok X G (c.d.fact 10 (f := .free "any") rfl), He.free_ok X G (c.d.fact 11 (f := .free "max") rfl), He.free_ok X G (c.d.fact 12 (f := .free "min") rfl), He.free_ok X G (c.d.fact 13 (f := .free "ValueError") rfl), He.str_ok X G (c.d.fact 48 rfl), He.int_ok X G (c.d.fact 49 rfl), He.int_ok X G (c.d.fact 50 rfl), He.glo_ok X G (c.d.fact 17 (f := .glo "SOURCES") rfl), fun H => He.tupB_ok tS H, He.glo_ok X G (c.d.fact 18 (f := .glo "NAMED") rfl), fun H => He.tupB_ok tN H, He.glo_ok X G (c.d.fact 19 (f := .glo "NUMBERED") rfl), fun H => He.tupB_ok tU H⟩
  have x_BadSource : XC K (He.ga K "BadSource") "value" := xcB_ok (exc 0 ("BadSource", "value") rfl).1
  have e_BadSource : ErrOk P w K mg base "BadSource" "value" := by
    obtain ⟨h1, h2, h3⟩ := i_BadSource (P := P) (w := w) (mg := mg) (base := base) F_BadSource_init x_BadSource
    exact ⟨_, fd_BadSource_init, He.glo_ok X G (c.d.fact 20 (f := .glo "BadSource") rfl), x_BadSource, (exc 0 ("BadSource", "value") rfl).2.1, (exc 0 ("BadSource", "value") rfl).2.2, h1, h2, h3⟩
  have x_BadStages : XC K (He.ga K "BadStages") "value" := xcB_ok (exc 1 ("BadStages", "value") rfl).1
  have e_BadStages : ErrOk P w K mg base "BadStages" "value" := by
    obtain ⟨h1, h2, h3⟩ := i_BadStages (P := P) (w := w) (mg := mg) (base := base) F_BadStages_init x_BadStages
    exact ⟨_, fd_BadStages_init, He.glo_ok X G (c.d.fact 21 (f := .glo "BadStages") rfl), x_BadStages, (exc 1 ("BadStages", "value") rfl).2.1, (exc 1 ("BadStages", "value") rfl).2.2, h1, h2, h3⟩
  have x_BadStage : XC K (He.ga K "BadStage") "position" := xcB_ok (exc 2 ("BadStage", "position") rfl).1
  have e_BadStage : ErrOk P w K mg base "BadStage" "position" := by
    obtain ⟨h1, h2, h3⟩ := i_BadStage (P := P) (w := w) (mg := mg) (base := base) F_BadStage_init x_BadStage
    exact ⟨_, fd_BadStage_init, He.glo_ok X G (c.d.fact 22 (f := .glo "BadStage") rfl), x_BadStage, (exc 2 ("BadStage", "position") rfl).2.1, (exc 2 ("BadStage", "position") rfl).2.2, h1, h2, h3⟩
  have x_BadPositions : XC K (He.ga K "BadPositions") "value" := xcB_ok (exc 3 ("BadPositions", "value") rfl).1
  have e_BadPositions : ErrOk P w K mg base "BadPositions" "value" := by
    obtain ⟨h1, h2, h3⟩ := i_BadPositions (P := P) (w := w) (mg := mg) (base := base) F_BadPositions_init x_BadPositions
    exact ⟨_, fd_BadPositions_init, He.glo_ok X G (c.d.fact 23 (f := .glo "BadPositions") rfl), x_BadPositions, (exc 3 ("BadPositions", "value") rfl).2.1, (exc 3 ("BadPositions", "value") rfl).2.2, h1, h2, h3⟩
  have T0 : Ty P w K mg base := { toTx := tx, pc := pcB_ok pcb, g_Program := He.glo_ok X G (c.d.fact 16 (f := .glo "Program") rfl), e_BadSource := e_BadSource, e_BadStages := e_BadStages, e_BadStage := e_BadStage, e_BadPositions := e_BadPositions }
  have T : Td P w K mg base := { toTy := T0, oP := oty T0.pc.cl o1, z_set := He.free_ok X G (c.d.fact 14 (f := .free "set") rfl), z_repr := He.free_ok X G (c.d.fact 15 (f := .free "repr") rfl), ck_Program := ckp o2, ne_P := ne1, ob_P := ne2, nf_P := nfp o3, m11 := x1, m21 := x2, m22 := x3, m31 := x4, m32 := x5, m33 := x6, sm := c.sm }
  obtain ⟨po_source, fdp_source, Fp_source⟩ := c.prop 0 rfl
  have Q_source := q_Program_source (P := P) (w := w) (mg := mg) (base := base) Fp_source po_source T
  obtain ⟨po_stages, fdp_stages, Fp_stages⟩ := c.prop 1 rfl
  have Q_stages := q_Program_stages (P := P) (w := w) (mg := mg) (base := base) Fp_stages po_stages T
  obtain ⟨po_sources, fdp_sources, Fp_sources⟩ := c.prop 2 rfl
  have Q_sources := q_Program_sources (P := P) (w := w) (mg := mg) (base := base) Fp_sources po_sources T
  obtain ⟨po_depth, fdp_depth, Fp_depth⟩ := c.prop 3 rfl
  have Q_depth := q_Program_depth (P := P) (w := w) (mg := mg) (base := base) Fp_depth po_depth T
  have P_depth := p_depth (P := P) (w := w) (mg := mg) (base := base) Fp_depth po_depth T0
  have D_is_name := d_is_name (P := P) (w := w) (base := base) F_is_name (He.glo_ok X G (c.d.fact 42 (f := .glo "is_name") rfl)) tx
  have D_is_source := d_is_source (P := P) (w := w) (base := base) F_is_source (He.glo_ok X G (c.d.fact 43 (f := .glo "is_source") rfl)) tx
  have D_is_number := d_is_number (P := P) (w := w) (base := base) F_is_number (He.glo_ok X G (c.d.fact 44 (f := .glo "is_number") rfl)) tx
  have D_is_stage := d_is_stage (P := P) (w := w) (base := base) F_is_stage (He.glo_ok X G (c.d.fact 45 (f := .glo "is_stage") rfl)) T0 D_is_name D_is_number
  have D_depth_behind := d_depth_behind (P := P) (w := w) (base := base) F_depth_behind (He.glo_ok X G (c.d.fact 46 (f := .glo "depth_behind") rfl)) T0 P_depth
  have M_can_stand := m_can_stand (P := P) (w := w) (mg := mg) (base := base) F_Program_can_stand (He.meth_ok (c.d.fact 52 rfl)) T0 D_is_stage
  obtain ⟨iP, bP, bP0⟩ := i_Program (P := P) (w := w) (mg := mg) (base := base) F_Program_init T0 D_is_source D_depth_behind M_can_stand
  have G_Program : GP P w K mg base [] := ⟨_, _, _, iP, He.mkr_ok (c.d.fact 51 rfl), bP, .nil, He.glo_ok X G (c.d.fact 16 (f := .glo "Program") rfl)⟩
  have G_Program0 : GP P w K mg base [.ref (He.dflAt ("Program", some "__init__") 0 K)] := by
    obtain ⟨ds, hv, hb⟩ := bP0
    exact ⟨_, _, ds, iP, He.mkr_ok (c.d.fact 51 rfl), hb, hv, He.glo_ok X G (c.d.fact 16 (f := .glo "Program") rfl)⟩
  have h0 : ∀ H, SqT K H (He.dflAt ("Program", some "__init__") 0 K) [] := fun H => tup0_ok o4 H
  have D_L_source := d_source (P := P) (w := w) (base := base) F_L_source (He.glo_ok X G (c.d.fact 24 (f := .glo "_law_source") rfl)) tx
  have D_L_draw := d_draw (P := P) (w := w) (base := base) F_L_draw (He.glo_ok X G (c.d.fact 25 (f := .glo "_law_draw") rfl)) tx
  have D_L_pick := d_pick (P := P) (w := w) (base := base) F_L_pick (He.glo_ok X G (c.d.fact 26 (f := .glo "_law_pick") rfl)) tx D_L_draw
  have D_L_mixed := d_mixed (P := P) (w := w) (base := base) F_L_mixed (He.glo_ok X G (c.d.fact 27 (f := .glo "_law_mixed") rfl)) tx D_L_draw
  have D_L_name := d_name (P := P) (w := w) (base := base) F_L_name (He.glo_ok X G (c.d.fact 30 (f := .glo "_law_name") rfl)) tx D_L_draw D_L_pick
  have deps := d_deps (P := P) (w := w) (base := base) F_L_depth (He.glo_ok X G (c.d.fact 29 (f := .glo "_law_depth") rfl)) F_L_height (He.glo_ok X G (c.d.fact 28 (f := .glo "_law_height") rfl)) tx
  have plans := d_plans (P := P) (w := w) (base := base) F_L_plan (He.glo_ok X G (c.d.fact 32 (f := .glo "_law_plan") rfl)) F_L_stage (He.glo_ok X G (c.d.fact 31 (f := .glo "_law_stage") rfl)) tx D_L_draw D_L_pick D_L_name (fun n => (deps n).2)
  have progs := d_programs (P := P) (w := w) (base := base) F_L_program (He.glo_ok X G (c.d.fact 33 (f := .glo "_law_program") rfl)) T0 G_Program
  have C_L_source := c_L_source (K := K) D_L_source
  have C_L_draw := c_L_draw (K := K) D_L_draw
  have C_L_pick := c_L_pick (K := K) D_L_pick
  have C_L_mixed := c_L_mixed (K := K) D_L_mixed
  have C_L_plan := c_L_plan (K := K) (plans 4).1
  have C_L_program := c_L_program (K := K) (progs 4)
  have C_L_height := c_L_height (K := K) (deps 4).2
  have C_L_depth := c_L_depth (K := K) (deps 4).1
  have E_is_position := d_is_position (P := P) (w := w) (base := base) F_is_position (He.glo_ok X G (c.d.fact 47 (f := .glo "is_position") rfl)) T 
  have hbE : Binds K fd_Program_eq ["self", "other"] [] := F_Program_eq.bindsN fun _ _ _ _ _ _ us hl => match us, hl with | [_, _], _ => rfl
  have O : OwnEq P w K mg base _ fd_Program_eq := ⟨(He.meth_ok (c.d.fact 53 rfl)).at_, (He.meth_ok (c.d.fact 53 rfl)).fn, hbE, F_Program_eq⟩
  have QE := eqAll O T Q_source
  have M_then := m_Program_then (P := P) (w := w) (mg := mg) (base := base) F_Program_then (He.meth_ok (c.d.fact 54 rfl)) T G_Program Q_source
  have M_without := m_Program_without (P := P) (w := w) (mg := mg) (base := base) F_Program_without (He.meth_ok (c.d.fact 55 rfl)) T G_Program Q_source E_is_position
  have M_exchanged := m_Program_exchanged (P := P) (w := w) (mg := mg) (base := base) F_Program_exchanged (He.meth_ok (c.d.fact 56 rfl)) T G_Program Q_source E_is_position
  have E_L_first_bad := d_L_first_bad (P := P) (w := w) (base := base) F_L_first_bad (He.glo_ok X G (c.d.fact 34 (f := .glo "_law_first_bad") rfl)) T C_L_height
  have E_L_told := d_L_told (P := P) (w := w) (base := base) F_L_told (He.glo_ok X G (c.d.fact 35 (f := .glo "_law_told") rfl)) T M_then M_without M_exchanged
  have E_L_is_place := d_L_is_place (P := P) (w := w) (base := base) F_L_is_place (He.glo_ok X G (c.d.fact 36 (f := .glo "_law_is_place") rfl)) T 
  have E_L_due := d_L_due (P := P) (w := w) (base := base) F_L_due (He.glo_ok X G (c.d.fact 37 (f := .glo "_law_due") rfl)) T E_L_is_place E_L_first_bad
  have E_L_asked_right := d_L_asked_right (P := P) (w := w) (base := base) F_L_asked_right (He.glo_ok X G (c.d.fact 38 (f := .glo "_law_asked_right") rfl)) T E_L_due E_L_told C_L_program C_L_depth M_then Q_source Q_stages Q_sources Q_depth G_Program G_Program0 h0 QE
  have E_L_odd_right := d_L_odd_right (P := P) (w := w) (base := base) F_L_odd_right (He.glo_ok X G (c.d.fact 39 (f := .glo "_law_odd_right") rfl)) T E_L_told Q_source Q_stages Q_sources Q_depth G_Program G_Program0 h0 QE
  have E_L_compared := d_L_compared (P := P) (w := w) (base := base) F_L_compared (He.glo_ok X G (c.d.fact 40 (f := .glo "_law_compared") rfl)) T C_L_plan C_L_mixed C_L_program Q_source Q_stages Q_sources Q_depth G_Program QE
  exact fn_law (o_law Fl T C_L_source C_L_mixed C_L_draw C_L_pick C_L_plan C_L_program E_L_asked_right E_L_odd_right E_L_compared QE)
theorem lawglo {K : PySem.W.Frag} {h : Heap} {mg : Str → Option Value} (X : K.In h) (G : h.Ns mainGlobals mg) (c : SaysP fa fn pg ex K) : mg "law" = some (.ref (He.ga K "law")) := He.glo_ok X G (c.d.fact 41 (f := .glo "law") rfl)
end K02
namespace K02
open PySem PySem.Spec PyProof.Rows L2 Lw
theorem sqs_of {K : PySem.W.Frag} {H : Hp} {a : Addr} {ns : List Int} (hO : Only H) (hS : SqL K H a (ns.map V.int)) : SqS K H a ns := by
  rcases hS with (h | ⟨o, h⟩) | h
  · rcases hO a with z | ⟨o, xs, z⟩
    · rw [h] at z; cases z
    · rw [h] at z; cases z
  · exact .inl ⟨o, h⟩
  · exact .inr h
theorem run (w : World) : HandSHeadRun.RunEq R (PySem.W.view R.prog [38]) hk ob 6000 loose w := by
  intro os
  kernel_rfl
end K02

open PySem PySem.W PySem.Calls PyProof.Rows
theorem PySem.Challenge.cw_pulledonce_k02_programs_changed_and_comp_holds : PySem.Challenge.rw_pulledonce_k02_programs_changed_and_comp.Holds := by
  w_on; o_law
  refine HandSHeadRun.head_any (r := K02.R) (q := view K02.R.prog [38]) (H := K02.hk) (ob := K02.ob) (M := 6000) (loose := K02.loose) (d := HandSHeadRun.topDef K02.R.prog 38) (kwd := []) K02.ob_eq
    (by kernel_rfl) (fun s => by kernel_rfl) K02.run (by kernel_rfl) (by kernel_rfl) (by kernel_rfl) (by rfl) (by first | assumption | decide +kernel) (by decide +kernel) ⟨rfl, rfl, rfl, rfl, rfl, by decide +kernel⟩ ?hw ?hc
  case hw => w_witness2
  case hc =>
    refine Lw.walkG (l := PySem.Challenge.rw_pulledonce_k02_programs_changed_and_comp) (n := 63) (k := 50) (x := "script") (CX := L2.CX0) rfl (by decide) (by kernel_rfl) ⟨rfl, by decide, by decide⟩ ?F (fun _ _ _ _ z => z)
    intro w mg fa h Y G hmg0
    obtain ⟨K, KX, c⟩ := Y
    have hmg : mg ("law" : PySem.Str) = some (.ref fa) := by
      have e : (HandSHeadRun.topDef K02.R.prog 38).name = ("law" : PySem.Str) := by kernel_rfl
      rw [← e]
      exact hmg0
    have efa : fa = He.ga K "law" := by
      have e := hmg.symm.trans (K02.lawglo KX G c)
      cases e
      rfl
    subst efa
    obtain ⟨fd, hb, hF⟩ := K02.facts (P := (PySem.Challenge.rw_pulledonce_k02_programs_changed_and_comp).prog) (w := w) KX G c
    exact ⟨K, fd, K02.spLaw K, KX, hb, fun H a ns hl hbits hO hS => ⟨a, ns, rfl, K02.sqs_of hO hS, hl, hbits, fun _ => rfl⟩, fun base _ _ => hF base⟩
