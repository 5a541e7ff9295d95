import PyProof.Rows.All
import Wide.All
import OpenK.AllK
import Wide.FinOn
import KE.KExcIs
import HandS.ForMost
import HandS.Exc
import HandS.ExcInit
import HandS.IsInst
import HandS.Defaults
import HandS.Head0
import HandS.Head1
import HandS.Head2
import HandS.HeadEnd
import HandS.HeadHook1
import HandS.HeadHook2
import HandS.Evl
import HandS.Steps
import HandS.Walk
import HandS.Zip
import HandS.Conv
import HandS.More
import HandS.ExcValue
import HandS.ExcCtx
import HandS.HotCalls
import HandS.ExcInitHot
import HandS.Comp
import HandS.WordsDict
import HandS.ExcIs
import PySem.Challenge.RW_poolshare_k95_errors_of_what_is_asked
set_option Elab.async false
set_option linter.all false
set_option maxRecDepth 100000
set_option maxHeartbeats 0
/-! own exceptions made with positional and keyword arguments, kept as values -/
namespace PySem
namespace XV
open PySem.W PySem.Calls PyProof.Rows PySem.HandSPX
section
open Builtin Builtin.ObjectAttr
variable {M : Model} {prog : Program} {w : World} {A : Around} {E : Value → Shared → Prop} {R : Result → Shared → Prop} {h : Heap} {g : Array GenState} {d : Drawn} {t : Nat} {os : OsState}
variable {nm q : Str} {C N : Addr} {bs bm bmB : List Value} {hdct : Bool} {sn : List Str} {sub : List Value} {ab : Bool} {col : Option Bool} {dd : Option Addr} {k0 k1 k2 k3 k5 : Option Value} {B newId initId : String}

theorem check_new_kw (F : ExcBaseFacts B newId initId bmB) (hT : ∀ X : String, bm.contains (.type X) = bmB.contains (.type X)) {rest : List Value} {kw : List (Str × Value)} {Q : Unit → Shared → Prop}
    (hC : h.get? C = some (excClassObj nm q C N bs bm hdct sn sub ab col dd k0 k1 k2 k3 k5 newId)) (hq : Q () ⟨h, g, d, t, os⟩) : wpAny M A (checkBuiltinCall newId ⟨.ref C :: rest, kw⟩) Q E ⟨h, g, d, t, os⟩ := by
  have hcont : (Value.ref C :: bm).contains (.type B) = true := by rw [List.contains_cons, hT, F.hasB, Bool.or_true]
  have hstar := F.noStar
  simp only [checkBuiltinCall, F.newKind, F.newSplit, F.newRow]
  repeat (first | refine wpAny_loadPart_at hC ?_ | (refine wpAny_isSubtype_exc hC ?_; rw [hcont]) | refine wpAny_staticBase_exc hC ?_ | refine wpAny_madeBy_exc hC ?_ | simp only [bne_self_eq_false, Bool.false_eq_true, if_false] | wp_step)
  exact hq
theorem new_kw (F : ExcBaseFacts B newId initId bmB) (hT : ∀ X : String, bm.contains (.type X) = bmB.contains (.type X)) {rest : List Value} {kw : List (Str × Value)}
    (hC : h.get? C = some (excClassObj nm q C N bs bm hdct sn sub ab col dd k0 k1 k2 k3 k5 newId))
    (hq : R (.ok (.ret (.ref (h.objs.size + 1)))) ⟨(h.push { cls := .type "tuple", data := .seq rest.toArray }).push
      { cls := .ref C, data := .fields #[.ref h.objs.size, .none, .none, .none, .bool false, .none] }, g, d, t, os⟩) (hrest : rest.length ≤ sizeLine) :
    codeAny (model prog w) A (.builtin newId ⟨.ref C :: rest, kw⟩) R ⟨h, g, d, t, os⟩ := by
  have hends := F.ends
  have hcB : (Value.ref C :: bm).contains (.type B) = true := by rw [List.contains_cons, hT, F.hasB, Bool.or_true]
  have hcA : (Value.ref C :: bm).contains (.type "AttributeError") = false := by rw [List.contains_cons, hT, F.noAttr]; rfl
  have hcN : (Value.ref C :: bm).contains (.type "NameError") = false := by rw [List.contains_cons, hT, F.noName]; rfl
  refine codeAny_builtinAt F.entry ?_
  unfold Builtin.«BaseException.__new__»
  refine wpAt_bind ?_
  show wpAt _ _ _ (stack >>= _) _ _ _
  refine wpAt_bind (wpAt_stack fun p below => wpAt_of_wpAny ?_)
  wp_walk
  refine wpAt_of_wpAny ?_
  rw [F.owner]
  repeat (first | with_reducible refine wpAny_madeHere_exc F.canon hC ?_ | with_reducible refine wpAny_loadPart_at hC ?_ | (with_reducible refine wpAny_isSubtype_exc hC ?_; first | rw [hcB] | rw [hcA] | rw [hcN]) | wp_step)
  show R _ _
  rw [Heap.size_push]
  exact hq
theorem type_call_kw (F : ExcBaseFacts B newId initId bmB) (hT : ∀ X : String, bm.contains (.type X) = bmB.contains (.type X)) {rest : List Value} {kw : List (Str × Value)} {fI : Addr} {Q : Fin → Shared → Prop}
    (hC : h.get? C = some (excClassObj nm q C N bs bm hdct sn sub ab col dd k0 k1 k2 k3 k5 newId))
    (hi : W.Looks (model prog w) h (typeLookup (.ref C) "__init__") (some (.ref fI))) (hb : ∀ self, W.Looks (model prog w) h (bindSpecial (.ref fI) self) (.ref fI, [self])) (hrest : rest.length ≤ sizeLine)
    (hq : codeAny (model prog w) A (.call (.ref fI) ⟨.ref (h.objs.size + 1) :: rest, kw⟩)
      (fun r s' => match r with | .ok (.ret v) => v = .none ∧ Q (.done (.ret (.ref (h.objs.size + 1)))) s' | .ok _ => False | .error e => E e s')
      ⟨(h.push (W.kdv_tup rest)).push (excO C h.objs.size), g, d, t, os⟩) :
    wpAny (model prog w) A (Builtin.«type.__call__» ⟨.ref C :: rest, kw⟩) Q E ⟨h, g, d, t, os⟩ := by
  repeat (first | with_reducible refine wpAny_loadPart_at hC ?_ | with_reducible refine wpAny_madeBy_exc hC ?_ | wp_step)
  refine codeAny_call_builtin_code (Code.quiet_builtin _ F.quiet) (check_new_kw F hT hC ?_)
  refine new_kw F hT hC ?_ hrest
  show wpAny _ _ _ _ _ _
  have k : ∀ b o, h.get? b = some o → ((h.push (W.kdv_tup rest)).push (excO C h.objs.size)).get? b = some o := fun b o e => Heap.get?_push_of_some _ (Heap.get?_push_of_some _ e)
  have hC₁ := k _ _ hC
  have hget : ((h.push (W.kdv_tup rest)).push (excO C h.objs.size)).get? (h.objs.size + 1) = some (excO C h.objs.size) := by heap_get
  have hcC : (Value.ref C :: bm).contains (.ref C) = true := by simp
  have i1 := hi.keeps k
  have b1 := (hb (.ref (h.objs.size + 1))).keeps k
  unfold isInstance
  repeat (first | with_reducible refine wpAny_loadPart_at hget ?_ | (with_reducible refine wpAny_isSubtype_exc hC₁ ?_; rw [hcC]) | wp_step)
  show wpAny _ _ (typeLookup (.ref C) _) _ _ _
  refine i1.at ?_
  refine wpAny_holding (wpAny_bind (b1.at ?_))
  refine wpAny_bind (wpAny_call (codeAny_mono hq fun r s' z => ?_))
  rcases r with e | (v | _ | _ | _) <;> first | exact z | exact z.elim | skip
  obtain ⟨rfl, z⟩ := z
  first
    | exact wpAny_pure (wpAny_pure z)
    | (wp_walk; exact z)
theorem check_call_kw {rest : List Value} {kw : List (Str × Value)} {Q : Unit → Shared → Prop} (hC : h.get? C = some (excClassObj nm q C N bs bm hdct sn sub ab col dd k0 k1 k2 k3 k5 newId))
    (hq : Q () ⟨h, g, d, t, os⟩) : wpAny M A (checkBuiltinCall "type.__call__" ⟨.ref C :: rest, kw⟩) Q E ⟨h, g, d, t, os⟩ := by
  have hTy : (⟨h, g, d, t, os⟩ : Shared).TypeIs (.ref C) "type" := ⟨_, hC, rfl⟩
  have f3 := tc_sub
  refine W.check_slot tc_kind tc_split ?_ (W.tc_args _ _ _) hq
  intro A' Q' E' s' k' q'
  have hC' := k' _ _ hC
  unfold isInstance typeOf
  obtain ⟨h', g', d', t', os'⟩ := s'
  repeat (first | assumption | with_reducible refine wpAny_loadPart_at hC' ?_ | wp_step)
theorem call_kw (F : ExcBaseFacts B newId initId bmB) (hT : ∀ X : String, bm.contains (.type X) = bmB.contains (.type X)) {rest : List Value} {kw : List (Str × Value)} {fI : Addr}
    (hC : h.get? C = some (excClassObj nm q C N bs bm hdct sn sub ab col dd k0 k1 k2 k3 k5 newId))
    (hi : W.Looks (model prog w) h (typeLookup (.ref C) "__init__") (some (.ref fI))) (hb : ∀ self, W.Looks (model prog w) h (bindSpecial (.ref fI) self) (.ref fI, [self])) (hrest : rest.length ≤ sizeLine)
    (hq : codeAny (model prog w) (A.under (.builtin "type.__call__" ⟨.ref C :: rest, kw⟩)) (.call (.ref fI) ⟨.ref (h.objs.size + 1) :: rest, kw⟩) (W.InitBack (h.objs.size + 1) R)
      ⟨(h.push (W.kdv_tup rest)).push (excO C h.objs.size), g, d, t, os⟩) :
    codeAny (model prog w) A (.call (.ref C) ⟨rest, kw⟩) R ⟨h, g, d, t, os⟩ := by
  have f1 := tc_lookup
  have f2 := tc_bind (.ref C)
  have hTy : (⟨h, g, d, t, os⟩ : Shared).TypeIs (.ref C) "type" := ⟨_, hC, rfl⟩
  refine codeAny_of_tree ?_
  show wpAny _ _ (callAny (.ref C) _) _ _ _
  repeat (any_goals (first | assumption | with_reducible refine wpAny_loadPart_at hC ?_ | wp_step))
  refine ⟨rfl, ?_⟩
  refine codeAny_call_builtin_at (Code.quiet_builtin _ (by decide +kernel)) entry_typeCall (check_call_kw hC (type_call_kw F hT hC hi hb hrest ?_))
  refine codeAny_mono hq fun r s' z => ?_
  rcases r with e | (v | _ | _ | _) <;> exact z
end
end XV
end PySem


namespace L2
open PySem PySem.Spec PyProof.Rows
/-! ### own exceptions as values: what is known of a class -/
structure ExC (K : PySem.W.Frag) (C : Addr) : Prop where
  o : OexC K C
  hd : PySem.W.hasDictIn K C = true
  hga : PySem.W.findIn K (.ref C) "__getattribute__" = some (some (.builtin "BaseException.__getattribute__"))
  hgt : PySem.W.findIn K (.ref C) "__getattr__" = some none
  ha : PySem.W.findIn K (.ref C) "__class__" = some (some (.builtin "object.__class__"))
  hn : PySem.W.specialIn K (.builtin "object.__class__") "__get__" = some (some (.builtin "getset_descriptor.__get__"))
  ht : PySem.W.takesIn K (.builtin "object.__class__") = some true
  hm : PySem.W.mroIn K C (.type "object") = some true
/-- its __init__(self, f): self.f = f, at fI -/
structure ExI (K : PySem.W.Frag) (C fI : Addr) (f : Str) : Prop where
  iC : PySem.W.findIn K (.ref C) "__init__" = some (some (.ref fI))
  tI : PySem.W.typeIn K (.ref fI) = some (.type "function")
  no : PySem.W.findIn K (.ref C) f = some none
theorem ExC.some {K : PySem.W.Frag} {C : Addr} (T : ExC K C) : (PySem.W.clsIn K C).isSome = true := by
  obtain ⟨cd, h, _⟩ := PySem.W.any_some T.hd
  rw [h]; rfl

/-! ### the text of __init__ -/
def iA (f : Str) (p1 p2 : Pos) : Arguments := { posonlyargs := [], args := [{ arg := "self", annotation := none, pos := p1 }, { arg := f, annotation := none, pos := p2 }], vararg := none, kwonlyargs := [], kw_defaults := [], kwarg := none, defaults := [] }
def iB (f : Str) (q1 q2 q3 q4 : Pos) : List Stmt := [.Assign [.Attribute (.Name "self" q1) f q2] (.Name f q3) q4]
def iS (f : Str) : Scope := { kind := .function, names := [("self", .local), (f, .local)], isGenerator := false, isCoroutine := false, more := [] }
def okName (f : Str) : Bool := f != ("self" : Str) && f != ("__debug__" : Str) && f != ("__classdict__" : Str)
theorem scI {f : Str} (h : okName f = true) : FnScope ["self", f] ["self", f] (iS f) := by
  simp only [okName, Bool.and_eq_true, bne_iff_ne, ne_eq] at h
  refine ⟨rfl, rfl, rfl, ?_, rfl, ?_, ?_⟩
  · simp only [List.nodup_cons, List.mem_singleton, List.not_mem_nil, not_false_eq_true, List.nodup_nil, and_true]
    exact fun e => h.1.1 e.symm
  · intro x hx
    simp only [List.mem_cons, List.not_mem_nil, or_false] at hx
    rcases hx with rfl | rfl
    · exact .inl rfl
    · left
      unfold iS
      by_cases e : x = ("self" : Str)
      · subst e; rfl
      · have e2 : (x == ("self" : Str)) = false := by simpa using e
        simp [List.lookup, e2]
  · intro y hy
    unfold iS at hy
    simp only [List.mem_cons, List.not_mem_nil, or_false] at hy
    rcases hy with rfl | rfl <;> exact fun e => nomatch e
def spInitE (C : Addr) (f : Str) : Sp := fun vs H Q _ => ∃ (a : Addr) (y : V), vs = [.ref a, y] ∧ H a = some (exo a C none) ∧
  ∀ dx, H dx = none → dx ≠ a → Q .non (upd (upd H dx (exd dx [(f, y)])) a (exo a C (some dx)))
section
variable {P : Program} {w : World} {K : PySem.W.Frag} {mg : Str → Option Value} {base : Heap}
theorem ok_initE {f qual : Str} {C fI : Addr} {oc kV doc pm cdv ct : Value} {od an : Option Addr} {osl : Array (Option Value)} {p1 p2 q1 q2 q3 q4 : Pos} (hf : okName f = true) (T : OexC K C) (no : PySem.W.findIn K (.ref C) f = some none)
    (lk : K.lookup fI = some ⟨oc, od, .func (PySem.W.fnOf "__init__" qual (iA f p1 p2) (iB f q1 q2 q3 q4) (iS f) .none kV doc pm an cdv ct), osl⟩) (hcd : PySem.W.codeIn K cdv qual = true) :
    FnOk P w K mg base CX0 1 fI (PySem.W.fnOf "__init__" qual (iA f p1 p2) (iB f q1 q2 q3 q4) (iS f) .none kV doc pm an cdv ct) ["self", f] (spInitE C f) := by
  have hf' := hf
  simp only [okName, Bool.and_eq_true, bne_iff_ne, ne_eq] at hf'
  refine fn_of lk hcd (scI hf) (fun vs H Q E h => ?_) fun A outer s H vs Q E hr hsp => ?_
  · obtain ⟨a, y, rfl, _⟩ := h
    rfl
  · have hv : (iS f).names.lookup f = some .local := by
      unfold iS
      by_cases e : f = ("self" : Str)
      · subst e; rfl
      · have e2 : (f == ("self" : Str)) = false := by simpa using e
        simp [List.lookup, e2]
    refine ⟨_, PSs.nox (pss_one (ps_ost (pv 0) (pe_var (i := 1) rfl (.inl hv) (by simpa using hf'.1.2) (by simpa using hf'.2)))), ?_⟩
    obtain ⟨a, y, rfl, ha, hq⟩ := hsp
    exact ⟨_, rfl, _, rfl, a, C, rfl, T, no, .inl ⟨ha, fun dx n ne => hq dx n ne⟩⟩
end

/-! ### C(e), C(f = e) -/
def tMkE (C : Addr) (f : Str) (ta : TA) : TE := fun σ H Q => ta σ H fun vs H1 => ∃ y, vs = [y] ∧ ∀ a d, H1 a = none → H1 d = none → d ≠ a → Q (.ref a) (upd (upd H1 d (exd d [(f, y)])) a (exo a C (some d)))
section
variable {X : Cx} {pins : List (Addr × Obj)} {σ : St} {H : Hp} {s : Shared} {Q : VK} {C fI : Addr} {fd : FuncData} {f x : Str} {k : Nat}
theorem run_mkE {us : List Value} {kw : List (Str × Value)} {y : V} {u : Value} (T : OexC X.K C) (i : ExI X.K C fI f) (FI : FnOk X.prog X.w X.K X.mg X.base CX0 k fI fd ["self", f] (spInitE C f)) (hr : Room (k + 1) X.A)
    (hb : ∀ (s : Shared) (a : Addr), BindsTo s fd ⟨.ref a :: us, kw⟩ [("self", .ref a), (f, u)]) (hus : us.length ≤ sizeLine) (I : Inv X pins σ H s) (ry : RelV y u)
    (h : ∀ a d, H a = none → H d = none → d ≠ a → Q (.ref a) (upd (upd H d (exd d [(f, y)])) a (exo a C (some d)))) :
    wpAny (model X.prog X.w) X.A (call (.ref C) us kw) (EP X pins σ Q) X.xe s := by
  obtain ⟨nm, q, N, bs, bm, sn, sub, ab, col, dd, k0, k1, k2, k3, k5, hC, hbm⟩ := T.cls
  obtain ⟨hp, g, dr, tk, os⟩ := s
  have hsz : hp.objs.size ≤ hp.objs.size + 1 := Nat.le_succ _
  have hn : H (hp.objs.size + 1) = none := I.hok.fresh hsz
  have kk : ∀ b o, hp.get? b = some o → ((hp.push (PySem.W.kdv_tup us)).push (PySem.HandSPX.excO C hp.objs.size)).get? b = some o := fun b o e => Heap.get?_push_of_some _ (Heap.get?_push_of_some _ e)
  have hget : ((hp.push (PySem.W.kdv_tup us)).push (PySem.HandSPX.excO C hp.objs.size)).get? (hp.objs.size + 1) = some (PySem.HandSPX.excO C hp.objs.size) := by heap_get
  have I2 : Inv X pins σ (upd H (hp.objs.size + 1) (exo (hp.objs.size + 1) C none)) ⟨(hp.push (PySem.W.kdv_tup us)).push (PySem.HandSPX.excO C hp.objs.size), g, dr, tk, os⟩ :=
    I.laid (t' := tk) (a := hp.objs.size + 1) (o := exo (hp.objs.size + 1) C none) (h' := (hp.push (PySem.W.kdv_tup us)).push (PySem.HandSPX.excO C hp.objs.size)) kk hsz (exo_ok hget)
  have r2 : Vals [V.ref (hp.objs.size + 1), y] [Value.ref (hp.objs.size + 1), u] := .cons rfl (.cons ry .nil)
  have sp : spInitE C f [V.ref (hp.objs.size + 1), y] (upd H (hp.objs.size + 1) (exo (hp.objs.size + 1) C none)) (fun v H2 => v = .non ∧ Q (.ref (hp.objs.size + 1)) H2) E0 := by
    refine ⟨_, _, rfl, upd_same, fun dx n ne => ⟨rfl, ?_⟩⟩
    have hdx : H dx = none := by
      rw [upd_ne ne] at n
      exact n
    have e : upd (upd (upd H (hp.objs.size + 1) (exo (hp.objs.size + 1) C none)) dx (exd dx [(f, y)])) (hp.objs.size + 1) (exo (hp.objs.size + 1) C (some dx)) = upd (upd H dx (exd dx [(f, y)])) (hp.objs.size + 1) (exo (hp.objs.size + 1) C (some dx)) := by
      funext b
      unfold upd
      by_cases hb : b = hp.objs.size + 1
      · rw [if_pos hb, if_pos hb]
      · rw [if_neg hb, if_neg hb, if_neg hb]
    rw [e]
    exact h _ dx hn hdx ne
  refine wpAny_call (PySem.XV.call_kw F.excBase_ValueError (fun Y => PySem.HandSPX.refsVE_contains Y bm hbm) (I.kIn _ _ hC) (PySem.W.looks_findIn I.kIn i.iC) (fun self => PySem.W.bind_fn I.kIn self i.tI) hus
    (codeAny_mono (FI.run _ X.stack _ _ ⟨Value.ref (hp.objs.size + 1) :: us, kw⟩ _ _ _ E0 (hr.make C us kw) (I2.env0.make C us kw) (hb _ _) r2 sp) fun r s' hq' => ?_))
  cases r with
  | error e => exact pass0 (X := X) pins σ _ _ e s' I2 hq'
  | ok fl =>
    cases fl with
    | ret v =>
      obtain ⟨v, H', I3, rv, ev, q3⟩ := I2.after hq'
      subst ev
      exact ⟨rv, ⟨V.ref (hp.objs.size + 1), H', I3, rfl, q3⟩⟩
    | next => exact False.elim hq'
    | brk => exact False.elim hq'
    | cont => exact False.elim hq'

end

theorem bindE1 {f qual : Str} (hf : okName f = true) (p1 p2 q1 q2 q3 q4 : Pos) (kV doc pm cdv ct : Value) (an : Option Addr) (u v : Value) : bindArgs (PySem.W.fnOf "__init__" qual (iA f p1 p2) (iB f q1 q2 q3 q4) (iS f) .none kV doc pm an cdv ct) ⟨[u, v], []⟩ = pure [(("self" : Str), u), (f, v)] := by
  have hf : (f == ("self" : Str)) = false := by
    simp only [okName, Bool.and_eq_true, bne_iff_ne, ne_eq] at hf
    simpa using hf.1.1
  have e : (seqItems? Value.none) = (pure none : Sem (Option (Array Value))) := rfl
  simp [bindArgs, PySem.W.fnOf, iA, List.lookup, hf, e]
theorem bindE2 {f qual : Str} (hf : okName f = true) (p1 p2 q1 q2 q3 q4 : Pos) (kV doc pm cdv ct : Value) (an : Option Addr) (u v : Value) : bindArgs (PySem.W.fnOf "__init__" qual (iA f p1 p2) (iB f q1 q2 q3 q4) (iS f) .none kV doc pm an cdv ct) ⟨[u], [(f, v)]⟩ = pure [(("self" : Str), u), (f, v)] := by
  have hf : (f == ("self" : Str)) = false := by
    simp only [okName, Bool.and_eq_true, bne_iff_ne, ne_eq] at hf
    simpa using hf.1.1
  have e : (seqItems? Value.none) = (pure none : Sem (Option (Array Value))) := rfl
  simp [bindArgs, PySem.W.fnOf, iA, List.lookup, hf, e]

/-- the class at C, whose __init__(self, f) keeps f: all that is asked of it -/
structure ExD (P : Program) (w : World) (K : PySem.W.Frag) (mg : Str → Option Value) (base : Heap) (C : Addr) (f : Str) : Prop where
  c : ExC K C
  i : ∃ fI fd, ExI K C fI f ∧ FnOk P w K mg base CX0 1 fI fd ["self", f] (spInitE C f) ∧ (∀ (s : Shared) (a : Addr) (v : Value), BindsTo s fd ⟨[.ref a, v], []⟩ [(("self" : Str), .ref a), (f, v)]) ∧
    ∀ (s : Shared) (a : Addr) (v : Value), BindsTo s fd ⟨[.ref a], [(f, v)]⟩ [(("self" : Str), .ref a), (f, v)]
theorem exD_mk {P : Program} {w : World} {K : PySem.W.Frag} {mg : Str → Option Value} {base : Heap} {f qual : Str} {C fI : Addr} {oc kV doc pm cdv ct : Value} {od an : Option Addr} {osl : Array (Option Value)} {p1 p2 q1 q2 q3 q4 : Pos} (hf : okName f = true) (T : ExC K C) (i : ExI K C fI f)
    (lk : K.lookup fI = some ⟨oc, od, .func (PySem.W.fnOf "__init__" qual (iA f p1 p2) (iB f q1 q2 q3 q4) (iS f) .none kV doc pm an cdv ct), osl⟩) (hcd : PySem.W.codeIn K cdv qual = true) : ExD P w K mg base C f :=
  ⟨T, fI, _, i, ok_initE hf T.o i.no lk hcd, fun s a v => .of_eq (bindE1 hf ..), fun s a v => .of_eq (bindE2 hf ..)⟩

section
variable {X : Cx} {pins : List (Addr × Obj)} {σ : St} {H : Hp} {s : Shared} {Q : VK} {C : Addr} {f x : Str} {k : Nat} {p pos kpos : Pos} {e : Expr} {te : TE} {ta : TA}
theorem one_line {v : Value} : [v].length ≤ sizeLine := by
  rw [sizeLine_eq]
  exact (by decide : 1 ≤ 16777216)
/-- C(e) -/
theorem pe_mkE (T : ExD X.prog X.w X.K X.mg X.base C f) (hr : Room 2 X.A) (hg : Gl X x) (hm : X.mg x = some (.ref C)) (ha : PA X [e] ta)
    (hdb : (x == ("__debug__" : Str)) = false := by decide) (he : starEach [e] X.env = (false, eval e X.env) :: starEach [] X.env := by rfl) (hpl : (backTo pos (starEach [] X.env)).any (·.1) = false := by rfl) :
    PE X (.Call (.Name x p) [e] [] pos) (tMkE C f ta) := by
  obtain ⟨c, fI, fd, i, FI, hb, _⟩ := T
  refine ⟨fun pins s σ H Q I h => ?_⟩
  refine wpAny_Call_Name_kw (ld_glob I hg hm ?_ hdb)
  refine PySem.W.callWith_K (h₀ := X.base) I.ok.mod.kin c.o.kC (thn (ha.run pos pins s σ H _ I h) fun us s1 ⟨vs, H1, I1, r, y, ev, q⟩ => ⟨I1.kIn, ?_⟩) he hpl
  subst ev
  obtain ⟨u, rfl, ru⟩ := vals1 r
  exact run_mkE (us := [u]) (kw := []) c.o i FI hr (fun s a => hb s a u) one_line I1 ru q
/-- C(f = e) -/
theorem pe_mkK (T : ExD X.prog X.w X.K X.mg X.base C f) (hr : Room 2 X.A) (hg : Gl X x) (hm : X.mg x = some (.ref C)) (ha : PE X e te)
    (hdb : (x == ("__debug__" : Str)) = false := by decide) :
    PE X (.Call (.Name x p) [] [⟨some f, e, kpos⟩] pos) (tMkE C f (tCons te tNil)) := by
  obtain ⟨c, fI, fd, i, FI, _, hb⟩ := T
  refine ⟨fun pins s σ H Q I h => ?_⟩
  refine wpAny_Call_Name_kw (ld_glob I hg hm ?_ hdb)
  refine PySem.W.callWith_KW0 (h₀ := X.base) I.ok.mod.kin c.o.kC rfl ?_ rfl
  refine thn ((pk_cons (nm := some f) (kpos := kpos) ha pk_nil).run pos pins s σ H _ I h) fun ws s2 ⟨zs, H2, I2, rz, y, ev, q2⟩ => ⟨I2.kIn, ?_⟩
  subst ev
  obtain ⟨u, rfl, ru⟩ := vals1 rz
  exact run_mkE (us := []) (kw := [(f, u)]) c.o i FI hr (fun s a => hb s a u) (Nat.zero_le _) I2 ru q2
/-! ### e.f -/
def tXf (K : PySem.W.Frag) (f : Str) (te : TE) : TE := fun σ H Q => te σ H fun x H1 => ∃ (a C d : Addr) (fs : List (Str × V)) (y : V), x = .ref a ∧ ExC K C ∧ PySem.W.findIn K (.ref C) f = some none ∧ H1 a = some (exo a C (some d)) ∧ H1 d = some (exd d fs) ∧ fs.lookup f = some y ∧ Q y H1
theorem inst_exo {P : Program} {w : World} {H : Hp} {h : Heap} {a C d : Addr} {fs : List (Str × V)} (hok : HOk P w H h) (e : H a = some (exo a C (some d))) (ed : H d = some (exd d fs)) :
    ∃ (t0 : Addr) (od : Obj), PySem.W.InstAt h a { cls := .ref C, dict := some d, data := .fields #[.ref t0, .none, .none, .none, .bool false, .none] } C (some od) ∧ ∃ mA : Str → Option Value, (∀ name, PySem.W.lookIn name od = some (mA name)) ∧ ∀ f, RelO (fs.lookup f) (mA f) := by
  obtain ⟨t0, ho⟩ := exo_at hok e
  obtain ⟨mA, hns, rel⟩ := exd_at hok ed
  obtain ⟨od, hod, hl⟩ := lookIn_ns hns
  exact ⟨t0, od, ⟨ho, rfl, rfl, hod⟩, mA, hl, rel⟩
theorem pe_xf (he : PE X e te) (hb : attributeBase e f X.env (eval e X.env) = eval e X.env := by rfl) : PE X (.Attribute e f pos) (tXf X.K f te) := by
  refine ⟨fun pins s σ H Q I h => ?_⟩
  refine attr_of hb (thn (he.run pins s σ H _ I h) fun u s1 hh => ?_)
  obtain ⟨x, H1, I1, rx, a, C, d, fs, y, ex, T, hno, e1, e2, hy, q⟩ := hh
  subst ex
  obtain rfl : u = Value.ref a := rx
  obtain ⟨t0, od, J, mA, hl, rel⟩ := inst_exo I1.hok e1 e2
  obtain ⟨u, hu, ru⟩ := RelO.some_of (v := y) (o := mA f) (by rw [← hy]; exact rel f)
  exact PySem.HandSPX.exc_get I1.kIn J T.hga T.hgt T.o.exC (PySem.W.findObj_own T.hd hno rfl (by rw [hl, hu])) (handed_of ru) ⟨y, H1, I1.tok _, ru, q⟩
/-! ### isinstance of such a thing -/
inductive TyY (K : PySem.W.Frag) (H : Hp) : V → Value → Prop where
  | old {x : V} {t : Value} (h : TyX K H x t) : TyY K H x t
  | exc {a C d : Addr} {fs : List (Str × V)} (T : ExC K C) (e : H a = some (exo a C (some d))) (ed : H d = some (exd d fs)) : TyY K H (.ref a) (.ref C)
  | exc0 {a C : Addr} (T : ExC K C) (e : H a = some (exo a C none)) : TyY K H (.ref a) (.ref C)
theorem kitY_of {x : V} {u t : Value} (I : Inv X pins σ H s) (rx : RelV x u) (ty : TyY X.K H x t) : ∃ P : Heap → Prop, PySem.W.KitX X.K u t P ∧ P s.heap ∧ u ≠ .builtin "__main__.__loader__#opaque" := by
  cases ty with
  | old h => exact kit_of I rx h
  | @exc a C d fs T e ed =>
    cases (show u = Value.ref a from rx)
    obtain ⟨t0, od, J, _⟩ := inst_exo I.hok e ed
    exact ⟨_, PySem.W.kitx_exc T.some T.hga T.hgt T.o.exC T.ha T.hn T.ht T.hm, J, fun z => nomatch z⟩
  | @exc0 a C T e =>
    cases (show u = Value.ref a from rx)
    obtain ⟨t0, ho⟩ := exo_at I.hok e
    have J : PySem.W.InstAt s.heap a { cls := .ref C, dict := none, data := .fields #[.ref t0, .none, .none, .none, .bool false, .none] } C none := ⟨ho, rfl, rfl, trivial⟩
    exact ⟨_, PySem.W.kitx_exc T.some T.hga T.hgt T.o.exC T.ha T.hn T.ht T.hm, J, fun z => nomatch z⟩
def rIsY (K : PySem.W.Frag) : List V → Hp → VK → Prop := fun xs H Q => ∃ (x c : V) (t u : Value) (b : Bool), xs = [x, c] ∧ ClsV c u ∧ TyY K H x t ∧ PySem.W.kitOne K t u = some b ∧ Q (.bl b) H
def rIsYT (K : PySem.W.Frag) : List V → Hp → VK → Prop := fun xs H Q => ∃ (x : V) (tp : Addr) (cs : List V) (t : Value) (us : List Value) (b : Bool), xs = [x, .ref tp] ∧ H tp = some (.tup cs) ∧ Paired ClsV cs us ∧ TyY K H x t ∧ PySem.W.kitAny K t us = some b ∧ Q (.bl b) H
theorem call_isY : CallR X (.builtin "isinstance") (rIsY X.K) := by
  intro pins s σ H xs us Q I r h
  obtain ⟨x, c, t, u, b, rfl, k, ty, e, q⟩ := h
  obtain ⟨u1, u2, rfl, r1, r2⟩ := vals2 r
  have e2 := k.eq r2
  subst e2
  obtain ⟨P, Z, p, hx⟩ := kitY_of I r1 ty
  exact PySem.W.kia_one Z I.kIn p e hx fun tk => ⟨.bl b, H, I.tok tk, rfl, q⟩
theorem call_isYT : CallR X (.builtin "isinstance") (rIsYT X.K) := by
  intro pins s σ H xs us Q I r h
  obtain ⟨x, tp, cs, t, ws, b, rfl, hT, k, ty, e, q⟩ := h
  obtain ⟨u1, u2, rfl, r1, r2⟩ := vals2 r
  cases (show u2 = Value.ref tp from r2)
  obtain ⟨P, Z, p, hx⟩ := kitY_of I r1 ty
  obtain ⟨_, its, rv, o, h1, h2, n, h3⟩ := (show ObjOk X.prog X.w H s.heap tp (.tup cs) from I.hok tp _ hT)
  have e3 := ClsV.all k rv
  subst e3
  obtain ⟨oc, od, dt, sl⟩ := o
  simp only at h2 h3
  subst h2 h3
  exact PySem.W.kia_tup Z I.kIn p h1 e hx fun tk => ⟨.bl b, H, I.tok tk, rfl, q⟩
end
end L2


namespace L2
open PySem PySem.Spec PyProof.Rows PySem.W
/-! ### what the head is asked of own exceptions -/
def exShape (K : Frag) (P C : Addr) : Bool := match K.lookup C with
  | some ⟨.type "type", _, .cls cd, sl⟩ => cd.mro == (.ref C :: (if C == P then [] else [.ref P])) ++ PySem.HandSPX.veTail && !cd.hasDel && cd.hasDict && (match sl.toList with
    | [_, _, _, _, some (.builtin n), _] => n == "ValueError.__new__"
    | _ => false)
  | _ => false
def exRest (K : Frag) (C : Addr) : Bool :=
  He.eqO (findIn K (.ref C) "__setattr__") (some (some (.builtin "object.__setattr__"))) && (keepIn K (.ref C) && (He.eqO (findIn K (.ref C) "__getattribute__") (some (some (.builtin "BaseException.__getattribute__"))) &&
  (He.eqO (findIn K (.ref C) "__getattr__") (some none) && He.eqO (findIn K (.ref C) "__class__") (some (some (.builtin "object.__class__"))))))
def exInit (K : Frag) (C fI : Addr) (f : Str) : Bool :=
  He.eqO (findIn K (.ref C) "__init__") (some (some (.ref fI))) && (decide (typeIn K (.ref fI) = some (.type "function")) && (He.eqO (findIn K (.ref C) f) (some none) && okName f))
theorem exShape_ok {K : Frag} {P C : Addr} (h : exShape K P C = true) :
    (∃ nm q N bs sn sub ab col dd k0 k1 k2 k3 k5, K.lookup C = some (excClassObj nm q C N bs ((if C == P then [] else [.ref P]) ++ PySem.HandSPX.veTail) true sn sub ab col dd k0 k1 k2 k3 k5 "ValueError.__new__")) := by
  unfold exShape at h
  split at h
  · rename_i dd cd sl ho
    simp only [Bool.and_eq_true, Bool.not_eq_true'] at h
    obtain ⟨⟨⟨h1, h2⟩, h3⟩, h4⟩ := h
    split at h4
    · rename_i k0 k1 k2 k3 n k5 hs
      have hn : n = "ValueError.__new__" := by simpa using h4
      subst hn
      have hsl : sl = #[k0, k1, k2, k3, some (.builtin "ValueError.__new__"), k5] := by
        obtain ⟨l⟩ := sl
        simp only at hs
        rw [hs]
      subst hsl
      have hm : cd.mro = (.ref C :: (if C == P then [] else [.ref P])) ++ PySem.HandSPX.veTail := by simpa using h1
      obtain ⟨nm, bs, mro, ns, qn, hd, sn, sub, ab, col, del⟩ := cd
      dsimp only at hm h2 h3
      subst hm h2 h3
      exact ⟨nm, qn, ns, bs, sn, sub, ab, col, dd, k0, k1, k2, k3, k5, ho⟩
    · cases h4
  · cases h
theorem exC_of {K : Frag} {P C : Addr} (h : exShape K P C = true) (h2 : exRest K C = true) : ExC K C := by
  obtain ⟨nm, q, N, bs, sn, sub, ab, col, dd, k0, k1, k2, k3, k5, hC⟩ := exShape_ok h
  obtain ⟨r1, h2⟩ := He.ba h2
  obtain ⟨r2, h2⟩ := He.ba h2
  obtain ⟨r3, h2⟩ := He.ba h2
  obtain ⟨r4, r5⟩ := He.ba h2
  have hbm : PySem.HandSPX.refsVE ((if C == P then [] else [.ref P]) ++ PySem.HandSPX.veTail) = true := by
    by_cases e : (C == P) = true
    · rw [if_pos e]; rfl
    · rw [if_neg e]; rfl
  have hcl : ∃ cd, clsIn K C = some cd ∧ cd.hasDict = true ∧ cd.mro = .ref C :: ((if C == P then [] else [.ref P]) ++ PySem.HandSPX.veTail) := by
    unfold clsIn
    rw [hC]
    exact ⟨_, rfl, rfl, rfl⟩
  obtain ⟨cd, hcd, hdict, hmro⟩ := hcl
  have hm : ∀ T : String, PySem.HandSPX.veTail.contains (.type T) = true → mroIn K C (.type T) = some true := fun T hT => by
    unfold mroIn
    rw [hcd, Option.bind_some, hmro, if_neg (by simp), List.contains_cons, PySem.HandSPX.refsVE_contains T _ hbm, hT, Bool.or_true]
  refine ⟨⟨⟨nm, q, N, bs, _, sn, sub, ab, col, dd, k0, k1, k2, k3, k5, hC, hbm⟩, He.eqO_ok r1, hm "BaseException" (by decide +kernel), ?_, r2⟩, ?_, He.eqO_ok r3, He.eqO_ok r4, He.eqO_ok r5, by rfl, by rfl, hm "object" (by decide +kernel)⟩
  · show (K.lookup C).map (·.cls) = _
    rw [hC]; rfl
  · unfold hasDictIn
    rw [hcd]
    exact hdict
theorem exI_of {K : Frag} {C fI : Addr} {f : Str} (h : exInit K C fI f = true) : ExI K C fI f ∧ okName f = true := by
  obtain ⟨r1, h⟩ := He.ba h
  obtain ⟨r2, h⟩ := He.ba h
  obtain ⟨r3, r4⟩ := He.ba h
  exact ⟨⟨He.eqO_ok r1, of_decide_eq_true r2, He.eqO_ok r3⟩, r4⟩
/-- isinstance of such a class: itself, the base, what stands behind -/
theorem kit_own {K : Frag} {P D C : Addr} (h : exShape K P D = true) (h2 : exShape K P C = true) : kitOne K (.ref D) (.ref C) = some (decide (C = D ∨ C = P)) := by
  unfold kitOne kitCls
  by_cases e : D = C
  · subst e
    rw [if_pos (by simp), decide_eq_true (.inl rfl)]
  · rw [if_neg (by simpa using e)]
    obtain ⟨nm, q, N, bs, sn, sub, ab, col, dd, k0, k1, k2, k3, k5, hC⟩ := exShape_ok h2
    have hc : ((clsIn K C).isSome && typeIn K (.ref C) == some (.type "type")) = true := by
      have h1 : (clsIn K C).isSome = true := by
        unfold clsIn
        rw [hC]; rfl
      have h3 : typeIn K (.ref C) = some (.type "type") := by
        show (K.lookup C).map (·.cls) = _
        rw [hC]; rfl
      rw [h1, h3]; rfl
    show (if ((clsIn K C).isSome && typeIn K (.ref C) == some (.type "type")) = true then subIn K (.ref D) (.ref C) else none) = _
    rw [if_pos hc]
    obtain ⟨nm, q, N, bs, sn, sub, ab, col, dd, k0, k1, k2, k3, k5, hD⟩ := exShape_ok h
    show mroIn K D (.ref C) = _
    unfold mroIn
    have hcl : ∃ cd, clsIn K D = some cd ∧ cd.mro = .ref D :: ((if D == P then [] else [.ref P]) ++ PySem.HandSPX.veTail) := by
      unfold clsIn
      rw [hD]
      exact ⟨_, rfl, rfl⟩
    obtain ⟨cd, hcd, hmro⟩ := hcl
    rw [hcd, Option.bind_some, hmro, if_neg (by simp)]
    congr 1
    have e' : ¬ C = D := fun z => e z.symm
    by_cases hp : C = P
    · subst hp
      have hne : (D == C) = false := by simpa using e
      simp [hne, e']
    · have hp2 : ∀ b, (if (D == P) = true then ([] : List Value) else [.ref P]) = b → b.contains (.ref C) = false := fun b hb => by
        subst hb
        split
        · rfl
        · simpa using hp
      rw [List.contains_cons, List.contains_append, hp2 _ rfl]
      simp [e', hp]
theorem kit_ty_own {K : Frag} {P D : Addr} {T : String} (h : exShape K P D = true) (hm : kitMeta T = true) : kitOne K (.ref D) (.type T) = some (PySem.HandSPX.veTail.contains (.type T)) := by
  unfold kitOne kitCls
  rw [if_neg (by simp)]
  show (if kitMeta T = true then subIn K (.ref D) (.type T) else none) = _
  rw [if_pos hm]
  obtain ⟨nm, q, N, bs, sn, sub, ab, col, dd, k0, k1, k2, k3, k5, hD⟩ := exShape_ok h
  show mroIn K D (.type T) = _
  unfold mroIn
  have hcl : ∃ cd, clsIn K D = some cd ∧ cd.mro = .ref D :: ((if D == P then [] else [.ref P]) ++ PySem.HandSPX.veTail) := by
    unfold clsIn
    rw [hD]
    exact ⟨_, rfl, rfl⟩
  obtain ⟨cd, hcd, hmro⟩ := hcl
  have hbm : PySem.HandSPX.refsVE ((if D == P then [] else [.ref P]) ++ PySem.HandSPX.veTail) = true := by
    by_cases e : (D == P) = true
    · rw [if_pos e]; rfl
    · rw [if_neg e]; rfl
  rw [hcd, Option.bind_some, hmro, if_neg (by simp), List.contains_cons, PySem.HandSPX.refsVE_contains T _ hbm]
  congr 1
end L2


namespace L2
open PySem PySem.Spec PyProof.Rows PySem.W
/-! ### facts over a small part of the heap hold over all of it -/
def Sub (K1 K2 : Frag) : Prop := ∀ a o, K1.lookup a = some o → K2.lookup a = some o
section
variable {K1 K2 : Frag} (S : Sub K1 K2)
include S
theorem nsIn_mono {ns : Addr} {x : Str} {r : Option Value} (h : nsIn K1 ns x = some r) : nsIn K2 ns x = some r := by
  unfold nsIn at h ⊢
  cases q : K1.lookup ns with
  | none => rw [q] at h; cases h
  | some o => rw [S _ _ q]; rw [q] at h; exact h
theorem ownIn_mono {x : Str} {c : Value} {r : Option Value} (h : ownIn K1 x c = some r) : ownIn K2 x c = some r := by
  cases c with
  | ref a =>
    unfold ownIn at h ⊢
    dsimp only at h ⊢
    cases q : K1.lookup a with
    | none => rw [q] at h; cases h
    | some o =>
      rw [S _ _ q]
      rw [q] at h
      obtain ⟨oc, od, dt, sl⟩ := o
      cases dt with
      | cls cd => exact nsIn_mono S h
      | _ => cases h
  | _ => exact h
theorem alongIn_mono {x : Str} : ∀ {l : List Value} {r : Option Value}, alongIn K1 x l = some r → alongIn K2 x l = some r
  | [], _, h => h
  | c :: l, r, h => by
    unfold alongIn at h ⊢
    cases q : ownIn K1 x c with
    | none => rw [q] at h; cases h
    | some o =>
      rw [ownIn_mono S q]
      rw [q] at h
      cases o with
      | none => exact alongIn_mono h
      | some v => exact h
theorem findIn_mono {t : Value} {x : Str} {r : Option Value} (h : findIn K1 t x = some r) : findIn K2 t x = some r := by
  cases t with
  | ref a =>
    unfold findIn at h ⊢
    dsimp only at h ⊢
    cases q : K1.lookup a with
    | none => rw [q] at h; cases h
    | some o =>
      rw [S _ _ q]
      rw [q] at h
      obtain ⟨oc, od, dt, sl⟩ := o
      cases dt with
      | cls cd => exact alongIn_mono S h
      | _ => cases h
  | _ => exact h
theorem typeIn_mono {v t : Value} (h : typeIn K1 v = some t) : typeIn K2 v = some t := by
  cases v with
  | ref a =>
    obtain ⟨o, ho, e⟩ := Option.map_eq_some_iff.mp (show (K1.lookup a).map (·.cls) = some t from h)
    show (K2.lookup a).map (·.cls) = some t
    rw [S _ _ ho, ← e]; rfl
  | _ => exact h
theorem specialIn_mono {v : Value} {x : Str} {r : Option Value} (h : specialIn K1 v x = some r) : specialIn K2 v x = some r := by
  obtain ⟨t, a, b⟩ := Option.bind_eq_some_iff.mp h
  exact Option.bind_eq_some_iff.mpr ⟨t, typeIn_mono S a, findIn_mono S b⟩
theorem keepIn_mono {v : Value} (h : keepIn K1 v = true) : keepIn K2 v = true := by
  cases v with
  | ref a =>
    unfold keepIn at h ⊢
    dsimp only at h ⊢
    cases q : K1.lookup a with
    | none => rw [q] at h; cases h
    | some o =>
      rw [S _ _ q]
      rw [q] at h
      obtain ⟨oc, od, dt, sl⟩ := o
      cases dt with
      | func fd => rfl
      | cls cd =>
        have h' : (specialIn K1 (.ref a) "__call__" == some (some (.builtin "type.__call__"))) = true := h
        show (specialIn K2 (.ref a) "__call__" == some (some (.builtin "type.__call__"))) = true
        rw [specialIn_mono S (beq_iff_eq.mp h')]
        exact beq_iff_eq.mpr rfl
      | _ => cases h
  | _ => cases h
theorem codeIn_mono {cd : Value} {q : Str} (h : codeIn K1 cd q = true) : codeIn K2 cd q = true := by
  cases cd with
  | ref c =>
    unfold codeIn at h ⊢
    dsimp only at h ⊢
    cases z : K1.lookup c with
    | none => rw [z] at h; cases h
    | some o => rw [S _ _ z]; rw [z] at h; exact h
  | _ => cases h
theorem exShape_mono {P C : Addr} (h : exShape K1 P C = true) : exShape K2 P C = true := by
  unfold exShape at h ⊢
  cases z : K1.lookup C with
  | none => rw [z] at h; cases h
  | some o => rw [S _ _ z]; rw [z] at h; exact h
theorem eqFind_mono {t : Value} {x : Str} {r : Option Value} (h : He.eqO (findIn K1 t x) (some r) = true) : He.eqO (findIn K2 t x) (some r) = true :=
  decide_eq_true (findIn_mono S (He.eqO_ok h))
theorem exRest_mono {C : Addr} (h : exRest K1 C = true) : exRest K2 C = true := by
  obtain ⟨r1, h⟩ := He.ba h
  obtain ⟨r2, h⟩ := He.ba h
  obtain ⟨r3, h⟩ := He.ba h
  obtain ⟨r4, r5⟩ := He.ba h
  unfold exRest
  rw [eqFind_mono S r1, keepIn_mono S r2, eqFind_mono S r3, eqFind_mono S r4, eqFind_mono S r5]; rfl
theorem exInit_mono {C fI : Addr} {f : Str} (h : exInit K1 C fI f = true) : exInit K2 C fI f = true := by
  obtain ⟨r1, h⟩ := He.ba h
  obtain ⟨r2, h⟩ := He.ba h
  obtain ⟨r3, r4⟩ := He.ba h
  unfold exInit
  rw [eqFind_mono S r1, eqFind_mono S r3, r4, decide_eq_true (typeIn_mono S (of_decide_eq_true r2))]; rfl
theorem ma_mono {C a : Addr} {m : Str} (h : findIn K1 (.ref C) m = some (some (.ref a))) : He.ma K2 C m = a := by
  unfold He.ma
  rw [findIn_mono S h]
end
/-! ### the whole heap as a part -/
abbrev Gt := Addr → Option Obj
def wholeK (g : Gt) (n : Nat) : Frag := He.frG g (List.range n)
theorem frG_mem {g : Gt} {a : Addr} {o : Obj} (e : g a = some o) : ∀ as : List Addr, a ∈ as → (He.frG g as).lookup a = some o
  | [], h => by cases h
  | b :: r, h => by
    unfold He.frG
    rw [List.filterMap_cons]
    by_cases hb : a = b
    · subst hb
      rw [e]
      show (match a == a with | true => some o | false => _) = some o
      rw [show (a == a) = true by simp]
    · have hr : a ∈ r := by
        rcases List.mem_cons.mp h with z | z
        · exact absurd z hb
        · exact z
      have ih := frG_mem e r hr
      unfold He.frG at ih
      cases hg : g b with
      | none => exact ih
      | some ob =>
        show (match a == b with | true => some ob | false => _) = some o
        rw [show (a == b) = false by simpa using hb]
        exact ih
theorem sub_whole {g : Gt} {n : Nat} (hn : ∀ a o, g a = some o → a < n) (as : List Addr) : Sub (He.frG g as) (wholeK g n) := fun a o h => by
  have e := He.frG_at as h
  exact frG_mem e _ (List.mem_range.mpr (hn a o e))
theorem whole_at {g : Gt} {n : Nat} (hn : ∀ a o, g a = some o → a < n) {a : Addr} {o : Obj} (e : g a = some o) : (wholeK g n).lookup a = some o := frG_mem e _ (List.mem_range.mpr (hn a o e))

/-! ### the module's names, one after another -/
/-- what is asked of a name: nothing; a def without defaults; an own error, its __init__'s parameter -/
inductive Ask where
  | any
  | fn (d : He.DefD)
  | exc (x : Str) (st : Stmt) (f : Str)
  | exc0
def Ask.val : Ask → List He.FnW
  | .any => []
  | .fn d => [d.val]
  | .exc x st f => [some ("__init__", x, defArgs st, .stmts (defBody st), defScope st, mainGlobals, [], builtinsNs)]
  | .exc0 => []
def fnG (g : Gt) (a : Addr) : He.FnW := match g a with
  | some ⟨_, _, .func fd, _⟩ => some (fd.name, fd.qualname, fd.params, fd.body, fd.scope, fd.globals, fd.closure, fd.builtins)
  | _ => none
def codeG (g : Gt) (a : Addr) (q : Str) : Bool := match g a with
  | some ⟨_, _, .func fd, _⟩ => (match fd.code, fd.defaults with
    | .ref c, .none => codeIn (He.frG g [c]) (.ref c) q
    | _, _ => false)
  | _ => false
def clsNs (g : Gt) (C : Addr) : Addr := match g C with
  | some ⟨_, _, .cls cd, _⟩ => cd.ns
  | _ => 0
/-- the part of the heap that an own error's facts lean on -/
def exK (g : Gt) (P C : Addr) : Frag := He.frG g [C, clsNs g C, P, clsNs g P]
def exFn (g : Gt) (P C : Addr) : Addr := He.ma (exK g P C) C "__init__"
def exK2 (g : Gt) (P C : Addr) : Frag := He.frG g [C, exFn g P C, clsNs g C, P, clsNs g P]
def frA (a : Nat) (k : Nat → Bool) : Bool := match a with
  | 0 => k 0
  | n + 1 => k (n + 1)
theorem frA_eq (a : Nat) (k : Nat → Bool) : frA a k = k a := by cases a <;> rfl
def askB (g : Gt) (P : Addr) (v : Value) : Ask → Bool
  | .any => true
  | .fn d => (match v with
    | .ref a => codeG g a d.qual
    | _ => false)
  | .exc x _ f => (match v with
    | .ref C => exShape (exK g P C) P C && (exRest (exK g P C) C && frA (exFn g P C) fun fI => exInit (exK2 g P C) C fI f && codeG g fI x)
    | _ => false)
  | .exc0 => (match v with
    | .ref C => exShape (exK g P C) P C && (exRest (exK g P C) C && excIn (exK g P C) C He.veBase "ValueError.__new__")
    | _ => false)
def askF (g : Gt) (P : Addr) (v : Value) : Ask → List He.FnW
  | .any => []
  | .fn _ => [match v with
    | .ref a => fnG g a
    | _ => none]
  | .exc _ _ _ => [match v with
    | .ref C => fnG g (exFn g P C)
    | _ => none]
  | .exc0 => []
theorem ask_len (g : Gt) (P : Addr) (v : Value) (k : Ask) : (askF g P v k).length = k.val.length := by cases k <;> rfl
def askL (g : Gt) (P : Addr) : List DictEntry → List (Str × Ask) → Bool × List He.FnW
  | [], [] => (true, [])
  | e :: es, (n, k) :: r => (e.key.isStr n && (askB g P e.val k && (askL g P es r).1), askF g P e.val k ++ (askL g P es r).2)
  | _, _ => (false, [])
def entsG (g : Gt) : List DictEntry := match g mainGlobals with
  | some ⟨_, _, .dict es _, _⟩ => es.toList
  | _ => []
def refAt (es : List DictEntry) (i : Nat) : Addr := match es[i]? with
  | some e => (match e.val with
    | .ref a => a
    | _ => 0)
  | none => 0
def addrsB : List DictEntry → List (Str × Ask) → List Nat
  | e :: es, (_, k) :: r => (match k, e.val with
    | .exc _ _ _, .ref a => a :: addrsB es r
    | .exc0, .ref a => a :: addrsB es r
    | _, _ => addrsB es r)
  | _, _ => []
def noTwice : List Nat → Bool
  | [] => true
  | a :: r => (r.all fun b => !Nat.beq a b) && noTwice r
theorem noTwice_ok : ∀ {l : List Nat}, noTwice l = true → l.Nodup
  | [], _ => List.nodup_nil
  | a :: r, h => by
    obtain ⟨h1, h2⟩ := He.ba h
    refine List.nodup_cons.mpr ⟨fun hm => ?_, noTwice_ok h2⟩
    have z := List.all_eq_true.mp h1 a hm
    simp at z
/-- all that the head is asked; iP the base error's place among the names -/
def obsG (iP : Nat) (ns : List (Str × Ask)) (g : Gt) : Bool × List He.FnW :=
  (noTwice (addrsB (entsG g) ns) && (askL g (refAt (entsG g) iP) (entsG g) ns).1, (askL g (refAt (entsG g) iP) (entsG g) ns).2)
def valG (ns : List (Str × Ask)) : Bool × List He.FnW := (true, ns.flatMap fun p => p.2.val)
def SaysG (iP : Nat) (ns : List (Str × Ask)) (h : Heap) : Prop := ∃ (g : Gt) (n : Nat), (∀ a o, g a = some o → h.get? a = some o) ∧ (∀ a o, g a = some o → a < n) ∧ obsG iP ns g = valG ns
def hookG (iP : Nat) (ns : List (Str × Ask)) : PySem.W.Hook where
  α := Bool × List He.FnW
  obs := fun s => obsG iP ns s.heap.get?
  val := fun _ => valG ns
  says := fun _ h => SaysG iP ns h
  of := fun _ s e => ⟨s.heap.get?, s.heap.objs.size, fun _ _ z => z, fun _ _ z => Heap.lt_size z, e⟩
  keeps := fun _ _ _ ⟨g, n, h1, h2, e⟩ k => ⟨g, n, fun a o z => k a o (h1 a o z), h2, e⟩
def obG (iP : Nat) (ns : List (Str × Ask)) (s : SharedT) : Bool × List He.FnW := obsG iP ns (HandSHeadRun.getT s)
theorem obG_eq (iP : Nat) (ns : List (Str × Ask)) (s : SharedT) : obG iP ns s = (hookG iP ns).obs s.abs := by
  have e : HandSHeadRun.getT s = s.abs.heap.get? := funext (HandSHeadRun.getT_eq s)
  unfold obG
  rw [e]; rfl
/-! ### what it gives -/
theorem askL_at {g : Gt} {P : Addr} : ∀ {es : List DictEntry} {ns : List (Str × Ask)}, askL g P es ns = (true, ns.flatMap fun p => p.2.val) → es.length = ns.length ∧
    ∀ (i : Nat) (n : Str) (k : Ask), ns[i]? = some (n, k) → ∃ e, es[i]? = some e ∧ e.key.isStr n = true ∧ askB g P e.val k = true ∧ askF g P e.val k = k.val
  | [], [], _ => ⟨rfl, fun i n k h => by simp at h⟩
  | [], _ :: _, h => by
    have z : false = true := congrArg (fun z : Bool × List He.FnW => z.1) h
    cases z
  | _ :: _, [], h => by
    have z : false = true := congrArg (fun z : Bool × List He.FnW => z.1) h
    cases z
  | e :: es, (n, k) :: r, h => by
    have h1 : (e.key.isStr n && (askB g P e.val k && (askL g P es r).1)) = true := congrArg (fun z : Bool × List He.FnW => z.1) h
    have h2 : askF g P e.val k ++ (askL g P es r).2 = k.val ++ r.flatMap fun p => p.2.val := congrArg (fun z : Bool × List He.FnW => z.2) h
    obtain ⟨a1, a2⟩ := He.ba h1
    obtain ⟨a3, a4⟩ := He.ba a2
    obtain ⟨b1, b2⟩ := List.append_inj h2 (ask_len g P e.val k)
    obtain ⟨l, ih⟩ := askL_at (es := es) (ns := r) (Prod.ext a4 b2)
    refine ⟨by simp [l], fun i n' k' hi => ?_⟩
    cases i with
    | zero =>
      have z : (n, k) = (n', k') := by simpa using hi
      cases z
      exact ⟨e, rfl, a1, a3, b1⟩
    | succ i => exact ih i n' k' (by simpa using hi)
/-- the first place of a name -/
def placeOf (x : Str) : List (Str × Ask) → Option (Nat × Ask)
  | [] => none
  | (n, k) :: r => if n = x then some (0, k) else (placeOf x r).map fun p => (p.1 + 1, p.2)
theorem find_place {x : Str} : ∀ {es : List DictEntry} {ns : List (Str × Ask)}, es.length = ns.length → (∀ (i : Nat) (n : Str) (k : Ask), ns[i]? = some (n, k) → ∃ e, es[i]? = some e ∧ e.key.isStr n = true) →
    (match placeOf x ns with
    | none => es.find? (·.key.isStr x) = none
    | some (i, k) => ns[i]? = some (x, k) ∧ ∃ e, es[i]? = some e ∧ es.find? (·.key.isStr x) = some e)
  | [], [], _, _ => rfl
  | [], _ :: _, h, _ => by cases h
  | _ :: _, [], h, _ => by cases h
  | e :: es, (n, k) :: r, hl, h => by
    obtain ⟨e0, he0, hk⟩ := h 0 n k rfl
    have : e = e0 := by simpa using he0
    subst this
    unfold placeOf
    by_cases hn : n = x
    · subst hn
      rw [if_pos rfl]
      exact ⟨rfl, e, rfl, by rw [List.find?_cons, hk]⟩
    · rw [if_neg hn]
      have hx : e.key.isStr x = false := by
        cases q : e.key.isStr x with
        | false => rfl
        | true => exact absurd (Value.isStr_inj _ _ _ hk q) hn
      have ih := find_place (x := x) (es := es) (ns := r) (by simpa using hl) fun i n' k' hi => h (i + 1) n' k' (by simpa using hi)
      cases q : placeOf x r with
      | none =>
        rw [q] at ih
        show (e :: es).find? _ = none
        rw [List.find?_cons, hx]
        exact ih
      | some p =>
        obtain ⟨i, k'⟩ := p
        rw [q] at ih
        obtain ⟨z1, e1, z2, z3⟩ := ih
        refine ⟨by simpa using z1, e1, by simpa using z2, ?_⟩
        rw [List.find?_cons, hx]
        exact z3
/-- all that is known behind the top -/
structure Top0 (iP : Nat) (ns : List (Str × Ask)) (h : Heap) (mg : Str → Option Value) where
  g : Gt
  n : Nat
  ing : ∀ a o, g a = some o → h.get? a = some o
  lt : ∀ a o, g a = some o → a < n
  eq : obsG iP ns g = valG ns
  mgs : ∀ x, mg x = ((entsG g).find? (·.key.isStr x)).map (·.val)
theorem top0_of {iP : Nat} {ns : List (Str × Ask)} {h : Heap} {mg : Str → Option Value} (S : SaysG iP ns h) (G : h.Ns mainGlobals mg) (hne : ns ≠ []) : Nonempty (Top0 iP ns h mg) := by
  obtain ⟨g, n, h1, h2, e⟩ := S
  refine ⟨⟨g, n, h1, h2, e, fun x => ?_⟩⟩
  have e1 : (noTwice (addrsB (entsG g) ns) && (askL g (refAt (entsG g) iP) (entsG g) ns).1) = true := congrArg (fun z : Bool × List He.FnW => z.1) e
  have e2 := congrArg (fun z : Bool × List He.FnW => z.2) e
  obtain ⟨l, _⟩ := askL_at (Prod.ext (He.ba e1).2 e2)
  obtain ⟨o, es, ep, ho, hd, _, hf⟩ := G
  have hg : entsG g = es.toList := by
    unfold entsG at l ⊢
    cases q : g mainGlobals with
    | none =>
      rw [q] at l
      have : ns.length = 0 := l.symm
      exact absurd (List.length_eq_zero_iff.mp this) hne
    | some o' =>
      have z := (h1 _ _ q).symm.trans ho
      cases z
      obtain ⟨oc, od, dt, sl⟩ := o
      dsimp only at hd
      subst hd
      rfl
  rw [hg, ← hf x]
  unfold nsFind findBy
  rw [← Array.find?_toList]
section
variable {iP : Nat} {ns : List (Str × Ask)} {h : Heap} {mg : Str → Option Value}
namespace Top0
variable (T : Top0 iP ns h mg)
include T
def K : Frag := wholeK T.g T.n
def P : Addr := refAt (entsG T.g) iP
theorem kin : T.K.In h := fun a o e => T.ing a o (He.frG_at _ e)
theorem sub (as : List Addr) : Sub (He.frG T.g as) T.K := sub_whole T.lt as
theorem all : (entsG T.g).length = ns.length ∧ ∀ (i : Nat) (n : Str) (k : Ask), ns[i]? = some (n, k) → ∃ e, (entsG T.g)[i]? = some e ∧ e.key.isStr n = true ∧ askB T.g T.P e.val k = true ∧ askF T.g T.P e.val k = k.val := by
  have e1 : (noTwice (addrsB (entsG T.g) ns) && (askL T.g (refAt (entsG T.g) iP) (entsG T.g) ns).1) = true := congrArg (fun z : Bool × List He.FnW => z.1) T.eq
  have e2 := congrArg (fun z : Bool × List He.FnW => z.2) T.eq
  exact askL_at (Prod.ext (He.ba e1).2 e2)
/-- the value of the i-th name -/
def val (i : Nat) : Value := (((entsG T.g)[i]?).map (·.val)).getD .none
theorem free {x : Str} (hp : placeOf x ns = none) : mg x = none := by
  have z := find_place (x := x) T.all.1 fun i n k hi => let ⟨e, a, b, _⟩ := T.all.2 i n k hi; ⟨e, a, b⟩
  rw [hp] at z
  rw [T.mgs x, z]; rfl
theorem glo {x : Str} {i : Nat} {k : Ask} (hp : placeOf x ns = some (i, k)) : mg x = some (T.val i) ∧ askB T.g T.P (T.val i) k = true ∧ askF T.g T.P (T.val i) k = k.val := by
  have z := find_place (x := x) T.all.1 fun i n k hi => let ⟨e, a, b, _⟩ := T.all.2 i n k hi; ⟨e, a, b⟩
  rw [hp] at z
  obtain ⟨z1, e, z2, z3⟩ := z
  obtain ⟨e', y1, _, y2, y3⟩ := T.all.2 i x k z1
  have ee : e' = e := Option.some.inj (y1.symm.trans z2)
  subst ee
  have ev : T.val i = e'.val := by
    unfold val
    rw [y1]; rfl
  rw [T.mgs x, z3, ev]
  exact ⟨rfl, y2, y3⟩
theorem fnAt {a : Addr} {q nm : Str} {params : Arguments} {body : List Stmt} {scope : Scope} (hb : codeG T.g a q = true) (hf : fnG T.g a = some (nm, q, params, .stmts body, scope, mainGlobals, [], builtinsNs)) :
    ∃ fd, FunD T.K nm q params body scope [] [] a fd := by
  unfold codeG at hb
  unfold fnG at hf
  cases e : T.g a with
  | none => rw [e] at hb; cases hb
  | some o =>
    rw [e] at hb hf
    obtain ⟨oc, od, dt, sl⟩ := o
    cases dt with
    | func fd =>
      obtain ⟨n1, n2, n3, n4, n5, n6, n7, n8, n9, n10, n11, n12, n13, n14, n15⟩ := fd
      simp only [Option.some.injEq, Prod.mk.injEq] at hf
      obtain ⟨h1, h2, h3, h4, h5, h6, h7, h8⟩ := hf
      subst h1 h2 h3 h4 h5 h6 h7 h8
      have hl : (T.K).lookup a = some _ := whole_at T.lt e
      dsimp only at hb
      cases n13 with
      | ref c =>
        cases n8 with
        | none =>
          refine ⟨_, ⟨oc, od, .none, n9, n10, n11, n12, .ref c, n14, sl, rfl, hl, codeIn_mono (T.sub _) hb, .inl ⟨rfl, rfl⟩, .inl rfl⟩, ?_⟩
          unfold keepIn
          dsimp only
          rw [hl]
        | _ => cases hb
      | _ => cases n8 <;> cases hb
    | _ => cases hb
theorem def_ {x : Str} {i : Nat} {d : He.DefD} (hp : placeOf x ns = some (i, .fn d)) : ∃ f fd, mg x = some (.ref f) ∧ FunD T.K d.name d.qual d.params d.body d.scope [] [] f fd := by
  obtain ⟨h1, h2, h3⟩ := T.glo hp
  cases q : T.val i with
  | ref a =>
    rw [q] at h1 h2 h3
    have h3' : [fnG T.g a] = [d.val] := h3
    obtain ⟨fd, F⟩ := T.fnAt h2 (List.cons.inj h3').1
    exact ⟨a, fd, h1, F⟩
  | _ => rw [q] at h2; cases h2
theorem exc {x y f : Str} {st : Stmt} {i : Nat} (hp : placeOf x ns = some (i, .exc y st f)) : ∃ C fI fd, mg x = some (.ref C) ∧ T.val i = .ref C ∧ exShape T.K T.P C = true ∧ ExC T.K C ∧ ExI T.K C fI f ∧ okName f = true ∧
    FunD T.K "__init__" y (defArgs st) (defBody st) (defScope st) [] [] fI fd := by
  obtain ⟨h1, h2, h3⟩ := T.glo hp
  cases q : T.val i with
  | ref C =>
    rw [q] at h1 h2 h3
    have h3' : [fnG T.g (exFn T.g T.P C)] = [(some ("__init__", y, defArgs st, .stmts (defBody st), defScope st, mainGlobals, [], builtinsNs) : He.FnW)] := h3
    obtain ⟨b1, b2⟩ := He.ba (show (exShape (exK T.g T.P C) T.P C && (exRest (exK T.g T.P C) C && frA (exFn T.g T.P C) fun fI => exInit (exK2 T.g T.P C) C fI f && codeG T.g fI y)) = true from h2)
    obtain ⟨b3, b4⟩ := He.ba b2
    rw [frA_eq] at b4
    obtain ⟨b5, b6⟩ := He.ba b4
    obtain ⟨fd, F⟩ := T.fnAt b6 (List.cons.inj h3').1
    have s1 := exShape_mono (T.sub _) b1
    obtain ⟨i1, i2⟩ := exI_of (exInit_mono (T.sub _) b5)
    exact ⟨C, _, fd, h1, rfl, s1, exC_of s1 (exRest_mono (T.sub _) b3), i1, i2, F⟩
  | _ => rw [q] at h2; cases h2
theorem exc0 {x : Str} {i : Nat} (hp : placeOf x ns = some (i, .exc0)) : ∃ C, mg x = some (.ref C) ∧ T.val i = .ref C ∧ exShape T.K T.P C = true ∧ ExC T.K C ∧ excIn (exK T.g T.P C) C He.veBase "ValueError.__new__" = true := by
  obtain ⟨h1, h2, h3⟩ := T.glo hp
  cases q : T.val i with
  | ref C =>
    rw [q] at h1 h2
    obtain ⟨b1, b2⟩ := He.ba (show (exShape (exK T.g T.P C) T.P C && (exRest (exK T.g T.P C) C && excIn (exK T.g T.P C) C He.veBase "ValueError.__new__")) = true from h2)
    obtain ⟨b3, b4⟩ := He.ba b2
    have s1 := exShape_mono (T.sub _) b1
    exact ⟨C, h1, rfl, s1, exC_of s1 (exRest_mono (T.sub _) b3), b4⟩
  | _ => rw [q] at h2; cases h2
end Top0
end
end L2


namespace L2
open PySem PySem.Spec PyProof.Rows
/-! ### lists of ints as data -/
theorem dpI {K : PySem.W.Frag} {H : Hp} : ∀ zs : List Int, DpAll K H (zs.map V.int) (zs.map PyData.int)
  | [] => .nil
  | z :: zs => .cons (.int z) (dpI zs)
theorem layI : ∀ zs : List Int, PyData.canLayAll0 (zs.map PyData.int) = true
  | [] => by simp [PyData.canLayAll0]
  | z :: zs => by simp [PyData.canLayAll0, PyData.canLay0, layI zs]
theorem depI : ∀ zs : List Int, PyData.depthAll (zs.map PyData.int) = 0
  | [] => by simp [PyData.depthAll]
  | z :: zs => by simp [PyData.depthAll, PyData.depth, depI zs]
theorem shI (zs : List Int) : SeqAt.shaped (.list (zs.map PyData.int)) = true := by
  show (PyData.canLay0 (.list (zs.map PyData.int)) && decide (PyData.depth (.list (zs.map PyData.int)) ≤ 64)) = true
  simp only [PyData.canLay0, PyData.depth, layI, depI]
  decide
theorem eqI : ∀ xs ys : List Int, PyData.eqv (.list (xs.map PyData.int)) (.list (ys.map PyData.int)) = decide (xs = ys)
  | [], [] => by simp [PyData.eqv, PyData.eqvAll]
  | [], _ :: _ => by simp [PyData.eqv, PyData.eqvAll]
  | _ :: _, [] => by simp [PyData.eqv, PyData.eqvAll]
  | x :: xs, y :: ys => by
    have ih := eqI xs ys
    simp only [PyData.eqv] at ih
    simp only [List.map_cons, PyData.eqv, PyData.eqvAll, ih, List.cons.injEq]
    by_cases h : x = y
    · subst h; simp
    · simp [h]
theorem upd_none {H : Hp} {a p : Addr} {o : HO} (h : upd H a o p = none) : p ≠ a ∧ H p = none := by
  by_cases e : p = a
  · rw [e, upd_same] at h
    cases h
  · rw [upd_ne e] at h
    exact ⟨e, h⟩
end L2
namespace L2
open PySem PySem.Spec PyProof.Rows
section
variable {K : PySem.W.Frag} {σ : St} {H : Hp} {p : Addr} {xs : List V} {i j : Int} {n : Nat} {v x y : V} {ta tb te : TE} {t : TA} {tt tu : TT} {r : R2} {D : Ends} {ts us : TS} {g : TG} {Q : VK} {QA : List V → Hp → Prop} {QT : Bool → Hp → Prop} {QG : St → Hp → Prop} {QS : Hp → Prop} {b : Bool}
/-! ### one step of a reading -/
theorem u_var (h : σ[n]? = some (some v)) (q : Q v H) : tVar n σ H Q := ⟨v, h, q⟩
theorem u_c (q : Q v H) : tC v σ H Q := q
theorem u_op (q : ta σ H fun x H1 => tb σ H1 fun y H2 => r x y H2 Q) : tOp r ta tb σ H Q := q
theorem u_un {r : V → Hp → VK → Prop} (q : ta σ H fun x H1 => r x H1 Q) : tUn r ta σ H Q := q
theorem u_cb {r : List V → Hp → VK → Prop} (q : t σ H fun vs H1 => r vs H1 Q) : tCB r t σ H Q := q
theorem u_nil (q : QA [] H) : tNil σ H QA := q
theorem u_cons (q : ta σ H fun x H1 => t σ H1 fun xs H2 => QA (x :: xs) H2) : tCons ta t σ H QA := q
theorem u_asg (q : te σ H fun x H1 => g x σ H1 D.nx) : tAsg te g D σ H := q
theorem u_name (q : QG (σ.set n (some v)) H) : gName n v σ H QG := q
theorem u_sub {s : TSet} (q : ta σ H fun o H1 => tb σ H1 fun i H2 => s o i v H2 fun H3 => QG σ H3) : gSub ta tb s v σ H QG := q
theorem u_seq (q : ts { D with nx := us D } σ H) : tSeq ts us D σ H := q
theorem u_ret (q : te σ H D.rt) : tRet te D σ H := q
theorem u_next (q : D.nx σ H) : tNext D σ H := q
theorem u_drop (q : te σ H fun _ H1 => D.nx σ H1) : tDrop te D σ H := q
theorem u_test (q : te σ H fun x H' => ∃ k, x = .bl k ∧ QT k H') : tTest te σ H QT := q
theorem u_b (q : te σ H fun x H' => ∃ k, x = .bl k ∧ QT k H') : tB te σ H QT := q
theorem u_ifS (q : tt σ H fun b H1 => if b = true then ts D σ H1 else us D σ H1) : tIfS tt ts us D σ H := q
theorem u_if (q : tt σ H fun b H1 => if b = true then ta σ H1 Q else tb σ H1 Q) : tIf tt ta tb σ H Q := q
theorem u_and (q : tt σ H fun c H1 => if c = true then tu σ H1 QT else QT false H1) : tAnd tt tu σ H QT := q
theorem u_or (q : tt σ H fun c H1 => if c = true then QT true H1 else tu σ H1 QT) : tOr tt tu σ H QT := q
theorem u_not (q : tt σ H fun c H1 => QT (!c) H1) : tNot tt σ H QT := q
theorem u_andV (q : ta σ H fun x H1 => ∃ c, x = .bl c ∧ if c = true then tb σ H1 Q else Q (.bl false) H1) : tAndV ta tb σ H Q := q
theorem u_orV (q : ta σ H fun x H1 => ∃ c, x = .bl c ∧ if c = true then Q (.bl true) H1 else tb σ H1 Q) : tOrV ta tb σ H Q := q
theorem u_notV (q : ta σ H fun x H1 => ∃ c, x = .bl c ∧ Q (.bl (!c)) H1) : tNotV ta σ H Q := q
theorem u_tup (q : t σ H fun xs H1 => xs.length ≤ sizeLine ∧ ∀ p, H1 p = none → Q (.ref p) (upd H1 p (.tup xs))) : tTup t σ H Q := q
theorem u_lst (q : t σ H fun xs H1 => xs.length ≤ sizeLine ∧ ∀ p, H1 p = none → Q (.ref p) (upd H1 p (.lst xs))) : tLst t σ H Q := q
theorem u_call {sp : Sp} {dvs : List V} {E : XK} (q : t σ H fun vs H1 => sp (vs ++ dvs) H1 Q E) : tCall sp dvs E t σ H Q := q
theorem u_bm {T : String} {r : V → List V → Hp → VK → Prop} (q : ta σ H fun x H1 => tyV K T x H1 ∧ t σ H1 fun xs H2 => r x xs H2 Q) : tBM K T r ta t σ H Q := q
theorem u_bm0 {T : String} {r : V → List V → Hp → VK → Prop} (q : ta σ H fun x H1 => tyV K T x H1 ∧ r x [] H1 Q) : tBM0 K T r ta σ H Q := q
theorem u_yes (q : QT true H) : tYes σ H QT := q
theorem u_bl {c : Bool} (q : QT c H) : ∃ k, V.bl c = .bl k ∧ QT k H := ⟨c, rfl, q⟩
theorem r_I0 {f : Int → Int → V} (q : Q (f i j) H) : rI0 f (.int i) (.int j) H Q := ⟨i, j, rfl, rfl, q⟩
theorem r_I {C : Int → Int → Prop} {f : Int → Int → V} (c : C i j) (q : Q (f i j) H) : rI C f (.int i) (.int j) H Q := ⟨i, j, rfl, rfl, c, q⟩
theorem r_U {f : Int → V} (q : Q (f i) H) : rU f (.int i) H Q := ⟨i, rfl, q⟩
theorem r_Eq (h : scal x y = true) (q : Q (.bl (decide (x = y))) H) : rEq x y H Q := ⟨h, q⟩
theorem r_Ne (h : scal x y = true) (q : Q (.bl (!decide (x = y))) H) : rNe x y H Q := ⟨h, q⟩
theorem r_ixL (h : H p = some (.lst xs)) (e : atI xs i = some v) (q : Q v H) : rIxL K (.ref p) (.int i) H Q := ⟨p, xs, i, v, rfl, rfl, .inl (.inl h), e, q⟩
theorem r_ixT (h : H p = some (.tup xs)) (e : atI xs i = some v) (q : Q v H) : rIxT K (.ref p) (.int i) H Q := ⟨p, xs, i, v, rfl, rfl, .inl (.inl h), e, q⟩
theorem r_setL (h : H p = some (.lst xs)) (e : ixN xs.length i = some n) (q : QS (upd H p (.lst (xs.set n v)))) : rSetL (.ref p) (.int i) v H QS := ⟨p, xs, i, n, rfl, rfl, h, e, q⟩
theorem iteE {c : Bool} {A B : Prop} (h1 : c = true → A) (h2 : c = false → B) : if c = true then A else B := by
  cases c with
  | true => exact iteT (h1 rfl)
  | false => exact iteF (h2 rfl)
end
end L2
namespace L2
open PySem PySem.Spec PyProof.Rows
/-! ### isinstance of built-in kinds -/
def kitAB (a : String) : List String → Option Bool
  | [] => some false
  | b :: r => match kitB a b with
    | some true => some true
    | some false => kitAB a r
    | none => none
theorem kitAB_ok {K : PySem.W.Frag} {a : String} : ∀ {bs : List String} {r : Bool}, kitAB a bs = some r → PySem.W.kitAny K (.type a) (bs.map Value.type) = some r
  | [], _, h => h
  | b :: bs, r, h => by
    unfold kitAB at h
    show (match PySem.W.kitOne K (.type a) (.type b) with
      | some true => some true
      | some false => PySem.W.kitAny K (.type a) (bs.map Value.type)
      | none => none) = some r
    cases q : kitB a b with
    | none => rw [q] at h; cases h
    | some c =>
      rw [kit_ty q]
      rw [q] at h
      cases c with
      | true => exact h
      | false => exact kitAB_ok h
theorem tysP : ∀ bs : List String, Paired ClsV (bs.map V.ty) (bs.map Value.type)
  | [] => .nil
  | b :: bs => .cons (.ty b) (tysP bs)
section
variable {K : PySem.W.Frag} {H : Hp} {x : V} {a b : String} {bs : List String} {r : Bool} {Q : VK} {tp : Addr}
theorem r_isB (ty : TyY K H x (.type a)) (e : kitB a b = some r) (q : Q (.bl r) H) : rIsY K [x, .ty b] H Q := ⟨x, _, _, _, r, rfl, .ty b, ty, kit_ty e, q⟩
theorem r_isBT (ht : H tp = some (.tup (bs.map V.ty))) (ty : TyY K H x (.type a)) (e : kitAB a bs = some r) (q : Q (.bl r) H) : rIsYT K [x, .ref tp] H Q := ⟨x, tp, _, _, _, r, rfl, ht, tysP bs, ty, kitAB_ok e, q⟩
theorem r_isN (q : Q (.bl (decide (x = .non))) H) : rIsN x .non H Q := ⟨rfl, q⟩
end
end L2
namespace L2
theorem iteF' {c : Bool} {A B : Prop} (h : c = false) (q : B) : if c = true then A else B := by
  subst h
  exact iteF q
theorem iteT' {c : Bool} {A B : Prop} (h : c = true) (q : A) : if c = true then A else B := by
  subst h
  exact iteT q
end L2


namespace L2
open PySem PySem.Spec PyProof.Rows
/-- an own error without an __init__ of its own -/
structure ExZ (K : PySem.W.Frag) (C : Addr) : Prop where
  c : ExC K C
  z : ∃ K', Sub K' K ∧ PySem.W.excIn K' C He.veBase "ValueError.__new__" = true
def tMk0 (C : Addr) : TE := fun _ H Q => ∀ a, H a = none → Q (.ref a) (upd H a (exo a C none))
section
variable {X : Cx} {C : Addr} {x : Str} {p pos : Pos}
theorem pe_mk0 (T : ExZ X.K C) (hg : Gl X x) (hm : X.mg x = some (.ref C)) (hdb : (x == ("__debug__" : Str)) = false := by decide) : PE X (.Call (.Name x p) [] [] pos) (tMk0 C) := by
  obtain ⟨c, K', S, q⟩ := T
  refine ⟨fun pins s σ H Q I h => ?_⟩
  refine wpAny_Call_Name_kw (ld_glob I hg hm ?_ hdb)
  refine PySem.W.callWith_K0 I.kIn c.o.kC ?_
  show wpAny _ _ (call (.ref C) []) _ _ _
  have KI : K'.In s.heap := fun a o e => I.kIn a o (S a o e)
  obtain ⟨bm, N, nm, qn, bs, hdct, sn, sub, ab, col, dd, k0, k1, k2, k3, k5, mN, hC, hN, hni, T⟩ := exc_obj KI q
  obtain ⟨hp, g, dr, tk, os⟩ := s
  refine wpAny_call_exc_subT PySem.F.excBase_ValueError T hC hN hni (fun h' e hm => ?_) (Nat.zero_le _)
  obtain ⟨t, he, _, _⟩ := hm.there
  have hn := I.hok.gone hm.new
  exact ⟨.ref e, _, Inv.laidN (t' := tk) I hm.keeps hm.new hn (exo_ok he), rfl, h e hn⟩
end
/-- at a stands an own error of the class at C -/
def IsEx (H : Hp) (a C : Addr) : Prop := (∃ (d : Addr) (fs : List (Str × V)), H a = some (exo a C (some d)) ∧ H d = some (exd d fs)) ∨ H a = some (exo a C none)
theorem IsEx.ext {H H' : Hp} {a C : Addr} (e : ∀ b o, H b = some o → H' b = some o) (h : IsEx H a C) : IsEx H' a C := by
  rcases h with ⟨d, fs, h1, h2⟩ | h
  · exact .inl ⟨d, fs, e _ _ h1, e _ _ h2⟩
  · exact .inr (e _ _ h)
theorem IsEx.ty {K : PySem.W.Frag} {H : Hp} {a C : Addr} (T : ExC K C) (h : IsEx H a C) : TyY K H (.ref a) (.ref C) := by
  rcases h with ⟨d, fs, h1, h2⟩ | h
  · exact .exc T h1 h2
  · exact .exc0 T h
/-- own errors by their number: ns their names, ca their addresses; 0 is the base -/
structure Exs (P : Program) (w : World) (K : PySem.W.Frag) (mg : Str → Option Value) (base : Heap) (ns : List (Str × Option Str)) (ca : Nat → Addr) : Prop where
  a1 : ∀ (i : Nat) (x f : Str), ns[i]? = some (x, some f) → mg x = some (.ref (ca i)) ∧ ExD P w K mg base (ca i) f
  a0 : ∀ (i : Nat) (x : Str), ns[i]? = some (x, none) → mg x = some (.ref (ca i)) ∧ ExZ K (ca i)
  sh : ∀ i, i < ns.length → exShape K (ca 0) (ca i) = true ∧ ExC K (ca i)
  inj : ∀ i j, i < ns.length → j < ns.length → ca i = ca j → i = j
section
variable {P : Program} {w : World} {K : PySem.W.Frag} {mg : Str → Option Value} {base : Heap} {ns : List (Str × Option Str)} {ca : Nat → Addr} {H : Hp} {a tp : Addr} {i j : Nat} {Q : VK}
theorem kit_ix (cl : Exs P w K mg base ns ca) (hi : i < ns.length) (hj : j < ns.length) : PySem.W.kitOne K (.ref (ca i)) (.ref (ca j)) = some (decide (j = i ∨ j = 0)) := by
  rw [kit_own (cl.sh i hi).1 (cl.sh j hj).1]
  congr 1
  have h0 : 0 < ns.length := by omega
  exact decide_eq_decide.mpr ⟨fun h => h.elim (fun e => .inl (cl.inj _ _ hj hi e)) fun e => .inr (cl.inj _ _ hj h0 e), fun h => h.elim (fun e => .inl (by rw [e])) fun e => .inr (by rw [e])⟩
theorem r_isE (cl : Exs P w K mg base ns ca) (hx : IsEx H a (ca i)) (hi : i < ns.length) (hj : j < ns.length) (q : Q (.bl (decide (j = i ∨ j = 0))) H) : rIsY K [.ref a, .ref (ca j)] H Q :=
  ⟨_, _, _, _, _, rfl, .own _, hx.ty (cl.sh i hi).2, kit_ix cl hi hj, q⟩
theorem r_isEv (cl : Exs P w K mg base ns ca) (hx : IsEx H a (ca i)) (hi : i < ns.length) {T : String} {b : Bool} (hm : PySem.W.kitMeta T = true) (hb : PySem.HandSPX.veTail.contains (.type T) = b) (q : Q (.bl b) H) : rIsY K [.ref a, .ty T] H Q :=
  ⟨_, _, _, _, _, rfl, .ty T, hx.ty (cl.sh i hi).2, (kit_ty_own (cl.sh i hi).1 hm).trans (by rw [hb]), q⟩
theorem kit_ixs (cl : Exs P w K mg base ns ca) (hi : i < ns.length) : ∀ js : List Nat, (∀ j ∈ js, j < ns.length) → PySem.W.kitAny K (.ref (ca i)) (js.map fun j => .ref (ca j)) = some (js.any fun j => decide (j = i ∨ j = 0))
  | [], _ => rfl
  | j :: js, h => by
    have ih := kit_ixs cl hi js fun k hk => h k (List.mem_cons_of_mem _ hk)
    show (match PySem.W.kitOne K (.ref (ca i)) (.ref (ca j)) with
      | some true => some true
      | some false => PySem.W.kitAny K (.ref (ca i)) (js.map fun j => .ref (ca j))
      | none => none) = _
    rw [kit_ix cl hi (h j List.mem_cons_self), List.any_cons]
    cases decide (j = i ∨ j = 0) with
    | true => rfl
    | false => exact ih
theorem refsP (f : Nat → Addr) : ∀ js : List Nat, Paired ClsV (js.map fun j => V.ref (f j)) (js.map fun j => Value.ref (f j))
  | [] => .nil
  | j :: js => .cons (.own _) (refsP f js)
theorem r_isET (cl : Exs P w K mg base ns ca) (hx : IsEx H a (ca i)) (hi : i < ns.length) (js : List Nat) (hj : ∀ j ∈ js, j < ns.length) (ht : H tp = some (.tup (js.map fun j => V.ref (ca j)))) (q : Q (.bl (js.any fun j => decide (j = i ∨ j = 0))) H) :
    rIsYT K [.ref a, .ref tp] H Q :=
  ⟨_, tp, _, _, _, _, rfl, ht, refsP ca js, hx.ty (cl.sh i hi).2, kit_ixs cl hi js hj, q⟩
theorem u_mk0 {σ : St} {C : Addr} (q : ∀ a, H a = none → Q (.ref a) (upd H a (exo a C none))) : tMk0 C σ H Q := q
theorem u_mkE {σ : St} {C : Addr} {f : Str} {t : TA} (q : t σ H fun vs H1 => ∃ y, vs = [y] ∧ ∀ a d, H1 a = none → H1 d = none → d ≠ a → Q (.ref a) (upd (upd H1 d (exd d [(f, y)])) a (exo a C (some d)))) : tMkE C f t σ H Q := q
theorem u_xf {σ : St} {f : Str} {te : TE} (q : te σ H fun x H1 => ∃ (a C d : Addr) (fs : List (Str × V)) (y : V), x = .ref a ∧ ExC K C ∧ PySem.W.findIn K (.ref C) f = some none ∧ H1 a = some (exo a C (some d)) ∧ H1 d = some (exd d fs) ∧ fs.lookup f = some y ∧ Q y H1) : tXf K f te σ H Q := q
end
end L2
namespace L2
open PySem PySem.Spec PyProof.Rows
theorem exo_lst {a C : Addr} {d : Option Addr} {xs : List V} : exo a C d ≠ .lst xs := fun z => by
  have z' : HO.ext _ = HO.lst xs := z
  cases z'
theorem exd_lst {d : Addr} {fs : List (Str × V)} {xs : List V} : exd d fs ≠ .lst xs := fun z => by
  have z' : HO.ext _ = HO.lst xs := z
  cases z'
theorem IsEx.mutL {H : Hp} {a C t : Addr} {xs : List V} {o : HO} (h : IsEx H a C) (e : H t = some (.lst xs)) : IsEx (upd H t o) a C := by
  rcases h with ⟨d, fs, h1, h2⟩ | h
  · exact .inl ⟨d, fs, (upd_ne (ne_of h1 e exo_lst)).trans h1, (upd_ne (ne_of h2 e exd_lst)).trans h2⟩
  · exact .inr ((upd_ne (ne_of h e exo_lst)).trans h)
/-- a row of own errors made -/
def MkA (ca : Nat → Addr) (σ : St) (js : List Nat) (ta : TA) : Prop := ∀ (H : Hp) (Q : List V → Hp → Prop),
  (∀ (H' : Hp) (as : List Addr), (∀ b o, H b = some o → H' b = some o) → as.length = js.length → (∀ (k : Nat) (a : Addr) (j : Nat), as[k]? = some a → js[k]? = some j → IsEx H' a (ca j)) → Q (as.map V.ref) H') → ta σ H Q
theorem mka {ca : Nat → Addr} {σ : St} {js : List Nat} {ta : TA} (h : MkA ca σ js ta) (H : Hp) (Q : List V → Hp → Prop)
    (q : ∀ (H' : Hp) (as : List Addr), (∀ b o, H b = some o → H' b = some o) → as.length = js.length → (∀ (k : Nat) (a : Addr) (j : Nat), as[k]? = some a → js[k]? = some j → IsEx H' a (ca j)) → Q (as.map V.ref) H') : ta σ H Q := h H Q q
theorem mka_nil {ca : Nat → Addr} {σ : St} : MkA ca σ [] tNil := fun H Q q => q H [] (fun _ _ z => z) rfl fun k a j h => by simp at h
theorem mka_step {ca : Nat → Addr} {σ : St} {j : Nat} {js : List Nat} {te : TE} {ta : TA} (h1 : ∀ (H : Hp) (Q : VK), (∀ (H' : Hp) (a : Addr), (∀ b o, H b = some o → H' b = some o) → IsEx H' a (ca j) → Q (.ref a) H') → te σ H Q) (h2 : MkA ca σ js ta) : MkA ca σ (j :: js) (tCons te ta) := fun H Q q =>
  h1 H _ fun H1 a E1 i1 => h2 H1 _ fun H2 as E2 l i2 => q H2 (a :: as) (fun b o z => E2 b o (E1 b o z)) (by rw [List.length_cons, l]; rfl) fun k c j' e1 e2 => by
    cases k with
    | zero =>
      have ec : a = c := by simpa using e1
      have ej : j = j' := by simpa using e2
      subst ec ej
      exact i1.ext E2
    | succ k => exact i2 k c j' (by simpa using e1) (by simpa using e2)
theorem mka_cons {ca : Nat → Addr} {σ : St} {n j : Nat} {f : Str} {v : V} {js : List Nat} {ta : TA} (hv : σ[n]? = some (some v)) (h2 : MkA ca σ js ta) : MkA ca σ (j :: js) (tCons (tMkE (ca j) f (tCons (tVar n) tNil)) ta) :=
  mka_step (fun H Q q => ⟨v, hv, v, rfl, fun a d na nd ne => by
    refine q _ a (fun b o z => ?_) (.inl ⟨d, _, upd_same, (upd_ne ne).trans upd_same⟩)
    rw [upd_ne (ne_of_none z na), upd_ne (ne_of_none z nd)]
    exact z⟩) h2
theorem mka_cons0 {ca : Nat → Addr} {σ : St} {j : Nat} {js : List Nat} {ta : TA} (h2 : MkA ca σ js ta) : MkA ca σ (j :: js) (tCons (tMk0 (ca j)) ta) :=
  mka_step (fun H Q q a na => q _ a (fun b o z => by rw [upd_ne (ne_of_none z na)]; exact z) (.inr upd_same)) h2
end L2


namespace L2
open PySem PySem.Spec PyProof.Rows PySem.W
/-! ### own errors out of the head's facts -/
/-- an own error's __init__ has the plain form -/
inductive Ini : Str × Ask → Prop where
  | any {x : Str} : Ini (x, .any)
  | fn {x : Str} {d : He.DefD} : Ini (x, .fn d)
  | exc0 {x : Str} : Ini (x, .exc0)
  | exc {x y f : Str} {st : Stmt} {p1 p2 q1 q2 q3 q4 : Pos} (h1 : defArgs st = iA f p1 p2) (h2 : defBody st = iB f q1 q2 q3 q4) (h3 : defScope st = iS f) : Ini (x, .exc y st f)
/-- the errors' names and parameters stand at their places -/
def placed (ns : List (Str × Ask)) : Nat → List (Str × Option Str) → Bool
  | _, [] => true
  | i, (x, o) :: r => (match placeOf x ns, o with
    | some (j, .exc _ _ f), some f' => j == i && f == f'
    | some (j, .exc0), none => j == i
    | _, _ => false) && placed ns (i + 1) r
def isExc : Ask → Bool
  | .exc _ _ _ => true
  | .exc0 => true
  | _ => false
theorem placed_at {ns : List (Str × Ask)} : ∀ {xs : List (Str × Option Str)} {i : Nat}, placed ns i xs = true → ∀ (k : Nat) (x : Str) (o : Option Str), xs[k]? = some (x, o) →
    (∀ f, o = some f → ∃ y st, placeOf x ns = some (i + k, .exc y st f)) ∧ (o = none → placeOf x ns = some (i + k, .exc0))
  | [], _, _, k, x, o, e => by simp at e
  | (x0, o0) :: r, i, h, k, x, o, e => by
    unfold placed at h
    obtain ⟨h1, h2⟩ := He.ba h
    cases k with
    | zero =>
      have e' : (x0, o0) = (x, o) := by simpa using e
      obtain ⟨rfl, rfl⟩ := Prod.mk.inj e'
      clear h2 e e'
      split at h1
      · rename_i j y st f f' hp
        obtain ⟨z1, z2⟩ := He.ba h1
        obtain rfl : j = i := by simpa using z1
        obtain rfl : f = f' := by simpa using z2
        exact ⟨fun f2 hf => by
          obtain rfl := Option.some.inj hf
          exact ⟨y, st, hp⟩, fun z => by cases z⟩
      · rename_i j hp
        obtain rfl : j = i := by simpa using h1
        exact ⟨fun f2 hf => (nomatch hf), fun _ => hp⟩
      · cases h1
    | succ k =>
      have z := placed_at h2 k x o (by simpa using e)
      rw [show i + 1 + k = i + (k + 1) by omega] at z
      exact z
theorem placeOf_at {x : Str} {k : Ask} : ∀ {ns : List (Str × Ask)} {i : Nat}, placeOf x ns = some (i, k) → ns[i]? = some (x, k)
  | [], i, h => by cases h
  | (n, k0) :: r, i, h => by
    unfold placeOf at h
    by_cases hn : n = x
    · rw [if_pos hn] at h
      cases h
      rw [hn]; rfl
    · rw [if_neg hn] at h
      obtain ⟨⟨j, k'⟩, h1, h2⟩ := Option.map_eq_some_iff.mp h
      cases h2
      exact placeOf_at (ns := r) h1
theorem addrs_mem {n : Str} {k : Ask} {a : Nat} (hk : isExc k = true) : ∀ {es : List DictEntry} {ns : List (Str × Ask)} {i : Nat} {e : DictEntry}, es[i]? = some e → ns[i]? = some (n, k) → e.val = .ref a → a ∈ addrsB es ns
  | [], _, i, e, h, _, _ => by simp at h
  | _ :: _, [], i, e, _, h, _ => by simp at h
  | e0 :: es, (n0, k0) :: r, i, e, h1, h2, h3 => by
    cases i with
    | zero =>
      have z1 : e0 = e := by simpa using h1
      have z2 : (n0, k0) = (n, k) := by simpa using h2
      obtain ⟨rfl, rfl⟩ := Prod.mk.inj z2
      subst z1
      unfold addrsB
      rw [h3]
      cases k0 with
      | any => cases hk
      | fn d => cases hk
      | exc y st f => exact List.mem_cons_self
      | exc0 => exact List.mem_cons_self
    | succ i =>
      have ih := addrs_mem (es := es) (ns := r) (i := i) hk (by simpa using h1) (by simpa using h2) h3
      unfold addrsB
      split
      · exact List.mem_cons_of_mem _ ih
      · exact List.mem_cons_of_mem _ ih
      · exact ih
theorem addrs_inj {n1 n2 : Str} {k1 k2 : Ask} {a b : Nat} (hk1 : isExc k1 = true) (hk2 : isExc k2 = true) : ∀ {es : List DictEntry} {ns : List (Str × Ask)} {i j : Nat} {e1 e2 : DictEntry}, (addrsB es ns).Nodup → i < j →
    es[i]? = some e1 → ns[i]? = some (n1, k1) → e1.val = .ref a → es[j]? = some e2 → ns[j]? = some (n2, k2) → e2.val = .ref b → a ≠ b
  | [], _, i, j, e1, e2, _, _, h, _, _, _, _, _ => by simp at h
  | _ :: _, [], i, j, e1, e2, _, _, _, h, _, _, _, _ => by simp at h
  | e0 :: es, (n0, k0) :: r, i, j, e1, e2, nd, lt, g1, g2, g3, h1, h2, h3 => by
    obtain ⟨j, rfl⟩ : ∃ j', j = j' + 1 := ⟨j - 1, by omega⟩
    have h1 : es[j]? = some e2 := by simpa using h1
    have h2 : r[j]? = some (n2, k2) := by simpa using h2
    cases i with
    | zero =>
      have z1 : e0 = e1 := by simpa using g1
      have z2 : (n0, k0) = (n1, k1) := by simpa using g2
      obtain ⟨rfl, rfl⟩ := Prod.mk.inj z2
      subst z1
      have nm := addrs_mem hk2 h1 h2 h3
      have nd' : (a :: addrsB es r).Nodup := by
        unfold addrsB at nd
        rw [g3] at nd
        cases k0 with
        | any => cases hk1
        | fn d => cases hk1
        | exc y st f => exact nd
        | exc0 => exact nd
      exact fun e => (List.nodup_cons.mp nd').1 (by rw [e]; exact nm)
    | succ i =>
      have nd' : (addrsB es r).Nodup := by
        unfold addrsB at nd
        split at nd
        · exact (List.nodup_cons.mp nd).2
        · exact (List.nodup_cons.mp nd).2
        · exact nd
      exact addrs_inj (i := i) (j := j) hk1 hk2 nd' (by omega) (by simpa using g1) (by simpa using g2) g3 h1 h2 h3
section
variable {iP : Nat} {ns : List (Str × Ask)} {h : Heap} {mg : Str → Option Value} {P : Program} {w : World} {base : Heap}
theorem Top0.ref {T : Top0 iP ns h mg} {i : Nat} {C : Addr} (e : T.val i = .ref C) : (∃ en, (entsG T.g)[i]? = some en ∧ en.val = .ref C) ∧ refAt (entsG T.g) i = C := by
  unfold Top0.val at e
  unfold refAt
  cases q : (entsG T.g)[i]? with
  | none => rw [q] at e; cases e
  | some en =>
    rw [q] at e
    have e : en.val = .ref C := e
    exact ⟨⟨en, rfl, e⟩, by dsimp only; rw [e]⟩
theorem exs_of (T : Top0 iP ns h mg) (hi : ∀ p ∈ ns, Ini p) {xs : List (Str × Option Str)} (hp : placed ns iP xs = true) : Exs P w T.K mg base xs fun i => refAt (entsG T.g) (iP + i) := by
  have A1 : ∀ (i : Nat) (x f : Str), xs[i]? = some (x, some f) → mg x = some (.ref (refAt (entsG T.g) (iP + i))) ∧ ExD P w T.K mg base (refAt (entsG T.g) (iP + i)) f ∧ exShape T.K T.P (refAt (entsG T.g) (iP + i)) = true ∧ T.val (iP + i) = .ref (refAt (entsG T.g) (iP + i)) := fun i x f e => by
    obtain ⟨y, st, hpl⟩ := (placed_at hp i x _ e).1 f rfl
    obtain ⟨C, fI, fd, m, hv, sh, c, ini, okn, F⟩ := T.exc hpl
    obtain ⟨_, hC⟩ := Top0.ref hv
    rw [hC]
    refine ⟨m, ?_, sh, hv⟩
    obtain ⟨oc, od, dV, kV, doc, pm, an, cdv, ct, osl, rfl, lk, hcd, dv, _⟩ := F.ex
    obtain rfl : dV = .none := dv.elim (fun z => z.2) fun z => absurd rfl z.1
    cases hi _ (List.mem_of_getElem? (placeOf_at hpl)) with
    | exc h1 h2 h3 =>
      rw [h1, h2, h3] at lk
      exact exD_mk okn c ini lk hcd
  have A0 : ∀ (i : Nat) (x : Str), xs[i]? = some (x, none) → mg x = some (.ref (refAt (entsG T.g) (iP + i))) ∧ ExZ T.K (refAt (entsG T.g) (iP + i)) ∧ exShape T.K T.P (refAt (entsG T.g) (iP + i)) = true ∧ T.val (iP + i) = .ref (refAt (entsG T.g) (iP + i)) := fun i x e => by
    obtain ⟨C, m, hv, sh, c, q⟩ := T.exc0 ((placed_at hp i x _ e).2 rfl)
    obtain ⟨_, hC⟩ := Top0.ref hv
    rw [hC]
    exact ⟨m, ⟨c, _, T.sub _, q⟩, sh, hv⟩
  have B : ∀ i, i < xs.length → ∃ x k, ns[iP + i]? = some (x, k) ∧ isExc k = true ∧ T.val (iP + i) = .ref (refAt (entsG T.g) (iP + i)) ∧ exShape T.K T.P (refAt (entsG T.g) (iP + i)) = true ∧ ExC T.K (refAt (entsG T.g) (iP + i)) := fun i hl => by
    obtain ⟨⟨x, o⟩, e⟩ : ∃ p, xs[i]? = some p := ⟨_, List.getElem?_eq_getElem hl⟩
    cases o with
    | none =>
      obtain ⟨m, z, sh, hv⟩ := A0 i x e
      exact ⟨x, _, placeOf_at ((placed_at hp i x _ e).2 rfl), rfl, hv, sh, z.c⟩
    | some f =>
      obtain ⟨m, d, sh, hv⟩ := A1 i x f e
      obtain ⟨y, st, hpl⟩ := (placed_at hp i x _ e).1 f rfl
      exact ⟨x, _, placeOf_at hpl, rfl, hv, sh, d.c⟩
  have nd : (addrsB (entsG T.g) ns).Nodup := noTwice_ok (He.ba (congrArg (fun z : Bool × List He.FnW => z.1) T.eq : (noTwice (addrsB (entsG T.g) ns) && (askL T.g (refAt (entsG T.g) iP) (entsG T.g) ns).1) = true)).1
  have J : ∀ i j, i < j → j < xs.length → refAt (entsG T.g) (iP + i) ≠ refAt (entsG T.g) (iP + j) := fun i j lt hj => by
    obtain ⟨x1, k1, a1, a2, a3, _⟩ := B i (by omega)
    obtain ⟨x2, k2, b1, b2, b3, _⟩ := B j hj
    obtain ⟨⟨e1, p1, p2⟩, _⟩ := Top0.ref a3
    obtain ⟨⟨e2, q1, q2⟩, _⟩ := Top0.ref b3
    exact addrs_inj (i := iP + i) (j := iP + j) a2 b2 nd (by omega) p1 a1 p2 q1 b1 q2
  exact ⟨fun i x f e => ⟨(A1 i x f e).1, (A1 i x f e).2.1⟩, fun i x e => ⟨(A0 i x e).1, (A0 i x e).2.1⟩, fun i hl => (B i hl).elim fun _ z => z.elim fun _ z => z.2.2.2, fun i j hi hj e => by
    rcases Nat.lt_trichotomy i j with z | z | z
    · exact absurd e (J i j z hj)
    · exact z
    · exact absurd e.symm (J j i z hi)⟩
end
end L2


namespace L2
open PySem PySem.Spec PyProof.Rows
section
variable {P : Program} {w : World} {K : PySem.W.Frag} {mg : Str → Option Value} {base : Heap} {ns : List (Str × Option Str)} {ca : Nat → Addr} {H : Hp} {a tp : Addr} {i : Nat} {Q : VK}
/-- an own error and built-in classes -/
theorem kit_tys (cl : Exs P w K mg base ns ca) (hi : i < ns.length) : ∀ bs : List String, (∀ T ∈ bs, PySem.W.kitMeta T = true) → PySem.W.kitAny K (.ref (ca i)) (bs.map Value.type) = some (bs.any fun T => PySem.HandSPX.veTail.contains (.type T))
  | [], _ => rfl
  | T :: bs, h => by
    have ih := kit_tys cl hi bs fun k hk => h k (List.mem_cons_of_mem _ hk)
    show (match PySem.W.kitOne K (.ref (ca i)) (.type T) with
      | some true => some true
      | some false => PySem.W.kitAny K (.ref (ca i)) (bs.map Value.type)
      | none => none) = _
    rw [kit_ty_own (cl.sh i hi).1 (h T List.mem_cons_self), List.any_cons]
    cases PySem.HandSPX.veTail.contains (Value.type T) with
    | true => rfl
    | false => exact ih
theorem r_isETv (cl : Exs P w K mg base ns ca) (hx : IsEx H a (ca i)) (hi : i < ns.length) (bs : List String) (hm : ∀ T ∈ bs, PySem.W.kitMeta T = true) (ht : H tp = some (.tup (bs.map V.ty))) {b : Bool} (hb : (bs.any fun T => PySem.HandSPX.veTail.contains (.type T)) = b) (q : Q (.bl b) H) :
    rIsYT K [.ref a, .ref tp] H Q :=
  ⟨_, tp, _, _, _, _, rfl, ht, tysP bs, hx.ty (cl.sh i hi).2, (kit_tys cl hi bs hm).trans (by rw [hb]), q⟩
theorem u_par {i j : Nat} {ta : TA} {D : Ends} {σ : St} (q : ta σ H fun vs H1 => ∃ v w, vs = [v, w] ∧ D.nx ((σ.set i (some v)).set j (some w)) H1) : tPar i j ta D σ H := q
end
end L2


namespace L2Z
open PySem PySem.Spec PyProof.Rows L2
open L2H (RoomH Hot1 PinOk HotC cxH inv_startH TurnH PIH)
/-! ### raise C(e): the own error, made as a value, is let go -/
theorem pmk_exo {X : Cx} {e : Expr} {te : TE} (hx : X.ex = []) (he : PE X e te) :
    L2N.PMk X e (fun σ H Q => te σ H fun x H1 => ∃ a C d, x = .ref a ∧ OexC X.K C ∧ H1 a = some (exo a C (some d)) ∧ Fr0 X.H_0 a ∧ Q (.ref C) (some d) (delH H1 a)) := by
  intro pl t0 σ0 G0 W I0 hw
  refine wpAny_mono (he.run pl t0 σ0 G0 _ I0 hw) (fun u t1 hu => ?_) fun _ _ z => z
  obtain ⟨v, G1, I1, rv, a, C, d, rfl, T, ha, hf, q⟩ := hu
  cases rv
  obtain ⟨tr, ho⟩ := exo_at I1.hok ha
  obtain ⟨hs, hs1, hs2, I2⟩ := I1.untrack ha hf hx
  exact ⟨a, _, _, { t1 with heap := hs }, delH G1 a, .ref C, some d, rfl, I2, hs1, hs2, ho, ⟨rfl, rfl, fun vs z => by cases z; rfl⟩, rfl, rfl, delH_same, rfl, I1.bare, raises_own T.exC T.tyC, q⟩

/-! ### a def called in the suite, that knows the caught error -/
/-- the caught error: its address, class, dict -/
def Zd (a C d : Addr) (p : Addr × Obj) : Prop := p.1 = a ∧ p.2.cls = .ref C ∧ p.2.dict = some d ∧ ∃ vs, p.2.data = .fields vs
structure FnZ (P : Program) (w : World) (K : PySem.W.Frag) (mg : Str → Option Value) (base : Heap) (Z : Addr × Obj → Prop) (k : Nat) (f : Addr) (fd : FuncData) (ps : List Str) (sp : Sp) : Prop where
  len : ∀ vs H Q E, sp vs H Q E → vs.length = ps.length
  run : ∀ (A : Around) (up : List Env) (t : Shared) (H : Hp) (args : Args) (us : List Value) (vs : List V) (Q : VK) (p : Addr × Obj), RoomH k A → Hot1 A p → Z p → PinOk up H t p → Env0 P w K mg base A up t H →
    BindsTo t fd args (ps.zip us) → Vals vs us → sp vs H Q E0 → codeAny (model P w) A (.call (.ref f) args) (CR CX0 up P w H t Q E0) t

/-- such a def's body, in the context that bears the caught error -/
theorem FunD.okZ {P : Program} {w : World} {K : PySem.W.Frag} {mg : Str → Option Value} {base : Heap} {Z : Addr × Obj → Prop} {k : Nat} {f : Addr} {fd : FuncData} {x qual : Str} {params : Arguments} {body : List Stmt} {scope : Scope} {dvs : List V} {kws : List (Str × V)} {N ps : List Str} {sp : Sp}
    (F : FunD K x qual params body scope dvs kws f fd) (S : FnScope N ps scope) (len : ∀ vs H Q E, sp vs H Q E → vs.length = ps.length)
    (hbody : ∀ (cdv : Value) (A : Around) (up : List Env) (t : Shared) (H : Hp) (vs : List V) (Q : VK) (p : Addr × Obj), Z p → Hot1 A p → RoomH k (A.deeper (envOfC qual scope t.heap.objs.size f cdv)) → sp vs H Q E0 →
      ∃ b, PSs (cxH CX0 P w K mg base N qual scope f cdv A up t H E0 p) body b ∧ b { nx := fun _ G => Q .non G, rt := Q } (L2.start N vs) H) : FnZ P w K mg base Z (k + 1) f fd ps sp := by
  obtain ⟨oc, od, dV, kV, doc, pm, an, cdv, ct, osl, rfl, lk, hcd, _, _⟩ := F.ex
  refine ⟨len, fun A up t H args us vs Q p hr hot hz hpin e0 hb rv hsp => ?_⟩
  have hl := len _ _ _ _ hsp
  have e0k := e0.bs
  have hK : K.In t.heap := e0.mod.kin.keeps fun a o z => (e0k a o z).1
  have noLim : t.heap.NoLimit := e0.mod.nolimit.keeps fun a o z => (e0k a o z).1
  have par : ∀ q ∈ ps.zip us, scope.names.lookup q.1 = some .local ∨ (scope.names.lookup q.1 = some .cell ∧ ((cellsFrom (t.heap.objs.size + 1) scope.names []).lookup q.1).isSome = true) := by
    rintro ⟨n, v⟩ hm
    exact (S.par n (List.of_mem_zip hm).1).imp id fun z => ⟨z, PySem.W.cellsFrom_some _ _ _ (.inl z)⟩
  refine codeAny_call_function hr.depth (hK _ _ lk) rfl S.co S.gen rfl (PySem.W.codeRec_of hK hcd) (hb _ _ _ _ ?_)
  refine wpAny_newFunctionEnv_cells S.kind par fun env he t1 inC => ?_
  subst he
  refine ⟨noLim.keeps inC.toInCall.keep, codeAny_func ?_⟩
  obtain ⟨b, hB, hR⟩ := hbody cdv A up t H vs Q p hz hot (hr.deeper _) hsp
  have J : Inv (cxH CX0 P w K mg base N qual scope f cdv A up t H E0 p) [] (L2.start N vs) H t1 := inv_startH S hpin e0 hl rv inC
  refine wpAny_mono (hB.run [] t1 (L2.start N vs) H _ J hR) (fun fl t2 hf => ?_) fun _ _ z => z
  cases fl with
  | next =>
    obtain ⟨τ, G, L, q⟩ := hf
    exact ⟨.non, G, L.os, L.bare, L.base, L.hok, rfl, q⟩
  | ret u =>
    obtain ⟨v, τ, G, L, ru, q⟩ := hf
    exact ⟨v, G, L.os, L.bare, L.base, L.hok, ru, q⟩
  | brk => exact hf.elim fun _ z => z.elim fun _ z => z.2.elim
  | cont => exact hf.elim fun _ z => z.elim fun _ z => z.2.elim
def tCallZ (sp : Sp) (t : TA) : TE := fun σ H Q => t σ H fun vs H1 => sp vs H1 Q E0
section
variable {X : Cx} {Z : Addr × Obj → Prop} {k : Nat} {f : Addr} {fd : FuncData} {ps : List Str} {sp : Sp} {x : Str} {q pos : Pos} {e : Expr} {es : List Expr} {t : TA}
theorem pe_callZ (F : FnZ X.prog X.w X.K X.mg X.base Z k f fd ps sp) (hr : RoomH k X.A) (hc : ∃ p, Hot1 X.A p ∧ Z p ∧ p ∈ X.pn) (hg : Gl X x) (hm : X.mg x = some (.ref f)) (hk : PySem.W.keepIn X.K (.ref f) = true) (hb : Binds X.K fd ps [])
    (ha : PA X (e :: es) t) (hdb : (x == ("__debug__" : Str)) = false := by decide) (he : starEach (e :: es) X.env = (false, eval e X.env) :: starEach es X.env := by rfl) (hpl : (backTo pos (starEach es X.env)).any (·.1) = false := by rfl) :
    PE X (.Call (.Name x q) (e :: es) [] pos) (tCallZ sp t) := by
  refine ⟨fun pl t0 σ H Q I hw => ?_⟩
  refine wpAny_Call_Name_kw (ld_glob I hg hm ?_ hdb)
  refine PySem.W.callWith_K (h₀ := X.base) I.ok.mod.kin hk (thn (ha.run pos pl t0 σ H _ I hw) fun us t1 hh => ?_) he hpl
  obtain ⟨vs, H1, I1, rv, sq⟩ := hh
  refine ⟨I1.kIn, ?_⟩
  obtain ⟨p, hot, hz, hp⟩ := hc
  have nl : us.length = ps.length := rv.length.symm.trans (F.len _ _ _ _ sq)
  have bd := hb t1 us I1.kIn (by rw [List.append_nil]; exact nl)
  rw [List.append_nil] at bd
  obtain ⟨g1, g2, g3, g4, g5⟩ := I1.pin p (List.mem_append_left _ hp)
  have hpin : PinOk X.stack H1 t1 p := ⟨g1, g2, fun hm => (List.mem_cons.mp (I1.stkSub p.1 hm)).elim g3 g4, g5⟩
  refine wpAny_call (codeAny_mono (F.run X.A X.stack t1 H1 ⟨us, []⟩ us vs Q p hr hot hz hpin I1.env0 bd rv sq) fun r t2 hq => ?_)
  cases r with
  | error er => exact hq.elim
  | ok fl =>
    cases fl with
    | ret u => exact I1.after hq
    | next => exact hq.elim
    | brk => exact hq.elim
    | cont => exact hq.elim
end
/-! ### isinstance of the caught error -/
def rIsP (K : PySem.W.Frag) (a C d : Addr) : List V → Hp → VK → Prop := fun xs H Q => ∃ (c : V) (cv : Value) (b : Bool) (fs : List (Str × V)), xs = [.ref a, c] ∧ ClsV c cv ∧ PySem.W.kitOne K (.ref C) cv = some b ∧ H d = some (exd d fs) ∧ Q (.bl b) H
theorem call_isP {X : Cx} {a C d : Addr} {p : Addr × Obj} (T : ExC X.K C) (hp : p ∈ X.pn) (hz : Zd a C d p) : CallR X (.builtin "isinstance") (rIsP X.K a C d) := by
  intro pl s σ H xs us Q I rv h
  obtain ⟨c, cv, b, fs, rfl, k, e, ed, q⟩ := h
  obtain ⟨u1, u2, rfl, r1, r2⟩ := vals2 rv
  obtain rfl := k.eq r2
  obtain rfl : u1 = Value.ref a := r1
  obtain ⟨mA, hns, _⟩ := exd_at I.hok ed
  obtain ⟨od, hod, _⟩ := lookIn_ns hns
  obtain ⟨a', oc, od', dt, sl⟩ := p
  obtain ⟨z1, z2, z3, vs, z4⟩ := hz
  dsimp only at z1 z2 z3 z4
  subst z1 z2 z3 z4
  have J : PySem.W.InstAt s.heap a' ⟨.ref C, some d, .fields vs, sl⟩ C (some od) := ⟨(I.pin _ (List.mem_append_left _ hp)).1, rfl, rfl, hod⟩
  exact PySem.W.kia_one (PySem.W.kitx_exc T.some T.hga T.hgt T.o.exC T.ha T.hn T.ht T.hm) I.kIn J e (fun z => nomatch z) fun tk => ⟨.bl b, H, I.tok tk, rfl, q⟩
end L2Z


namespace L2Z
open PySem PySem.Spec PyProof.Rows L2
open L2H (RoomH Hot1 PinOk HotC cxH inv_startH TurnH PIH)
/-- [elt for target in iter] where an exception is handled: the calm rule's way, the handled error pinned through the block -/
theorem pe_lcZ {X : Cx} {elt tg iter : Expr} {ifs : List Expr} {scope : Scope} {own : List (Str × Nat)} {pos : Pos} {wi : TI} {g : TG} {tt : TT} {te : TE} (hc : HotC X) (hN : X.N.Nodup) (hi : PIH X tg iter wi) (ok : BlkOk X.N X.env.scope scope own)
    (hg : ∀ (s : Shared) (H : Hp) (C : Addr) (cl : List (Str × Addr)) (fp : List Addr), PG (X.blk s H scope (compEnvC scope cl C X.env) fp) tg g) (ht : ∀ (s : Shared) (H : Hp) (C : Addr) (cl : List (Str × Addr)) (fp : List Addr), PTs (X.blk s H scope (compEnvC scope cl C X.env) fp) ifs tt)
    (he : ∀ (s : Shared) (H : Hp) (C : Addr) (cl : List (Str × Addr)) (fp : List Addr), PE (X.blk s H scope (compEnvC scope cl C X.env) fp) elt te) (hs : ∀ x, foldedSetIterable iter X.env x = pure x := by intro _; rfl) :
    PE X (.ListComp elt [⟨tg, iter, ifs, 0⟩] scope pos) (tLc wi g tt te (own.map (·.2))) := by
  refine ⟨fun pl t0 σ G0 Q I0 hw => ?_⟩
  rw [eval_ListComp]
  obtain ⟨p, hot, hp⟩ := hc
  have cells : ∀ y ∈ scope.names, y.2 = .free → ∃ c, X.env.cells.lookup y.1 = some c := fun y hy z => (ok.free y hy z).elim (fun k => I0.ok.has _ (.inl k)) fun k => I0.ok.has _ (.inr k)
  refine wpAny_comprehension_free (use := none) rfl hs (closure_ok cells) ok.kind (fun y hy z => by rw [ok.uniq y hy, z]) (thn (hi.run pl t0 σ G0 _ I0 hw) fun v t1 h1 => thn h1 fun itv t2 h2 => ?_)
  obtain ⟨it, fp, tn, J, G2, rfl, I2, T, tn2, ff2, hR⟩ := h2
  refine wpAny_newObj_type (newEnv_comp ?_) (by show 0 ≤ sizeLine; decide)
  generalize hL : t2.heap.objs.size = L
  have nL : G2 L = none := I2.hok.fresh (Nat.le_of_eq hL)
  obtain ⟨W, ⟨m0, w0⟩, step⟩ := hR L nL
  -- the list is laid
  generalize ht3 : ({ t2 with heap := t2.heap.push { cls := .type "list", data := .seq ([] : List Value).toArray } } : Shared) = t3
  have hp3 : t3.heap = t2.heap.push { cls := .type "list", data := .seq ([] : List Value).toArray } := by rw [← ht3]
  have I3 : Inv X pl σ (upd G2 L (.lst [])) t3 := by
    rw [← ht3]
    refine I2.laid (t' := t2.toks) (fun b o z => Heap.get?_push_of_some _ z) (Nat.le_of_eq hL) ⟨Nat.zero_le _, [], 0, .nil, ?_⟩
    rw [← hL]
    exact Heap.get?_push_size _ rfl
  have small : ∀ b ∈ fp, b < t2.heap.objs.size := fun b hb => (T.obj _ _ tn2 b hb).elim fun o z => Heap.lt_size z.1
  have ff3 : ∀ b ∈ fp, FpOk X pl (upd G2 L (.lst [])) b ∧ b < t3.heap.objs.size := fun b hb => by
    have lt := small b hb
    refine ⟨⟨?_, (ff2 b hb).2⟩, by rw [hp3, Heap.size_push]; exact Nat.lt_succ_of_lt lt⟩
    exact (upd_ne (by rw [← hL]; exact Nat.ne_of_lt lt)).trans (ff2 b hb).1
  have tn3 : tn 0 t3.heap := T.keep _ _ _ tn2 fun b _ o z => by rw [hp3]; exact Heap.get?_push_of_some _ z
  generalize hG3 : upd G2 L (HO.lst []) = G3 at I3 ff3 w0
  have P3 := I3.pin p (List.mem_append_left _ hp)
  -- the block
  have I4 := block_start I3 ok hN ff3
  have pg := hg t3 G3 t3.heap.objs.size (cellsFrom (t3.heap.objs.size + 1) scope.names (cloFrom X.env.cells scope.names [])) fp
  have pt := ht t3 G3 t3.heap.objs.size (cellsFrom (t3.heap.objs.size + 1) scope.names (cloFrom X.env.cells scope.names [])) fp
  have pe := he t3 G3 t3.heap.objs.size (cellsFrom (t3.heap.objs.size + 1) scope.names (cloFrom X.env.cells scope.names [])) fp
  show codeAny _ _ (.compStart (.ListComp elt [⟨tg, iter, ifs, 0⟩] scope pos) 0 (.ref it) (.ref L) (compEnvC scope (cellsFrom (t3.heap.objs.size + 1) scope.names (cloFrom X.env.cells scope.names [])) t3.heap.objs.size X.env)) (compPost (model X.prog X.w) X.A X.xe none (EP X pl σ Q) (.ref L) t3.heap.objs.size) { t3 with heap := pushCells (t3.heap.push { cls := .type "dict", data := .dict #[] }) scope.names }
  have none3 : ∀ b ∈ fp, G3 b = none := fun b hb => (ff3 b hb).1.1
  generalize hce : compEnvC scope (cellsFrom (t3.heap.objs.size + 1) scope.names (cloFrom X.env.cells scope.names [])) t3.heap.objs.size X.env = ce at I4 pg pt pe ⊢
  have hcl : ce.locals = t3.heap.objs.size := by rw [← hce]; rfl
  generalize ht4 : ({ t3 with heap := pushCells (t3.heap.push { cls := .type "dict", data := .dict #[] }) scope.names } : Shared) = t4 at I4 ⊢
  have keep4 : ∀ b o, t3.heap.get? b = some o → t4.heap.get? b = some o := fun b o z => by rw [← ht4]; exact pushCells_keeps _ _ _ _ (Heap.get?_push_of_some _ z)
  have tn4 : tn 0 t4.heap := T.keep _ _ _ tn3 fun b _ o z => keep4 b o z
  -- the handled error is pinned in the block, too
  have pinned : Inv (X.blk t3 G3 scope ce fp) [p] (wipe σ (own.map (·.2))) G3 t4 := I4.pins_of fun q hq => by
    obtain rfl := List.mem_singleton.mp hq
    exact ⟨keep4 _ _ P3.1, P3.2.1, fun z => absurd (Heap.lt_size P3.1) (by rw [show q.1 = t3.heap.objs.size from z.trans hcl]; exact Nat.lt_irrefl _), fun hm => (List.mem_cons.mp (I3.stkSub q.1 hm)).elim P3.2.2.1 P3.2.2.2.1, P3.2.2.2.2⟩
  have apart : ∀ b ∈ fp, p.1 ≠ b := fun b hb => (ff3 b hb).1.2.2.2.2.2 p (List.mem_append_left _ hp)
  have hotB : HotC ((X.blk t3 G3 scope ce fp).tr ([] ++ [p]) fun _ _ => False) := ⟨p, hot, by simp⟩
  have fpB : ∀ {τ : L2.St} {G : Hp} {t : Shared}, Inv (X.blk t3 G3 scope ce fp) [p] τ G t → (∀ b ∈ fp, G b = none) → ∀ b ∈ fp, FpOk (X.blk t3 G3 scope ce fp) [p] G b := fun {τ G t} I' hn b hb =>
    ⟨hn b hb, (I'.ok.exf b hb).1, I'.ok.exfs b hb, .inl hb, fun x c z => (I'.ok.exf b hb).2 x c z, fun q hq => by
      obtain rfl := List.mem_singleton.mp (show q ∈ [p] from hq)
      exact apart b hb⟩
  have fpT : ∀ {τ : L2.St} {G : Hp} {t : Shared}, Inv (X.blk t3 G3 scope ce fp) [p] τ G t → (∀ b ∈ fp, G b = none) → ∀ b ∈ fp, FpOk ((X.blk t3 G3 scope ce fp).tr ([] ++ [p]) fun _ _ => False) [] G b := fun {τ G t} I' hn b hb =>
    ⟨hn b hb, (I'.ok.exf b hb).1, I'.ok.exfs b hb, .inl hb, fun x c z => (I'.ok.exf b hb).2 x c z, fun q hq => by
      obtain rfl := List.mem_singleton.mp (show q ∈ [p] by simpa using hq)
      exact apart b hb⟩
  have loop : codeAny (model X.prog X.w) X.A (.compLoop (.ListComp elt [⟨tg, iter, ifs, 0⟩] scope pos) 0 (.ref it) (.ref L) ce) (compPost (model X.prog X.w) X.A X.xe none (EP X pl σ Q) (.ref L) t3.heap.objs.size) t4 := by
    refine compLoop_any (fun n t => ∃ i G, Inv (X.blk t3 G3 scope ce fp) [p] (wipe σ (own.map (·.2))) G t ∧ tn i t.heap ∧ (∀ b ∈ fp, G b = none) ∧ W i n G) ?_ m0 ⟨0, G3, pinned, tn4, none3, w0⟩
    rintro n t5 ⟨i, G5, I5, tn5, n5, w5⟩
    rcases step i n G5 w5 with ⟨stop, hq⟩ | ⟨go, Nx, dn, on⟩
    · refine thnF (T.done ((X.blk t3 G3 scope ce fp).tr ([] ++ [p]) fun _ _ => False) rfl rfl rfl hotB i [] t5 _ G5 (fun _ _ => False) (I5.toTry _) (fpT I5 n5) tn5 stop) fun r t6 hh => ?_
      obtain ⟨rfl, I6⟩ := hh
      have back : Inv X pl σ G5 t6 := I3.call' (ch := fp) I6.os I6.base I6.hok I6.bare fun b hb => ⟨(ff3 b hb).1.2.2.2.1, (ff3 b hb).1.2.1, (ff3 b hb).1.2.2.2.2.1, (ff3 b hb).1.2.2.2.2.2⟩
      have nC : G5 t3.heap.objs.size = none := hcl ▸ (show G5 ce.locals = none from I6.free)
      obtain ⟨m, hm, _⟩ := I6.loc
      have hm : t6.heap.Ns t3.heap.objs.size m := hcl ▸ (show t6.heap.Ns ce.locals m from hm)
      obtain ⟨f0, f1, f2, f3, f4, f5⟩ := I3.fpOk (Nat.le_refl _) nC
      exact ⟨m, hm, fun h'' sb => ⟨.ref L, G5, back.turned (t' := t6.toks) (fun b o hb z => (sb.2 b hb).trans z) f0 f1 f3 f4 f5, rfl, hq⟩⟩
    · refine thnF (T.item ((X.blk t3 G3 scope ce fp).tr ([] ++ [p]) fun _ _ => False) rfl rfl rfl hotB i [] t5 _ G5 (fun _ _ => False) (I5.toTry _) (fpT I5 n5) tn5 go) fun r t6 hh => ?_
      obtain ⟨u, rfl, h6⟩ := hh
      refine thnF h6 fun _ t7 hh => ?_
      obtain ⟨x, G7, I7t, r7, y7, tn7, n7⟩ := hh
      have I7 : Inv (X.blk t3 G3 scope ce fp) [p] (wipe σ (own.map (·.2))) G7 t7 := I7t.ofTry I5.ok
      have I7p := I7.pinned (fpB I7 n7) (T.obj _ _ tn7)
      refine thnF (pg.run _ t7 _ G7 x u _ I7p r7 (on x G7 y7)) fun _ t8 hh => ?_
      obtain ⟨σ8, G8, I8, hw8, q8⟩ := hh
      refine thnF (pt.run _ t8 σ8 G8 _ I8 q8) fun b t9 hh => ?_
      obtain ⟨G9, I9, q9⟩ := hh
      have turnEnd : ∀ {t : Shared} {G : Hp}, Inv (X.blk t3 G3 scope ce fp) ([p] ++ pinsAt fp t7.heap) σ8 G t → Nx G → ∃ m, m < n ∧ ∃ i G, Inv (X.blk t3 G3 scope ce fp) [p] (wipe σ (own.map (·.2))) G t ∧ tn i t.heap ∧ (∀ b ∈ fp, G b = none) ∧ W i m G := fun {t G} I' nx => by
        obtain ⟨m', lt, w'⟩ := dn G nx
        have at7 : ∀ b ∈ fp, ∀ o, t7.heap.get? b = some o → t.heap.get? b = some o ∧ G b = none := fun b hb o z => by
          obtain ⟨a1, a2, _⟩ := I'.pin (b, o) (List.mem_append_right _ (List.mem_append_right _ (mem_pinsAt hb z)))
          exact ⟨a1, a2⟩
        refine ⟨m', lt, i + 1, G, I'.unpinned.weak (by rw [← hw8, wipe_length]) (fun j v z => ?_), T.keep _ _ _ tn7 fun b hb o z => (at7 b hb o z).1, fun b hb => ?_, w'⟩
        · rw [← hw8] at z
          exact (wipe_some z).1
        · obtain ⟨o, z, _⟩ := T.obj _ _ tn7 b hb
          exact (at7 b hb o z).2
      cases b with
      | false =>
        simp only [Bool.false_eq_true, if_false] at q9 ⊢
        exact turnEnd I9 q9
      | true =>
        simp only [if_true] at q9 ⊢
        refine thnF (pe.run _ t9 σ8 G9 _ I9 q9) fun z t10 hh => ?_
        obtain ⟨y, G10, I10, r10, acc, hacc, lz, nx⟩ := hh
        exact app_ok (X := X.blk t3 G3 scope ce fp) I10 hacc lz r10 fun t11 I11 => turnEnd I11 nx
  exact codeAny_compStart_list loop (T.self X.A 0 _ _ _ tn4 loop)
end L2Z


namespace K95
open PySem PySem.Spec PyProof.Rows L2
abbrev PR : Program := PySem.Challenge.pw_poolshare_k95_errors_of_what_is_asked
def top (i : Nat) : Stmt := PySem.Challenge.pw_poolshare_k95_errors_of_what_is_asked.main.body.getD i (.Pass ⟨0, 0, 0, 0⟩)
abbrev s_law_start : Stmt := top 64
abbrev s_law_pick : Stmt := top 65
abbrev s_law_between : Stmt := top 66
abbrev s_law_same : Stmt := top 67
abbrev s_law_kinds_of : Stmt := top 68
abbrev s_law_others : Stmt := top 69
abbrev s_law_is_other : Stmt := top 70
abbrev s_law_made_a : Stmt := top 71
abbrev s_law_made_b : Stmt := top 72
abbrev s_law_made_c : Stmt := top 73
abbrev s_law_made_at : Stmt := top 74
abbrev s_law_object : Stmt := top 75
abbrev s_law_very : Stmt := top 76
abbrev s_law_caught : Stmt := top 77
abbrev s_law : Stmt := top 78
abbrev FnP (K : PySem.W.Frag) (x : Str) (st : Stmt) (f : Addr) (fd : FuncData) : Prop := FunD K x x (defArgs st) (defBody st) (defScope st) [] [] f fd
def dF (x : Str) (st : Stmt) : He.DefD := ⟨(x, none), x, x, defArgs st, defBody st, defScope st, [], []⟩
def dI (x q : Str) (st : Stmt) : He.DefD := ⟨(x, some "__init__"), "__init__", q, defArgs (inClass st 0), defBody (inClass st 0), defScope (inClass st 0), [], []⟩
def dM (x m q : Str) (st : Stmt) (j : Nat) : He.DefD := ⟨(x, some m), m, q, defArgs (inClass st j), defBody (inClass st j), defScope (inClass st j), [], []⟩
def ns0 : List (PySem.Str × Ask) := [("__name__", .any), ("__doc__", .any), ("__package__", .any), ("__loader__", .any), ("__spec__", .any), ("__annotations__", .any), ("__builtins__", .any), ("__file__", .any), ("__cached__", .any), ("PoolError", .exc0), ("BadRows", .exc "BadRows.__init__" (inClass (top 2) 0) "rows"), ("BadOther", .exc "BadOther.__init__" (inClass (top 3) 0) "other"), ("BadWhy", .exc "BadWhy.__init__" (inClass (top 4) 0) "why"), ("BadNames", .exc "BadNames.__init__" (inClass (top 5) 0) "words"), ("BadLength", .exc "BadLength.__init__" (inClass (top 6) 0) "length"), ("BadAnswer", .exc "BadAnswer.__init__" (inClass (top 7) 0) "answer"), ("BadWholeText", .exc "BadWholeText.__init__" (inClass (top 8) 0) "line"), ("NotHeld", .exc "NotHeld.__init__" (inClass (top 9) 0) "index"), ("NotFailing", .exc "NotFailing.__init__" (inClass (top 10) 0) "pair"), ("BadLow", .exc "BadLow.__init__" (inClass (top 11) 0) "low"), ("BadHigh", .exc "BadHigh.__init__" (inClass (top 12) 0) "high"), ("BadWanted", .exc "BadWanted.__init__" (inClass (top 14) 0) "index"), ("BadPrices", .exc "BadPrices.__init__" (inClass (top 15) 0) "prices"), ("BadOthers", .exc "BadOthers.__init__" (inClass (top 16) 0) "index"), ("BadUntrue", .exc "BadUntrue.__init__" (inClass (top 17) 0) "index"), ("NotTogether", .exc "NotTogether.__init__" (inClass (top 18) 0) "untrue"), ("BadLinks", .exc "BadLinks.__init__" (inClass (top 19) 0) "index"), ("BadPartition", .exc "BadPartition.__init__" (inClass (top 20) 0) "partition"), ("BadWorlds", .exc "BadWorlds.__init__" (inClass (top 21) 0) "count"), ("BadViews", .exc "BadViews.__init__" (inClass (top 22) 0) "told")]
def ns1 : List (PySem.Str × Ask) := [("BadPeople", .exc "BadPeople.__init__" (inClass (top 23) 0) "people"), ("NoPerson", .exc "NoPerson.__init__" (inClass (top 24) 0) "word"), ("BadEvent", .exc "BadEvent.__init__" (inClass (top 25) 0) "event"), ("BadWorld", .exc "BadWorld.__init__" (inClass (top 26) 0) "world"), ("BadGroup", .exc "BadGroup.__init__" (inClass (top 27) 0) "index"), ("BadMost", .exc "BadMost.__init__" (inClass (top 28) 0) "most"), ("BadEdit", .exc "BadEdit.__init__" (inClass (top 29) 0) "edit"), ("BadDesk", .exc "BadDesk.__init__" (inClass (top 30) 0) "desk"), ("BadDeskText", .exc "BadDeskText.__init__" (inClass (top 31) 0) "line"), ("NothingToUndo", .exc0), ("NothingToRedo", .exc0), ("BadTerm", .exc "BadTerm.__init__" (inClass (top 35) 0) "term"), ("BadPair", .exc "BadPair.__init__" (inClass (top 36) 0) "pair"), ("BadHypotheses", .exc "BadHypotheses.__init__" (inClass (top 37) 0) "index"), ("BadTerms", .exc "BadTerms.__init__" (inClass (top 38) 0) "index"), ("BadMany", .exc "BadMany.__init__" (inClass (top 39) 0) "many"), ("BadRules", .exc "BadRules.__init__" (inClass (top 40) 0) "index"), ("BadSets", .exc "BadSets.__init__" (inClass (top 41) 0) "sets"), ("BadCase", .exc "BadCase.__init__" (inClass (top 42) 0) "case"), ("BadPoints", .exc "BadPoints.__init__" (inClass (top 43) 0) "points"), ("NoName", .exc "NoName.__init__" (inClass (top 44) 0) "word"), ("BadRule", .exc "BadRule.__init__" (inClass (top 45) 0) "head"), ("BadTermText", .exc "BadTermText.__init__" (inClass (top 46) 0) "place"), ("BadPairsText", .exc "BadPairsText.__init__" (inClass (top 47) 0) "line"), ("BadCaseText", .exc "BadCaseText.__init__" (inClass (top 48) 0) "line"), ("BadValues", .exc "BadValues.__init__" (inClass (top 49) 0) "given"), ("NoValue", .exc "NoValue.__init__" (inClass (top 50) 0) "word"), ("WrongNames", .exc "WrongNames.__init__" (inClass (top 51) 0) "index"), ("BadPairs", .exc "BadPairs.__init__" (inClass (top 52) 0) "index"), ("NotOrder", .exc "NotOrder.__init__" (inClass (top 53) 0) "members")]
def ns2 : List (PySem.Str × Ask) := [("NotLattice", .exc "NotLattice.__init__" (inClass (top 54) 0) "members"), ("BadLattice", .exc "BadLattice.__init__" (inClass (top 55) 0) "lattice"), ("BadElement", .exc "BadElement.__init__" (inClass (top 56) 0) "element"), ("BadElements", .exc "BadElements.__init__" (inClass (top 57) 0) "index"), ("BadTold", .exc "BadTold.__init__" (inClass (top 58) 0) "told"), ("BadGiven", .exc "BadGiven.__init__" (inClass (top 59) 0) "given"), ("NoElement", .exc "NoElement.__init__" (inClass (top 60) 0) "word"), ("BadWords", .exc "BadWords.__init__" (inClass (top 61) 0) "words"), ("BadPut", .exc "BadPut.__init__" (inClass (top 62) 0) "given"), ("_law_start", .fn (dF "_law_start" (top 64))), ("_law_pick", .fn (dF "_law_pick" (top 65))), ("_law_between", .fn (dF "_law_between" (top 66))), ("_law_same", .fn (dF "_law_same" (top 67))), ("_law_kinds_of", .fn (dF "_law_kinds_of" (top 68))), ("_law_others", .fn (dF "_law_others" (top 69))), ("_law_is_other", .fn (dF "_law_is_other" (top 70))), ("_law_made_a", .fn (dF "_law_made_a" (top 71))), ("_law_made_b", .fn (dF "_law_made_b" (top 72))), ("_law_made_c", .fn (dF "_law_made_c" (top 73))), ("_law_made_at", .fn (dF "_law_made_at" (top 74))), ("_law_object", .fn (dF "_law_object" (top 75))), ("_law_very", .fn (dF "_law_very" (top 76))), ("_law_caught", .fn (dF "_law_caught" (top 77))), ("law", .fn (dF "law" (top 78)))]
def ns : List (PySem.Str × Ask) := ns0 ++ ns1 ++ ns2
def loose0 : List PySem.Str := ["PoolError", "BadRows", "BadOther", "BadWhy", "BadNames", "BadLength", "BadAnswer", "BadWholeText", "NotHeld", "NotFailing", "BadLow", "BadHigh", "BadWanted", "BadPrices", "BadOthers", "BadUntrue", "NotTogether", "BadLinks", "BadPartition", "BadWorlds", "BadViews", "BadPeople", "NoPerson", "BadEvent", "BadWorld", "BadGroup", "BadMost", "BadEdit", "BadDesk", "BadDeskText"]
def loose1 : List PySem.Str := ["NothingToUndo", "NothingToRedo", "BadTerm", "BadPair", "BadHypotheses", "BadTerms", "BadMany", "BadRules", "BadSets", "BadCase", "BadPoints", "NoName", "BadRule", "BadTermText", "BadPairsText", "BadCaseText", "BadValues", "NoValue", "WrongNames", "BadPairs", "NotOrder", "NotLattice", "BadLattice", "BadElement", "BadElements", "BadTold", "BadGiven", "NoElement", "BadWords", "BadPut"]
def loose2 : List PySem.Str := ["_law_start", "_law_pick", "_law_between", "_law_same", "_law_kinds_of", "_law_others", "_law_is_other", "_law_made_a", "_law_made_b", "_law_made_c", "_law_made_at", "_law_object", "_law_very", "_law_caught"]
def loose : List PySem.Str := loose0 ++ loose1 ++ loose2
abbrev R : PySem.W.OpenRow := PySem.W.OpenLaw.row PySem.Challenge.rw_poolshare_k95_errors_of_what_is_asked
abbrev hk : PySem.W.Hook := hookG 9 ns
theorem run (w : World) : HandSHeadRun.RunEq R (PySem.W.view R.prog [78]) hk (obG 9 ns) 20000 loose w := by
  intro os
  kernel_rfl
end K95


namespace K95
open PySem PySem.Spec PyProof.Rows L2
local macro_rules | `(tactic| walk_at "ty") => `(tactic| first | exact .old (.base (.int _)) | exact .old (.base (.str _)) | exact .old (.base .non) | exact .old (.base (.bl _)) | exact .old (.base (.lst (by walk_at "hp"))) | exact .old (.base (.tup (by walk_at "hp"))) | exact .old (.base (.dK (by walk_at "hp"))))
local macro_rules | `(tactic| walk_at "hne") => `(tactic| first | assumption | exact Ne.symm (by assumption) | (refine' ne_of_none ?hn1 ?hn2; rotate_left; (case hn2 => assumption); (case hn1 => walk_at "hp")) | (refine' Ne.symm (ne_of_none ?hn1 ?hn2); rotate_left; (case hn2 => assumption); (case hn1 => walk_at "hp")))
local macro_rules | `(tactic| walk_at "hp") => `(tactic| first | exact upd_same | assumption | (refine' (upd_ne ?hpn).trans ?hpg; (case hpn => walk_at "hne"); (case hpg => walk_at "hp")))
local macro_rules | `(tactic| walk_at "cond") => `(tactic| first | omega | decide | assumption | exact Nat.le_of_lt (small1000 (by simp)))
local macro_rules | `(tactic| walk_at "s1") => `(tactic| first
  | with_reducible refine u_var rfl ?_
  | with_reducible refine u_op ?_
  | with_reducible refine u_un ?_
  | with_reducible refine u_cb ?_
  | with_reducible refine u_nil ?_
  | with_reducible refine u_cons ?_
  | with_reducible refine u_asg ?_
  | with_reducible refine u_name ?_
  | with_reducible refine u_sub ?_
  | with_reducible refine u_seq ?_
  | with_reducible refine u_ret ?_
  | with_reducible refine u_next ?_
  | with_reducible refine u_drop ?_
  | with_reducible refine u_test ?_
  | with_reducible refine u_b ?_
  | with_reducible refine u_ifS ?_
  | with_reducible refine u_if ?_
  | with_reducible refine u_and ?_
  | with_reducible refine u_or ?_
  | with_reducible refine u_not ?_
  | with_reducible refine u_andV ?_
  | with_reducible refine u_orV ?_
  | with_reducible refine u_notV ?_
  | with_reducible refine u_tup ?_
  | with_reducible refine u_lst ?_
  | with_reducible refine u_call ?_
  | with_reducible refine u_bm ?_
  | with_reducible refine u_bm0 ?_
  | with_reducible refine u_yes ?_
  | with_reducible refine u_c ?_
  | with_reducible refine u_bl ?_
  | ((with_reducible refine' iteF' ?hc ?_); (case hc => first | rfl | simp; done))
  | ((with_reducible refine' iteT' ?hc ?_); (case hc => first | rfl | simp; done))
  | with_reducible refine r_I0 ?_
  | with_reducible refine r_I (by walk_at "cond") ?_
  | refine r_I (show CDiv _ _ from ⟨by omega, by omega⟩) ?_
  | refine r_I (show CMul _ _ from .inl ⟨by omega, by omega⟩) ?_
  | refine r_I (show CMul _ _ from .inr ⟨by omega, by omega⟩) ?_
  | refine r_I (show CPow _ _ from ⟨by omega, by omega, by omega⟩) ?_
  | with_reducible refine r_U ?_
  | with_reducible refine r_Eq rfl ?_
  | with_reducible refine r_Ne rfl ?_
  | ((with_reducible refine' r_ixL ?hx ?he ?_); (case hx => walk_at "hp"); (case he => rfl))
  | ((with_reducible refine' r_ixT ?hx ?he ?_); (case hx => walk_at "hp"); (case he => rfl))
  | ((with_reducible refine' r_setL ?hx ?he ?_); (case hx => walk_at "hp"); (case he => rfl))
  | with_reducible refine r_isN ?_
  | with_reducible refine u_mk0 ?_
  | with_reducible refine u_mkE ?_
  | with_reducible refine u_xf ?_
  | ((with_reducible refine' r_isE ?hcl ?hx ?hi ?hj ?_); (case hcl => assumption); (case hx => assumption); (case hi => assumption); (case hj => decide))
  | ((with_reducible refine' r_isB (r := true) ?hx ?he ?_); (case hx => walk_at "ty"); (case he => decide +kernel))
  | ((with_reducible refine' r_isB (r := false) ?hx ?he ?_); (case hx => walk_at "ty"); (case he => decide +kernel))
  | with_reducible refine And.intro (by walk_at "cond") ?_
  | refine ⟨_, rfl, ?_⟩
  | refine ⟨_, _, rfl, ?_⟩
  | refine .inl ⟨_, rfl, ?_⟩)
local macro_rules | `(tactic| walk_at "mkas") => `(tactic| first | exact mka_nil | (refine mka_cons rfl ?_; walk_at "mkas") | (refine mka_cons0 ?_; walk_at "mkas"))
/-- the built-in names that stay as they are -/
structure Bs (mg : Str → Option Value) : Prop where
  list : mg "list" = none
  abs : mg "abs" = none
  int : mg "int" = none
  max : mg "max" = none
  isinstance : mg "isinstance" = none
  tuple : mg "tuple" = none
  len : mg "len" = none
  all : mg "all" = none
  zip : mg "zip" = none
  dict : mg "dict" = none
  bool : mg "bool" = none
  str : mg "str" = none
  range : mg "range" = none
  ValueError : mg "ValueError" = none
  KeyError : mg "KeyError" = none
  IndexError : mg "IndexError" = none
  TypeError : mg "TypeError" = none
abbrev FnK (K : PySem.W.Frag) (x : Str) (st : Stmt) (f : Addr) (fd : FuncData) : Prop := FunD K x x (defArgs st) (defBody st) (defScope st) [] [] f fd
def Pst (H : Hp) (p l : Addr) (zs : List Int) (a b c : Int) : Prop := H p = some (.lst [.ref l, .int a, .int b, .int c]) ∧ H l = some (.lst (zs.map V.int)) ∧ p ≠ l
/-- all but p and l is as it was -/
def But (p l : Addr) (H H' : Hp) : Prop := ∀ b o, b ≠ p → b ≠ l → H b = some o → H' b = some o
theorem But.refl {p l : Addr} (H : Hp) : But p l H H := fun _ _ _ _ h => h
theorem But.trans {p l : Addr} {H H1 H2 : Hp} (a : But p l H H1) (b : But p l H1 H2) : But p l H H2 := fun c o h1 h2 h => b c o h1 h2 (a c o h1 h2 h)
theorem But.p {p l : Addr} {H H1 : Hp} {o : HO} (a : But p l H H1) : But p l H (upd H1 p o) := fun c u h1 h2 h => by rw [upd_ne h1]; exact a c u h1 h2 h
theorem But.l {p l : Addr} {H H1 : Hp} {o : HO} (a : But p l H H1) : But p l H (upd H1 l o) := fun c u h1 h2 h => by rw [upd_ne h2]; exact a c u h1 h2 h
theorem But.new {p l q : Addr} {H H1 : Hp} {o : HO} (a : But p l H H1) (n : H1 q = none) : But p l H (upd H1 q o) := fun c u h1 h2 h => by
  have e := a c u h1 h2 h
  rw [upd_ne (ne_of_none e n)]
  exact e
/-- the drawing state: at p, its cells at l; B bounds the count of draws -/
def Sta (H : Hp) (p l : Addr) (B : Int) : Prop := ∃ (zs : List Int) (a b c : Int), Pst H p l zs a b c ∧ zs.length ≤ 63 ∧ 0 ≤ a ∧ 0 ≤ b ∧ b ≤ B ∧ 0 ≤ c ∧ c < 2147483647
theorem sc_law_start : FnScope ["script"] ["script"] (defScope s_law_start) := ⟨rfl, rfl, rfl, by decide +kernel, rfl, by decide +kernel, by decide +kernel⟩
theorem sc_law_pick : FnScope ["state", "many", "cell", "digit", "mixed"] ["state", "many"] (defScope s_law_pick) := ⟨rfl, rfl, rfl, by decide +kernel, rfl, by decide +kernel, by decide +kernel⟩
theorem sc_law_between : FnScope ["state", "low", "high"] ["state", "low", "high"] (defScope s_law_between) := ⟨rfl, rfl, rfl, by decide +kernel, rfl, by decide +kernel, by decide +kernel⟩
section
variable {P : Program} {w : World} {K : PySem.W.Frag} {mg : Str → Option Value} {base : Heap} {f : Addr} {fd : FuncData}
def spStart (K : PySem.W.Frag) : Sp := fun vs H Q _ => ∃ (a : Addr) (ns : List Int), vs = [.ref a] ∧ SqL K H a (ns.map V.int) ∧ ns.length ≤ 63 ∧ ∀ H' p l, (∀ b o, H b = some o → H' b = some o) → H p = none → H l = none → Sta H' p l 0 → Q (.ref p) H'
theorem ok_start (F : FnK K "_law_start" s_law_start f fd) (b : Bs mg) : FnOk P w K mg base CX0 1 f fd ["script"] (spStart K) := by
  refine F.ok sc_law_start (fun vs H Q E h => ?_) (fun cdv A outer s H vs Q E hr h => ?_)
  · obtain ⟨a, ns, rfl, _⟩ := h
    rfl
  · obtain ⟨a, ns, rfl, hS, hl, hq⟩ := h
    refine ⟨_, PSs.nox (pss_one (ps_ret (pe_lst (pa_cons (pe_callTy call_list_of (by rfl) b.list (by decide +kernel) (pa_cons (pv 0) pa_nil)) (pa_cons pe_int (pa_cons pe_int (pa_cons pe_int pa_nil))))))), ?_⟩
    refine ⟨_, rfl, a, _, rfl, .inl hS, fun l nl => ?_⟩
    refine ⟨by show 4 ≤ sizeLine; decide, fun p np => ?_⟩
    have hpl : p ≠ l := fun e => by
      rw [e, upd_same] at np
      cases np
    have np' : H p = none := by
      rw [upd_ne hpl] at np
      exact np
    refine hq _ p l (fun c o e => ?_) np' nl ⟨ns, 0, 0, 29, ⟨upd_same, ?_, hpl⟩, hl, by omega, by omega, by omega, by omega, by omega⟩
    · rw [upd_ne (ne_of_none e np'), upd_ne (ne_of_none e nl)]
      exact e
    · rw [upd_ne hpl.symm, upd_same]
def spPick : Sp := fun vs H Q _ => ∃ (p l : Addr) (m : Int) (B : Int), vs = [.ref p, .int m] ∧ 0 < m ∧ m < 1000000 ∧ B ≤ 1000000 ∧ Sta H p l B ∧
  ∀ H' n, But p l H H' → Sta H' p l (B + 1) → 0 ≤ n → n < m → Q (.int n) H'
theorem ok_pick (F : FnK K "_law_pick" s_law_pick f fd) (b : Bs mg) : FnOk P w K mg base CX0 1 f fd ["state", "many"] spPick := by
  refine F.ok sc_law_pick (fun vs H Q E h => ?_) (fun cdv A outer s H vs Q E hr h => ?_)
  · obtain ⟨p, l, m, B, rfl, _⟩ := h
    rfl
  · obtain ⟨p, l, m, B, rfl, m0, m1, hB, ⟨zs, a, bb, c, ⟨ep, el, npl⟩, hz, a0, b0, b1, c0, c1⟩, hq⟩ := h
    refine ⟨_, PSs.nox (pss_cons (ps_asg (pe_op op_add (pe_ix ix_list (pv 0) pe_int (fun _ _ => rfl)) pe_int) (pg_sub (pv 0) pe_int set_list))
      (Evl.pss_cut (ps_while PassesOwn.never ((pw_and (pt_cmpR op_eq (pe_ix ix_list (pv 0) pe_int (fun _ _ => rfl)) pe_int (nomark _)) (pw_and1 (pt_cmpR (op_neD hr.units) (pe_ix ix_list (pv 0) pe_int (fun _ _ => rfl)) (pe_lst pa_nil) (nomark _))))).pt (pss_cons (ps_set (i := 2) sc_law_pick.nd rfl (.inl rfl) (pe_callB call_abs (by rfl) b.abs (by decide +kernel) (pa_cons (pe_bm PySem.F.plainAttrs_list PySem.F.slot_list_pop PySem.F.type_list_pop mt_popAt (pe_ix ix_list (pv 0) pe_int (fun _ _ => rfl)) (pa_cons pe_int pa_nil)) pa_nil)))
      (pss_cons (ps_asg (pe_op op_mod (pe_callTy call_int1 (by rfl) b.int (by decide +kernel) (pa_cons (pe_op op_add (pe_op op_add (pe_op op_mul (pe_ix ix_list (pv 0) pe_int (fun _ _ => rfl)) pe_int) (pv 2)) pe_int) pa_nil)) pe_int) (pg_sub (pv 0) pe_int set_list))
      (pss_one (ps_asg (pe_ifExp (pt_cmpR op_ge (pv 2) (pe_op op_pow pe_int pe_int) (nomark _)) (pv 2) pe_int) (pg_sub (pv 0) pe_int set_list))))))
      (pss_cons (ps_if (pt_cmpR op_gt (pe_ix ix_list (pv 0) pe_int (fun _ _ => rfl)) pe_int (nomark _)) (pss_cons (ps_set (i := 3) sc_law_pick.nd rfl (.inl rfl) (pe_op op_mod (pe_callTy call_int1 (by rfl) b.int (by decide +kernel) (pa_cons (pe_ix ix_list (pv 0) pe_int (fun _ _ => rfl)) pa_nil)) (pv 1)))
      (pss_cons (ps_asg (pe_op op_fdiv (pe_ix ix_list (pv 0) pe_int (fun _ _ => rfl)) (pv 1)) (pg_sub (pv 0) pe_int set_list))
      (pss_one (ps_ret (pv 3))))) pss_nil)
      (pss_cons (ps_set (i := 4) sc_law_pick.nd rfl (.inl rfl) (pe_op op_mod (pe_callTy call_int1 (by rfl) b.int (by decide +kernel) (pa_cons (pe_op op_pow (pe_op op_add (pe_op op_add (pe_ix ix_list (pv 0) pe_int (fun _ _ => rfl)) (pe_op op_mul pe_int (pe_ix ix_list (pv 0) pe_int (fun _ _ => rfl)))) pe_int) pe_int) pa_nil)) pe_int))
      (pss_one (ps_ret (pe_op op_mod (pe_op op_mod (pe_callTy call_int1 (by rfl) b.int (by decide +kernel) (pa_cons (pe_op op_pow (pe_op op_add (pe_op op_add (pe_op op_mul (pv 4) pe_int) (pe_op op_mul pe_int (pe_ix ix_list (pv 0) pe_int (fun _ _ => rfl)))) pe_int) pe_int) pa_nil)) pe_int) (pv 1)))))))), ?_⟩
    repeat walk_at "s1"
    -- while state[1] == 0 and state[0] != []
    refine ⟨fun σ' H' => ∃ (zs : List Int) (a c : Int) (y2 y3 y4 : Option V), σ' = [some (.ref p), some (.int m), y2, y3, y4] ∧ But p l H H' ∧ Pst H' p l zs a (bb + 1) c ∧ zs.length ≤ 63 ∧ 0 ≤ a ∧ 0 ≤ c ∧ c < 2147483647, ?_, ?_⟩
    · refine ⟨fun n σ' H' => ∃ (zs : List Int) (a c : Int) (y2 y3 y4 : Option V), σ' = [some (.ref p), some (.int m), y2, y3, y4] ∧ n = zs.length ∧ But p l H H' ∧ Pst H' p l zs a (bb + 1) c ∧ zs.length ≤ 63 ∧ 0 ≤ a ∧ 0 ≤ c ∧ c < 2147483647,
        ⟨_, zs, a, c, none, none, none, rfl, rfl, (But.refl H).p, ⟨upd_same, (upd_ne npl.symm).trans el, npl⟩, hz, a0, c0, c1⟩, ?_⟩
      clear ep el hz a0 c0 c1
      rintro n σ' H' ⟨zs, a, c, y2, y3, y4, rfl, rfl, bt, ⟨ep, el, _⟩, hz, a0, c0, c1⟩
      repeat walk_at "s1"
      refine ite2 (fun e1 => ?_) (fun e1 => ?_)
      · have ea : a = 0 := V.int.inj (of_decide_eq_true e1)
        subst ea
        repeat walk_at "s1"
        intro q nq
        refine ⟨.list (zs.map .int), .list (([] : List Int).map .int), .lst (.inl (.inl ((upd_ne (ne_of_none el nq)).trans el))) (dpI zs), .lst (.inl (.inl upd_same)) .nil, shI zs, shI [], ?_⟩
        rw [eqI]
        repeat walk_at "s1"
        have epq := (upd_ne (o := .lst []) (ne_of_none ep nq)).trans ep
        have elq := (upd_ne (o := .lst []) (ne_of_none el nq)).trans el
        cases zs with
        | nil => exact iteF ⟨[], 0, c, y2, y3, y4, rfl, bt.new nq, ⟨epq, elq, npl⟩, hz, a0, c0, c1⟩
        | cons z zs =>
          refine iteT ?_
          refine ⟨fun σ' H' => ∃ (a c : Int) (y2 y3 y4 : Option V), σ' = [some (.ref p), some (.int m), y2, y3, y4] ∧ But p l H H' ∧ Pst H' p l zs a (bb + 1) c ∧ 0 ≤ a ∧ 0 ≤ c ∧ c < 2147483647, ?_, ?_⟩
          · rintro σ' H' ⟨a, c, y2, y3, y4, rfl, bt, ps, a0, c0, c1⟩
            exact ⟨zs.length, by simp, zs, a, c, y2, y3, y4, rfl, rfl, bt, ps, by simp at hz; omega, a0, c0, c1⟩
          · repeat walk_at "s1"
            -- cell = abs(state[0].pop(0))
            refine ⟨.inl ⟨rfl, _, .inl (.inl elq)⟩, ?_⟩
            refine ⟨l, _, 0, 0, .int z, rfl, rfl, elq, by decide, by decide, by simp [seqIndex?], rfl, ?_⟩
            repeat walk_at "s1"
            have za : (0 : Int) ≤ (if z < 0 then -z else z) := by split <;> omega
            have hm : ∀ t : Int, 0 ≤ t % 2147483647 ∧ t % 2147483647 < 2147483647 := fun t => ⟨Int.emod_nonneg _ (by omega), Int.emod_lt_of_pos _ (by omega)⟩
            refine iteE (fun _ => ?_) (fun _ => ?_)
            · repeat walk_at "s1"
              exact ⟨_, _, _, _, _, rfl, (bt.new nq).l.p.p, ⟨upd_same, (upd_ne npl.symm).trans ((upd_ne npl.symm).trans upd_same), npl⟩, za, (hm _).1, (hm _).2⟩
            · repeat walk_at "s1"
              exact ⟨_, _, _, _, _, rfl, (bt.new nq).l.p.p, ⟨upd_same, (upd_ne npl.symm).trans ((upd_ne npl.symm).trans upd_same), npl⟩, Int.le_refl 0, (hm _).1, (hm _).2⟩
      · refine iteF ?_
        exact ⟨zs, a, c, y2, y3, y4, rfl, bt, ⟨ep, el, npl⟩, hz, a0, c0, c1⟩
    · rintro σ' H' ⟨zs, a, c, y2, y3, y4, rfl, bt, ⟨ep', el', _⟩, hz, a0, c0, c1⟩
      repeat walk_at "s1"
      refine ite2 (fun e1 => ?_) (fun e1 => ?_)
      · repeat walk_at "s1"
        exact hq _ _ bt.p ⟨zs, _, _, _, ⟨upd_same, (upd_ne npl.symm).trans el', npl⟩, hz, Int.ediv_nonneg a0 (by omega), by omega, by omega, c0, c1⟩ (Int.emod_nonneg _ (by omega)) (Int.emod_lt_of_pos _ m0)
      · repeat walk_at "s1"
        exact hq _ _ bt ⟨zs, _, _, _, ⟨ep', el', npl⟩, hz, a0, by omega, by omega, c0, c1⟩ (Int.emod_nonneg _ (by omega)) (Int.emod_lt_of_pos _ m0)
end
end K95


namespace K95
open PySem PySem.Spec PyProof.Rows L2
local macro_rules | `(tactic| walk_at "ty") => `(tactic| first | exact .old (.base (.int _)) | exact .old (.base (.str _)) | exact .old (.base .non) | exact .old (.base (.bl _)) | exact .old (.base (.lst (by walk_at "hp"))) | exact .old (.base (.tup (by walk_at "hp"))) | exact .old (.base (.dK (by walk_at "hp"))))
local macro_rules | `(tactic| walk_at "hne") => `(tactic| first | assumption | exact Ne.symm (by assumption) | (refine' ne_of_none ?hn1 ?hn2; rotate_left; (case hn2 => assumption); (case hn1 => walk_at "hp")) | (refine' Ne.symm (ne_of_none ?hn1 ?hn2); rotate_left; (case hn2 => assumption); (case hn1 => walk_at "hp")))
local macro_rules | `(tactic| walk_at "hp") => `(tactic| first | exact upd_same | assumption | (refine' (upd_ne ?hpn).trans ?hpg; (case hpn => walk_at "hne"); (case hpg => walk_at "hp")))
local macro_rules | `(tactic| walk_at "cond") => `(tactic| first | omega | decide | assumption | exact Nat.le_of_lt (small1000 (by simp)))
local macro_rules | `(tactic| walk_at "s1") => `(tactic| first
  | with_reducible refine u_var rfl ?_
  | with_reducible refine u_op ?_
  | with_reducible refine u_un ?_
  | with_reducible refine u_cb ?_
  | with_reducible refine u_nil ?_
  | with_reducible refine u_cons ?_
  | with_reducible refine u_asg ?_
  | with_reducible refine u_name ?_
  | with_reducible refine u_sub ?_
  | with_reducible refine u_seq ?_
  | with_reducible refine u_ret ?_
  | with_reducible refine u_next ?_
  | with_reducible refine u_drop ?_
  | with_reducible refine u_test ?_
  | with_reducible refine u_b ?_
  | with_reducible refine u_ifS ?_
  | with_reducible refine u_if ?_
  | with_reducible refine u_and ?_
  | with_reducible refine u_or ?_
  | with_reducible refine u_not ?_
  | with_reducible refine u_andV ?_
  | with_reducible refine u_orV ?_
  | with_reducible refine u_notV ?_
  | with_reducible refine u_tup ?_
  | with_reducible refine u_lst ?_
  | with_reducible refine u_call ?_
  | with_reducible refine u_bm ?_
  | with_reducible refine u_bm0 ?_
  | with_reducible refine u_yes ?_
  | with_reducible refine u_c ?_
  | with_reducible refine u_bl ?_
  | ((with_reducible refine' iteF' ?hc ?_); (case hc => first | rfl | simp; done))
  | ((with_reducible refine' iteT' ?hc ?_); (case hc => first | rfl | simp; done))
  | with_reducible refine r_I0 ?_
  | with_reducible refine r_I (by walk_at "cond") ?_
  | refine r_I (show CDiv _ _ from ⟨by omega, by omega⟩) ?_
  | refine r_I (show CMul _ _ from .inl ⟨by omega, by omega⟩) ?_
  | refine r_I (show CMul _ _ from .inr ⟨by omega, by omega⟩) ?_
  | refine r_I (show CPow _ _ from ⟨by omega, by omega, by omega⟩) ?_
  | with_reducible refine r_U ?_
  | with_reducible refine r_Eq rfl ?_
  | with_reducible refine r_Ne rfl ?_
  | ((with_reducible refine' r_ixL ?hx ?he ?_); (case hx => walk_at "hp"); (case he => rfl))
  | ((with_reducible refine' r_ixT ?hx ?he ?_); (case hx => walk_at "hp"); (case he => rfl))
  | ((with_reducible refine' r_setL ?hx ?he ?_); (case hx => walk_at "hp"); (case he => rfl))
  | with_reducible refine r_isN ?_
  | with_reducible refine u_mk0 ?_
  | with_reducible refine u_mkE ?_
  | with_reducible refine u_xf ?_
  | ((with_reducible refine' r_isE ?hcl ?hx ?hi ?hj ?_); (case hcl => assumption); (case hx => assumption); (case hi => assumption); (case hj => decide))
  | ((with_reducible refine' r_isB (r := true) ?hx ?he ?_); (case hx => walk_at "ty"); (case he => decide +kernel))
  | ((with_reducible refine' r_isB (r := false) ?hx ?he ?_); (case hx => walk_at "ty"); (case he => decide +kernel))
  | with_reducible refine And.intro (by walk_at "cond") ?_
  | refine ⟨_, rfl, ?_⟩
  | refine ⟨_, _, rfl, ?_⟩
  | refine .inl ⟨_, rfl, ?_⟩)
local macro_rules | `(tactic| walk_at "mkas") => `(tactic| first | exact mka_nil | (refine mka_cons rfl ?_; walk_at "mkas") | (refine mka_cons0 ?_; walk_at "mkas"))
/-- flat values -/
def flat1 : V → Bool
  | .int _ => true
  | .str _ => true
  | .non => true
  | .bl _ => true
  | _ => false
/-- two things that are alike, of the same kinds, to a depth -/
inductive Alk (H : Hp) : Nat → V → V → Prop where
  | flat {n : Nat} {x : V} (h : flat1 x = true) : Alk H (n + 1) x x
  | lst {n : Nat} {a b : Addr} {xs ys : List V} (ha : H a = some (.lst xs)) (hb : H b = some (.lst ys)) (hl : xs.length ≤ 1000) (he : xs.length = ys.length) (all : ∀ (i : Nat) (x y : V), xs[i]? = some x → ys[i]? = some y → Alk H n x y) : Alk H (n + 1) (.ref a) (.ref b)
  | tup {n : Nat} {a b : Addr} {xs ys : List V} (ha : H a = some (.tup xs)) (hb : H b = some (.tup ys)) (hl : xs.length ≤ 1000) (he : xs.length = ys.length) (all : ∀ (i : Nat) (x y : V), xs[i]? = some x → ys[i]? = some y → Alk H n x y) : Alk H (n + 1) (.ref a) (.ref b)
  | dct {n : Nat} {a : Addr} {kvs : List (Key × V)} (ha : H a = some (.dK kvs)) (hl : kvs.length ≤ 1000) (nd : (kvs.map (·.1)).Nodup) (all : ∀ kv ∈ kvs, flat1 kv.2 = true) : Alk H (n + 3) (.ref a) (.ref a)
abbrev Ext (H H' : Hp) : Prop := ∀ a o, H a = some o → H' a = some o
theorem ext_new {H H1 : Hp} {q : Addr} {o : HO} (e : Ext H H1) (n : H1 q = none) : Ext H (upd H1 q o) := fun a u h => (upd_ne (ne_of_none (e a u h) n)).trans (e a u h)
theorem Alk.ext {H H' : Hp} (e : Ext H H') {n : Nat} {x y : V} (h : Alk H n x y) : Alk H' n x y := by
  induction h with
  | flat h => exact .flat h
  | lst ha hb hl he _ ih => exact .lst (e _ _ ha) (e _ _ hb) hl he ih
  | tup ha hb hl he _ ih => exact .tup (e _ _ ha) (e _ _ hb) hl he ih
  | dct ha hl nd all => exact .dct (e _ _ ha) hl nd all
theorem walk_zipT {K : PySem.W.Frag} {a b : Addr} {xs ys : List V} {n : Nat} (hn : n = min xs.length ys.length) : Walk (RZ.ItzT K a b) n (fun H => SqT K H a xs ∧ SqT K H b ys) (YPair (fun i => xs[i]?) (fun i => ys[i]?)) := by
  subst hn
  refine ⟨fun i H hi q => ⟨xs, ys, xs[i]'(by omega), ys[i]'(by omega), q.1, q.2, List.getElem?_eq_getElem _, List.getElem?_eq_getElem _⟩, fun _ q => ⟨xs, ys, q.1, q.2, by omega⟩, fun i H v H' _ q y => ?_⟩
  obtain ⟨T, x, z, h1, h2, h3, h4, h5⟩ := y
  exact ⟨T, x, z, h1, h2, h3, h4 xs q.1, h5 ys q.2⟩
theorem valV_at : ∀ {kvs : List (Key × V)} {i : Nat} {k : Key} {v : V}, (kvs.map (·.1)).Nodup → kvs[i]? = some (k, v) → valV kvs k = some v
  | [], _, _, _, _, h => by simp at h
  | p :: r, 0, k, v, _, h => by
    have e : p = (k, v) := by simpa using h
    subst e
    exact valV_pos rfl
  | p :: r, i + 1, k, v, nd, h => by
    obtain ⟨h1, h2⟩ := List.nodup_cons.mp nd
    have hr : r[i]? = some (k, v) := by simpa using h
    have hne : ¬ p.1 = k := fun e => h1 (show p.1 ∈ _ by rw [e]; exact List.mem_map.mpr ⟨(k, v), List.mem_of_getElem? hr, rfl⟩)
    rw [valV_neg hne]
    exact valV_at h2 hr
theorem sc_law_same : FnScope ["found", "due", "key", "mine", "theirs"] ["found", "due"] (defScope s_law_same) := ⟨rfl, rfl, rfl, by decide +kernel, rfl, by decide +kernel, by decide +kernel⟩
section
variable {P : Program} {w : World} {K : PySem.W.Frag} {mg : Str → Option Value} {base : Heap} {f : Addr} {fd : FuncData}
def spSame (n : Nat) : Sp := fun vs H Q _ => ∃ x y, vs = [x, y] ∧ Alk H n x y ∧ ∀ H', Ext H H' → Q (.bl true) H'
theorem same0 : FnOk P w K mg base CX0 0 f fd ["found", "due"] (spSame 0) where
  len := fun vs H Q E h => by
    obtain ⟨x, y, rfl, _⟩ := h
    rfl
  run := fun A outer s H args us vs Q E _ _ _ _ h => by
    obtain ⟨x, y, rfl, h, _⟩ := h
    cases h
theorem same_step {n k : Nat} (F_law_same : FnK K "_law_same" s_law_same f fd) (b : Bs mg) (gm_law_same : mg "_law_same" = some (.ref f)) (G_law_same : FnOk P w K mg base CX0 k f fd ["found", "due"] (spSame n)) :
    FnOk P w K mg base CX0 (k + 1) f fd ["found", "due"] (spSame (n + 1)) := by
  have B_law_same : Binds K fd ["found", "due"] [] := F_law_same.bindsN fun _ _ _ _ _ _ us hl => match us, hl with | [_, _], _ => rfl
  refine F_law_same.ok sc_law_same (fun vs H Q E h => ?_) (fun cdv A outer s H vs Q E hr h => ?_)
  · obtain ⟨x, y, rfl, _⟩ := h
    rfl
  · obtain ⟨x, y, rfl, h, hq⟩ := h
    have hu := hu_of hr
    refine ⟨_, PSs.nox (pss_cons (ps_if (pt_val (pe_callB call_isYT (by rfl) b.isinstance (by decide +kernel) (pa_cons (pv 1) (pa_cons (pe_tup (pa_cons (pe_bltn (v := .ty "list") (by rfl) b.list (by decide +kernel) rfl) (pa_cons (pe_bltn (v := .ty "tuple") (by rfl) b.tuple (by decide +kernel) rfl) pa_nil))) pa_nil)))) (pss_cons (ps_if ((pw_or (pt_cmpR op_ne (pe_callB call_isY (by rfl) b.isinstance (by decide +kernel) (pa_cons (pv 0) (pa_cons (pe_bltn (v := .ty "list") (by rfl) b.list (by decide +kernel) rfl) pa_nil))) (pe_callB call_isY (by rfl) b.isinstance (by decide +kernel) (pa_cons (pv 1) (pa_cons (pe_bltn (v := .ty "list") (by rfl) b.list (by decide +kernel) rfl) pa_nil))) (nomark _)) (pw_or1 (pt_cmpR op_ne (pe_callB call_isY (by rfl) b.isinstance (by decide +kernel) (pa_cons (pv 0) (pa_cons (pe_bltn (v := .ty "tuple") (by rfl) b.tuple (by decide +kernel) rfl) pa_nil))) (pe_callB call_isY (by rfl) b.isinstance (by decide +kernel) (pa_cons (pv 1) (pa_cons (pe_bltn (v := .ty "tuple") (by rfl) b.tuple (by decide +kernel) rfl) pa_nil))) (nomark _))))).pt (pss_one (ps_ret pe_bl)) pss_nil)
      (pss_one (ps_ret (pe_and (pe_cmpR op_eq (pe_callB call_len (by rfl) b.len (by decide +kernel) (pa_cons (pv 0) pa_nil)) (pe_callB call_len (by rfl) b.len (by decide +kernel) (pa_cons (pv 1) pa_nil)) (nomark _)) (pe_one (pe_callB (cr_all rfl) (by rfl) b.all (by decide +kernel) (pa_cons (pe_lc (own := [("mine", 3), ("theirs", 4)]) (g := (gTup K 2 (gCons (gName 3) (gCons (gName 4) gNil)))) (tt := tYes) rfl sc_law_same.nd (RZ.pi_zipA (by rfl) b.zip (pa_cons (pv 0) (pa_cons (pv 1) pa_nil))) (blkOk_by (N := ["found", "due", "key", "mine", "theirs"]) (sc := defScope s_law_same) (by decide +kernel)) (fun _ _ _ _ _ => (pg_tup rfl (pgs_cons (pg_name (i := 3) sc_law_same.nd rfl (.inl rfl) (.inr rfl)) (pgs_cons (pg_name (i := 4) sc_law_same.nd rfl (.inl rfl) (.inr rfl)) pgs_nil)))) (fun _ _ _ _ _ => pts_nil) (fun _ _ _ _ _ => (pe_call G_law_same (hr.mono (by omega)) (by rfl) gm_law_same F_law_same.kp B_law_same .nil pass0 (pa_cons (pv 3) (pa_cons (pv 4) pa_nil))))) pa_nil))))))) pss_nil)
      (pss_cons (ps_if (pt_val (pe_callB call_isY (by rfl) b.isinstance (by decide +kernel) (pa_cons (pv 1) (pa_cons (pe_bltn (v := .ty "dict") (by rfl) b.dict (by decide +kernel) rfl) pa_nil)))) (pss_cons (ps_if ((pw_or (pt_not (pt_val (pe_callB call_isY (by rfl) b.isinstance (by decide +kernel) (pa_cons (pv 0) (pa_cons (pe_bltn (v := .ty "dict") (by rfl) b.dict (by decide +kernel) rfl) pa_nil))))) (pw_or1 (pt_not (pt_val (pe_call G_law_same (hr.mono (by omega)) (by rfl) gm_law_same F_law_same.kp B_law_same .nil pass0 (pa_cons (pe_callTy (call_listD rfl) (by rfl) b.list (by decide +kernel) (pa_cons (pv 0) pa_nil)) (pa_cons (pe_callTy (call_listD rfl) (by rfl) b.list (by decide +kernel) (pa_cons (pv 1) pa_nil)) pa_nil)))))))).pt (pss_one (ps_ret pe_bl)) pss_nil)
      (pss_one (ps_ret (pe_callB (cr_all rfl) (by rfl) b.all (by decide +kernel) (pa_cons (pe_lock (pe_lc (own := [("key", 2)]) (g := (gName 2)) (tt := tYes) rfl sc_law_same.nd (pi_keys (pv 1)) (blkOk_by (N := ["found", "due", "key", "mine", "theirs"]) (sc := defScope s_law_same) (by decide +kernel)) (fun _ _ _ _ _ => (pg_name (i := 2) sc_law_same.nd rfl (.inl rfl) (.inr rfl))) (fun _ _ _ _ _ => pts_nil) (fun _ _ _ _ _ => (pe_call G_law_same (hr.mono (by omega)) (by rfl) gm_law_same F_law_same.kp B_law_same .nil pass0 (pa_cons (pe_dget hu (pv 0) (pv 2) (fun _ _ => rfl)) (pa_cons (pe_dget hu (pv 1) (pv 2) (fun _ _ => rfl)) pa_nil)))))) pa_nil))))) pss_nil)
      (pss_cons (ps_if (pt_cmpR op_isN (pv 1) pe_non (nomark _)) (pss_one (ps_ret (pe_cmpR op_isN (pv 0) pe_non (nomark _)))) pss_nil)
      (pss_cons (ps_if (pt_val (pe_callB call_isY (by rfl) b.isinstance (by decide +kernel) (pa_cons (pv 1) (pa_cons (pe_bltn (v := .ty "bool") (by rfl) b.bool (by decide +kernel) rfl) pa_nil)))) (pss_one (ps_ret (pe_and (pe_callB call_isY (by rfl) b.isinstance (by decide +kernel) (pa_cons (pv 0) (pa_cons (pe_bltn (v := .ty "bool") (by rfl) b.bool (by decide +kernel) rfl) pa_nil))) (pe_one (pe_cmpR op_eq (pv 0) (pv 1) (nomark _)))))) pss_nil)
      (pss_cons (ps_if (pt_val (pe_callB call_isY (by rfl) b.isinstance (by decide +kernel) (pa_cons (pv 1) (pa_cons (pe_bltn (v := .ty "int") (by rfl) b.int (by decide +kernel) rfl) pa_nil)))) (pss_one (ps_ret (pe_and (pe_callB call_isY (by rfl) b.isinstance (by decide +kernel) (pa_cons (pv 0) (pa_cons (pe_bltn (v := .ty "int") (by rfl) b.int (by decide +kernel) rfl) pa_nil))) (pe_and (pe_not (pe_callB call_isY (by rfl) b.isinstance (by decide +kernel) (pa_cons (pv 0) (pa_cons (pe_bltn (v := .ty "bool") (by rfl) b.bool (by decide +kernel) rfl) pa_nil)))) (pe_one (pe_cmpR op_eq (pv 0) (pv 1) (nomark _))))))) pss_nil)
      (pss_one (ps_ret (pe_and (pe_callB call_isY (by rfl) b.isinstance (by decide +kernel) (pa_cons (pv 0) (pa_cons (pe_bltn (v := .ty "str") (by rfl) b.str (by decide +kernel) rfl) pa_nil))) (pe_one (pe_cmpR op_eq (pv 0) (pv 1) (nomark _))))))))))), ?_⟩
    repeat walk_at "s1"
    intro tp nt
    have E0 : Ext H (upd H tp (.tup [.ty "list", .ty "tuple"])) := ext_new (fun _ _ z => z) nt
    generalize hH1 : upd H tp (.tup [.ty "list", .ty "tuple"]) = H1 at *
    have etp : H1 tp = some (.tup [.ty "list", .ty "tuple"]) := by rw [← hH1]; exact upd_same
    have h1 := h.ext E0
    clear h nt hH1
    cases h1 with
    | flat hf =>
      cases x with
      | int i =>
        repeat walk_at "s1"
        refine r_isBT (bs := ["list", "tuple"]) (r := false) etp (by walk_at "ty") (by decide +kernel) ?_
        repeat walk_at "s1"
        show Q (.bl (decide (V.int i = V.int i))) H1
        rw [decide_eq_true rfl]
        exact hq _ E0
      | str i =>
        repeat walk_at "s1"
        refine r_isBT (bs := ["list", "tuple"]) (r := false) etp (by walk_at "ty") (by decide +kernel) ?_
        repeat walk_at "s1"
        show Q (.bl (decide (V.str i = V.str i))) H1
        rw [decide_eq_true rfl]
        exact hq _ E0
      | bl i =>
        repeat walk_at "s1"
        refine r_isBT (bs := ["list", "tuple"]) (r := false) etp (by walk_at "ty") (by decide +kernel) ?_
        repeat walk_at "s1"
        show Q (.bl (decide (V.bl i = V.bl i))) H1
        rw [decide_eq_true rfl]
        exact hq _ E0
      | non =>
        repeat walk_at "s1"
        refine r_isBT (bs := ["list", "tuple"]) (r := false) etp (by walk_at "ty") (by decide +kernel) ?_
        repeat walk_at "s1"
        exact hq _ E0
      | _ => cases hf
    | @lst _ a b' xs ys ha hb hl he all =>
      repeat walk_at "s1"
      refine r_isBT (bs := ["list", "tuple"]) (r := true) etp (by walk_at "ty") (by decide +kernel) ?_
      repeat walk_at "s1"
      refine ⟨_, _, rfl, .inl ⟨_, .inl (.inl ha), rfl⟩, ?_⟩
      repeat walk_at "s1"
      refine ⟨_, _, rfl, .inl ⟨_, .inl (.inl hb), rfl⟩, ?_⟩
      repeat walk_at "s1"
      refine iteT' (decide_eq_true (by rw [he])) ?_
      repeat walk_at "s1"
      refine ⟨a, b', xs, ys, rfl, .inl ⟨.inl (.inl ha), .inl (.inl hb), fun D nD => ?_⟩⟩
      refine lc_it (walk_zip (n := xs.length) (by omega)) (fun i H' => Ext H1 H' ∧ H' D = some (.lst (List.replicate i (.bl true)))) ⟨ext_new (fun _ _ z => z) nD, upd_same⟩ (fun i H' _ z => ⟨.inl (.inl (z.1 _ _ ha)), .inl (.inl (z.1 _ _ hb))⟩) (fun i v H2 H3 hi z y => ?_) (fun H' z => ?_)
      · obtain ⟨ex, eD⟩ := z
        obtain ⟨T, x1, x2, rfl, nT, rfl, f1, f2⟩ := y
        refine ⟨T, [x1, x2], rfl, .inl (.inl upd_same), rfl, x1, [x2], rfl, x2, [], rfl, rfl, rfl, ?_⟩
        repeat walk_at "s1"
        refine ⟨(all i x1 x2 f1 f2).ext (ext_new ex nT), fun H4 ex4 => ?_⟩
        have eD4 : H4 D = some (.lst (List.replicate i (.bl true))) := ex4 _ _ ((upd_ne (ne_of_none eD nT)).trans eD)
        refine ⟨_, eD4, by rw [List.length_replicate]; exact small1000 (by omega), fun c o h => ?_, ?_⟩
        · have h2 : c ≠ D := ne_of_none h nD
          exact (upd_ne h2).trans (ex4 _ _ (ext_new ex nT _ _ h))
        · rw [upd_same, List.replicate_succ']
      · obtain ⟨ex, eD⟩ := z
        repeat walk_at "s1"
        refine ⟨D, List.replicate xs.length true, rfl, .inl (.inl (by rw [List.map_replicate]; exact eD)), ?_⟩
        have e : (List.replicate xs.length true).all id = true := by simp
        rw [e]
        exact hq _ fun c o h => ex _ _ (E0 _ _ h)
    | @tup _ a b' xs ys ha hb hl he all =>
      repeat walk_at "s1"
      refine r_isBT (bs := ["list", "tuple"]) (r := true) etp (by walk_at "ty") (by decide +kernel) ?_
      repeat walk_at "s1"
      refine ⟨_, _, rfl, .inr ⟨_, .inl (.inl ha), rfl⟩, ?_⟩
      repeat walk_at "s1"
      refine ⟨_, _, rfl, .inr ⟨_, .inl (.inl hb), rfl⟩, ?_⟩
      repeat walk_at "s1"
      refine iteT' (decide_eq_true (by rw [he])) ?_
      repeat walk_at "s1"
      refine ⟨a, b', xs, ys, rfl, .inr ⟨.inl (.inl ha), .inl (.inl hb), fun D nD => ?_⟩⟩
      refine lc_it (walk_zipT (n := xs.length) (by omega)) (fun i H' => Ext H1 H' ∧ H' D = some (.lst (List.replicate i (.bl true)))) ⟨ext_new (fun _ _ z => z) nD, upd_same⟩ (fun i H' _ z => ⟨.inl (.inl (z.1 _ _ ha)), .inl (.inl (z.1 _ _ hb))⟩) (fun i v H2 H3 hi z y => ?_) (fun H' z => ?_)
      · obtain ⟨ex, eD⟩ := z
        obtain ⟨T, x1, x2, rfl, nT, rfl, f1, f2⟩ := y
        refine ⟨T, [x1, x2], rfl, .inl (.inl upd_same), rfl, x1, [x2], rfl, x2, [], rfl, rfl, rfl, ?_⟩
        repeat walk_at "s1"
        refine ⟨(all i x1 x2 f1 f2).ext (ext_new ex nT), fun H4 ex4 => ?_⟩
        have eD4 : H4 D = some (.lst (List.replicate i (.bl true))) := ex4 _ _ ((upd_ne (ne_of_none eD nT)).trans eD)
        refine ⟨_, eD4, by rw [List.length_replicate]; exact small1000 (by omega), fun c o h => ?_, ?_⟩
        · have h2 : c ≠ D := ne_of_none h nD
          exact (upd_ne h2).trans (ex4 _ _ (ext_new ex nT _ _ h))
        · rw [upd_same, List.replicate_succ']
      · obtain ⟨ex, eD⟩ := z
        repeat walk_at "s1"
        refine ⟨D, List.replicate xs.length true, rfl, .inl (.inl (by rw [List.map_replicate]; exact eD)), ?_⟩
        have e : (List.replicate xs.length true).all id = true := by simp
        rw [e]
        exact hq _ fun c o h => ex _ _ (E0 _ _ h)
    | @dct n a kvs ha hl nd all =>
      repeat walk_at "s1"
      refine r_isBT (bs := ["list", "tuple"]) (r := false) etp (by walk_at "ty") (by decide +kernel) ?_
      repeat walk_at "s1"
      refine ⟨a, kvs, rfl, .inl ha, fun l1 n1 => ?_⟩
      have ha1 := (upd_ne (o := .lst (kvs.map fun kv => kV kv.1)) (ne_of_none ha n1)).trans ha
      have E1 : Ext H1 _ := ext_new (o := .lst (kvs.map fun kv => kV kv.1)) (fun _ _ z => z) n1
      repeat walk_at "s1"
      refine ⟨a, kvs, rfl, .inl ha1, fun l2 n2 => ?_⟩
      have E2 : Ext H1 _ := ext_new (o := .lst (kvs.map fun kv => kV kv.1)) E1 n2
      obtain ⟨n12, _⟩ := upd_none n2
      repeat walk_at "s1"
      refine ⟨.lst ((upd_ne n12.symm).trans upd_same) upd_same (by rw [List.length_map]; omega) rfl (fun i x y e1 e2 => ?_), fun H3 ex3 => ?_⟩
      · have e : x = y := Option.some.inj (e1.symm.trans e2)
        subst e
        refine .flat ?_
        rw [List.getElem?_map] at e1
        obtain ⟨kv, _, rfl⟩ := Option.map_eq_some_iff.mp e1
        cases kv.1 <;> rfl
      have E3 : Ext H1 H3 := fun c o h => ex3 _ _ (E2 _ _ h)
      have ha3 := E3 _ _ ha
      repeat walk_at "s1"
      refine ⟨a, _, ha3, trivial, fun od => ?_⟩
      show iKeys _ _ _ _
      unfold iKeys
      repeat walk_at "s1"
      refine ⟨a, od, rfl, .inl ⟨kvs, upd_same, fun D nD => ?_⟩⟩
      obtain ⟨nDa, nD3⟩ := upd_none nD
      refine lc_it walk_keys (fun i H' => (∀ c o, c ≠ a → H1 c = some o → H' c = some o) ∧ H' a = some (.frz od (.dK kvs)) ∧ H' D = some (.lst (List.replicate i (.bl true)))) ⟨fun c o hc h => ?_, (upd_ne nDa.symm).trans upd_same, upd_same⟩ (fun i H' _ z => z.2.1) (fun i v H4 H5 hi z y => ?_) (fun H' z => ?_)
      · exact (upd_ne (ne_of_none (E3 _ _ h) nD3)).trans ((upd_ne hc).trans (E3 _ _ h))
      · obtain ⟨ex, ea, eD⟩ := z
        obtain ⟨rfl, k, v, hkv, rfl⟩ := y
        have hv := valV_at nd hkv
        have hm : (k, v) ∈ kvs := List.mem_of_getElem? hkv
        refine ⟨rfl, ?_⟩
        repeat walk_at "s1"
        refine ⟨a, v, rfl, .inl ⟨kvs, k, .inr ⟨od, ea⟩, rfl, hv.symm⟩, ?_⟩
        repeat walk_at "s1"
        refine ⟨a, v, rfl, .inl ⟨kvs, k, .inr ⟨od, ea⟩, rfl, hv.symm⟩, ?_⟩
        repeat walk_at "s1"
        refine ⟨.flat (all _ hm), fun H6 ex6 => ?_⟩
        refine ⟨_, ex6 _ _ eD, by rw [List.length_replicate]; exact small1000 (by omega), fun c o hc h => ?_, (upd_ne nDa.symm).trans (ex6 _ _ ea), ?_⟩
        · exact (upd_ne (ne_of_none (E3 _ _ h) nD3)).trans (ex6 _ _ (ex c o hc h))
        · rw [upd_same, List.replicate_succ']
      · obtain ⟨ex, ea, eD⟩ := z
        refine ⟨ea, ?_⟩
        repeat walk_at "s1"
        refine ⟨D, List.replicate kvs.length true, rfl, .inl (.inl ((upd_ne nDa).trans (by rw [List.map_replicate]; exact eD))), ?_⟩
        have e : (List.replicate kvs.length true).all id = true := by simp
        rw [e]
        refine hq _ fun c o h => ?_
        by_cases hc : c = a
        · subst hc
          have z := (E0 _ _ h).symm.trans ha
          rw [z, upd_same]
        · exact (upd_ne hc).trans (ex c o hc (E0 _ _ h))
end
end K95


namespace K95
open PySem PySem.Spec PyProof.Rows L2
local macro_rules | `(tactic| walk_at "ty") => `(tactic| first | exact .old (.base (.int _)) | exact .old (.base (.str _)) | exact .old (.base .non) | exact .old (.base (.bl _)) | exact .old (.base (.lst (by walk_at "hp"))) | exact .old (.base (.tup (by walk_at "hp"))) | exact .old (.base (.dK (by walk_at "hp"))))
local macro_rules | `(tactic| walk_at "hne") => `(tactic| first | assumption | exact Ne.symm (by assumption) | (refine' ne_of_none ?hn1 ?hn2; rotate_left; (case hn2 => assumption); (case hn1 => walk_at "hp")) | (refine' Ne.symm (ne_of_none ?hn1 ?hn2); rotate_left; (case hn2 => assumption); (case hn1 => walk_at "hp")))
local macro_rules | `(tactic| walk_at "hp") => `(tactic| first | exact upd_same | assumption | (refine' (upd_ne ?hpn).trans ?hpg; (case hpn => walk_at "hne"); (case hpg => walk_at "hp")))
local macro_rules | `(tactic| walk_at "cond") => `(tactic| first | omega | decide | assumption | exact Nat.le_of_lt (small1000 (by simp)))
local macro_rules | `(tactic| walk_at "s1") => `(tactic| first
  | with_reducible refine u_var rfl ?_
  | with_reducible refine u_op ?_
  | with_reducible refine u_un ?_
  | with_reducible refine u_cb ?_
  | with_reducible refine u_nil ?_
  | with_reducible refine u_cons ?_
  | with_reducible refine u_asg ?_
  | with_reducible refine u_name ?_
  | with_reducible refine u_sub ?_
  | with_reducible refine u_seq ?_
  | with_reducible refine u_ret ?_
  | with_reducible refine u_next ?_
  | with_reducible refine u_drop ?_
  | with_reducible refine u_test ?_
  | with_reducible refine u_b ?_
  | with_reducible refine u_ifS ?_
  | with_reducible refine u_if ?_
  | with_reducible refine u_and ?_
  | with_reducible refine u_or ?_
  | with_reducible refine u_not ?_
  | with_reducible refine u_andV ?_
  | with_reducible refine u_orV ?_
  | with_reducible refine u_notV ?_
  | with_reducible refine u_tup ?_
  | with_reducible refine u_lst ?_
  | with_reducible refine u_call ?_
  | with_reducible refine u_bm ?_
  | with_reducible refine u_bm0 ?_
  | with_reducible refine u_yes ?_
  | with_reducible refine u_c ?_
  | with_reducible refine u_bl ?_
  | ((with_reducible refine' iteF' ?hc ?_); (case hc => first | rfl | simp; done))
  | ((with_reducible refine' iteT' ?hc ?_); (case hc => first | rfl | simp; done))
  | with_reducible refine r_I0 ?_
  | with_reducible refine r_I (by walk_at "cond") ?_
  | refine r_I (show CDiv _ _ from ⟨by omega, by omega⟩) ?_
  | refine r_I (show CMul _ _ from .inl ⟨by omega, by omega⟩) ?_
  | refine r_I (show CMul _ _ from .inr ⟨by omega, by omega⟩) ?_
  | refine r_I (show CPow _ _ from ⟨by omega, by omega, by omega⟩) ?_
  | with_reducible refine r_U ?_
  | with_reducible refine r_Eq rfl ?_
  | with_reducible refine r_Ne rfl ?_
  | ((with_reducible refine' r_ixL ?hx ?he ?_); (case hx => walk_at "hp"); (case he => rfl))
  | ((with_reducible refine' r_ixT ?hx ?he ?_); (case hx => walk_at "hp"); (case he => rfl))
  | ((with_reducible refine' r_setL ?hx ?he ?_); (case hx => walk_at "hp"); (case he => rfl))
  | with_reducible refine r_isN ?_
  | with_reducible refine u_mk0 ?_
  | with_reducible refine u_mkE ?_
  | with_reducible refine u_xf ?_
  | ((with_reducible refine' r_isE ?hcl ?hx ?hi ?hj ?_); (case hcl => assumption); (case hx => assumption); (case hi => assumption); (case hj => decide))
  | ((with_reducible refine' r_isB (r := true) ?hx ?he ?_); (case hx => walk_at "ty"); (case he => decide +kernel))
  | ((with_reducible refine' r_isB (r := false) ?hx ?he ?_); (case hx => walk_at "ty"); (case he => decide +kernel))
  | with_reducible refine And.intro (by walk_at "cond") ?_
  | refine ⟨_, rfl, ?_⟩
  | refine ⟨_, _, rfl, ?_⟩
  | refine .inl ⟨_, rfl, ?_⟩)
local macro_rules | `(tactic| walk_at "mkas") => `(tactic| first | exact mka_nil | (refine mka_cons rfl ?_; walk_at "mkas") | (refine mka_cons0 ?_; walk_at "mkas"))
def exA0 : List (Str × Option Str) := [("PoolError", none), ("BadRows", some "rows"), ("BadOther", some "other"), ("BadWhy", some "why"), ("BadNames", some "words"), ("BadLength", some "length"), ("BadAnswer", some "answer"), ("BadWholeText", some "line"), ("NotHeld", some "index"), ("NotFailing", some "pair"), ("BadLow", some "low"), ("BadHigh", some "high"), ("BadWanted", some "index"), ("BadPrices", some "prices"), ("BadOthers", some "index"), ("BadUntrue", some "index"), ("NotTogether", some "untrue"), ("BadLinks", some "index"), ("BadPartition", some "partition"), ("BadWorlds", some "count"), ("BadViews", some "told"), ("BadPeople", some "people"), ("NoPerson", some "word"), ("BadEvent", some "event"), ("BadWorld", some "world"), ("BadGroup", some "index"), ("BadMost", some "most"), ("BadEdit", some "edit"), ("BadDesk", some "desk"), ("BadDeskText", some "line")]
def exA1 : List (Str × Option Str) := [("NothingToUndo", none), ("NothingToRedo", none), ("BadTerm", some "term"), ("BadPair", some "pair"), ("BadHypotheses", some "index"), ("BadTerms", some "index"), ("BadMany", some "many"), ("BadRules", some "index"), ("BadSets", some "sets"), ("BadCase", some "case"), ("BadPoints", some "points"), ("NoName", some "word"), ("BadRule", some "head"), ("BadTermText", some "place"), ("BadPairsText", some "line"), ("BadCaseText", some "line"), ("BadValues", some "given"), ("NoValue", some "word"), ("WrongNames", some "index"), ("BadPairs", some "index"), ("NotOrder", some "members"), ("NotLattice", some "members"), ("BadLattice", some "lattice"), ("BadElement", some "element"), ("BadElements", some "index"), ("BadTold", some "told"), ("BadGiven", some "given"), ("NoElement", some "word"), ("BadWords", some "words"), ("BadPut", some "given")]
def exA : List (Str × Option Str) := exA0 ++ exA1
/-- the numbers of the classes that the law asks for, in its order -/
def kix : List Nat := [12, 13, 14, 15, 16, 17, 18, 19, 20, 21, 22, 23, 24, 25, 26, 27, 28, 29, 30, 31]
def tb (i k : Nat) : Bool := (kix.map fun j => decide (j = i ∨ j = 0)).getD k false
def kinds (i : Nat) : List V := ((List.range 20).filter (tb i)).map fun (k : Nat) => V.int (k : Int)
theorem tb_at {i k : Nat} (h : k < 20) : (kix.map fun j => V.bl (decide (j = i ∨ j = 0)))[k]? = some (.bl (tb i k)) := by
  have hk : k < kix.length := h
  unfold tb
  rw [List.getElem?_map, List.getD_eq_getElem?_getD, List.getElem?_map, List.getElem?_eq_getElem hk]
  rfl
theorem kinds_own : ∀ k : _root_.Fin 20, kinds (kix.getD k.val 0) = [.int (k.val : Int)] := by decide +kernel
theorem kinds_oth : ∀ i : _root_.Fin 60, ¬ i.val ∈ kix → kinds i.val = [] := by decide +kernel
theorem sc_law_kinds_of : FnScope ["e", "told", "k"] ["e"] (defScope s_law_kinds_of) := ⟨rfl, rfl, rfl, by decide +kernel, rfl, by decide +kernel, by decide +kernel⟩
section
variable {P : Program} {w : World} {K : PySem.W.Frag} {mg : Str → Option Value} {base : Heap} {f : Addr} {fd : FuncData} {ca : Nat → Addr}
def spKinds (ca : Nat → Addr) : Sp := fun vs H Q _ => ∃ (a : Addr) (i : Nat), vs = [.ref a] ∧ i < 60 ∧ IsEx H a (ca i) ∧ ∀ H' p, Ext H H' → H p = none → H' p = some (.lst (kinds i)) → Q (.ref p) H'
theorem ok_kinds (F : FnK K "_law_kinds_of" s_law_kinds_of f fd) (b : Bs mg) (cl : Exs P w K mg base exA ca) : FnOk P w K mg base CX0 1 f fd ["e"] (spKinds ca) := by
  refine F.ok sc_law_kinds_of (fun vs H Q E h => ?_) (fun cdv A outer s H vs Q E hr h => ?_)
  · obtain ⟨a, i, rfl, _⟩ := h
    rfl
  · obtain ⟨a, i, rfl, hi, hx, hq⟩ := h
    have hi : i < exA.length := hi
    refine ⟨_, PSs.nox (pss_cons (ps_set (i := 1) sc_law_kinds_of.nd rfl (.inr rfl) (pe_lst (pa_cons (pe_callB call_isY (by rfl) b.isinstance (by decide +kernel) (pa_cons (pv 0) (pa_cons (pe_glob (v := .ref (ca 12)) (by rfl) (cl.a1 12 "BadWanted" "index" rfl).1 rfl) pa_nil))) (pa_cons (pe_callB call_isY (by rfl) b.isinstance (by decide +kernel) (pa_cons (pv 0) (pa_cons (pe_glob (v := .ref (ca 13)) (by rfl) (cl.a1 13 "BadPrices" "prices" rfl).1 rfl) pa_nil))) (pa_cons (pe_callB call_isY (by rfl) b.isinstance (by decide +kernel) (pa_cons (pv 0) (pa_cons (pe_glob (v := .ref (ca 14)) (by rfl) (cl.a1 14 "BadOthers" "index" rfl).1 rfl) pa_nil))) (pa_cons (pe_callB call_isY (by rfl) b.isinstance (by decide +kernel) (pa_cons (pv 0) (pa_cons (pe_glob (v := .ref (ca 15)) (by rfl) (cl.a1 15 "BadUntrue" "index" rfl).1 rfl) pa_nil))) pa_nil))))))
      (pss_cons (ps_expr (pe_bm PySem.F.plainAttrs_list PySem.F.slot_list_extend PySem.F.type_list_extend mt_extend (pv 1) (pa_cons (pe_lst (pa_cons (pe_callB call_isY (by rfl) b.isinstance (by decide +kernel) (pa_cons (pv 0) (pa_cons (pe_glob (v := .ref (ca 16)) (by rfl) (cl.a1 16 "NotTogether" "untrue" rfl).1 rfl) pa_nil))) (pa_cons (pe_callB call_isY (by rfl) b.isinstance (by decide +kernel) (pa_cons (pv 0) (pa_cons (pe_glob (v := .ref (ca 17)) (by rfl) (cl.a1 17 "BadLinks" "index" rfl).1 rfl) pa_nil))) (pa_cons (pe_callB call_isY (by rfl) b.isinstance (by decide +kernel) (pa_cons (pv 0) (pa_cons (pe_glob (v := .ref (ca 18)) (by rfl) (cl.a1 18 "BadPartition" "partition" rfl).1 rfl) pa_nil))) (pa_cons (pe_callB call_isY (by rfl) b.isinstance (by decide +kernel) (pa_cons (pv 0) (pa_cons (pe_glob (v := .ref (ca 19)) (by rfl) (cl.a1 19 "BadWorlds" "count" rfl).1 rfl) pa_nil))) pa_nil))))) pa_nil)))
      (pss_cons (ps_expr (pe_bm PySem.F.plainAttrs_list PySem.F.slot_list_extend PySem.F.type_list_extend mt_extend (pv 1) (pa_cons (pe_lst (pa_cons (pe_callB call_isY (by rfl) b.isinstance (by decide +kernel) (pa_cons (pv 0) (pa_cons (pe_glob (v := .ref (ca 20)) (by rfl) (cl.a1 20 "BadViews" "told" rfl).1 rfl) pa_nil))) (pa_cons (pe_callB call_isY (by rfl) b.isinstance (by decide +kernel) (pa_cons (pv 0) (pa_cons (pe_glob (v := .ref (ca 21)) (by rfl) (cl.a1 21 "BadPeople" "people" rfl).1 rfl) pa_nil))) (pa_cons (pe_callB call_isY (by rfl) b.isinstance (by decide +kernel) (pa_cons (pv 0) (pa_cons (pe_glob (v := .ref (ca 22)) (by rfl) (cl.a1 22 "NoPerson" "word" rfl).1 rfl) pa_nil))) (pa_cons (pe_callB call_isY (by rfl) b.isinstance (by decide +kernel) (pa_cons (pv 0) (pa_cons (pe_glob (v := .ref (ca 23)) (by rfl) (cl.a1 23 "BadEvent" "event" rfl).1 rfl) pa_nil))) pa_nil))))) pa_nil)))
      (pss_cons (ps_expr (pe_bm PySem.F.plainAttrs_list PySem.F.slot_list_extend PySem.F.type_list_extend mt_extend (pv 1) (pa_cons (pe_lst (pa_cons (pe_callB call_isY (by rfl) b.isinstance (by decide +kernel) (pa_cons (pv 0) (pa_cons (pe_glob (v := .ref (ca 24)) (by rfl) (cl.a1 24 "BadWorld" "world" rfl).1 rfl) pa_nil))) (pa_cons (pe_callB call_isY (by rfl) b.isinstance (by decide +kernel) (pa_cons (pv 0) (pa_cons (pe_glob (v := .ref (ca 25)) (by rfl) (cl.a1 25 "BadGroup" "index" rfl).1 rfl) pa_nil))) (pa_cons (pe_callB call_isY (by rfl) b.isinstance (by decide +kernel) (pa_cons (pv 0) (pa_cons (pe_glob (v := .ref (ca 26)) (by rfl) (cl.a1 26 "BadMost" "most" rfl).1 rfl) pa_nil))) (pa_cons (pe_callB call_isY (by rfl) b.isinstance (by decide +kernel) (pa_cons (pv 0) (pa_cons (pe_glob (v := .ref (ca 27)) (by rfl) (cl.a1 27 "BadEdit" "edit" rfl).1 rfl) pa_nil))) pa_nil))))) pa_nil)))
      (pss_cons (ps_expr (pe_bm PySem.F.plainAttrs_list PySem.F.slot_list_extend PySem.F.type_list_extend mt_extend (pv 1) (pa_cons (pe_lst (pa_cons (pe_callB call_isY (by rfl) b.isinstance (by decide +kernel) (pa_cons (pv 0) (pa_cons (pe_glob (v := .ref (ca 28)) (by rfl) (cl.a1 28 "BadDesk" "desk" rfl).1 rfl) pa_nil))) (pa_cons (pe_callB call_isY (by rfl) b.isinstance (by decide +kernel) (pa_cons (pv 0) (pa_cons (pe_glob (v := .ref (ca 29)) (by rfl) (cl.a1 29 "BadDeskText" "line" rfl).1 rfl) pa_nil))) (pa_cons (pe_callB call_isY (by rfl) b.isinstance (by decide +kernel) (pa_cons (pv 0) (pa_cons (pe_glob (v := .ref (ca 30)) (by rfl) (cl.a0 30 "NothingToUndo" rfl).1 rfl) pa_nil))) (pa_cons (pe_callB call_isY (by rfl) b.isinstance (by decide +kernel) (pa_cons (pv 0) (pa_cons (pe_glob (v := .ref (ca 31)) (by rfl) (cl.a0 31 "NothingToRedo" rfl).1 rfl) pa_nil))) pa_nil))))) pa_nil)))
      (pss_one (ps_ret (pe_lc (own := [("k", 2)]) (g := (gName 2)) rfl sc_law_kinds_of.nd (pi_range1 (by rfl) b.range (pa_cons pe_int pa_nil)) (blkOk_by (N := ["e", "told", "k"]) (sc := defScope s_law_kinds_of) (by decide +kernel)) (fun _ _ _ _ _ => (pg_name (i := 2) sc_law_kinds_of.nd rfl (.inl rfl) (.inr rfl))) (fun _ _ _ _ _ => pts_one (pt_val (pe_ix (show IxR _ (rIxL K) from ix_list) (pv 1) (pv 2) (fun _ _ => rfl)))) (fun _ _ _ _ _ => (pv 2)))))))))), ?_⟩
    repeat walk_at "s1"
    intro t nt
    generalize hH1 : upd H t (HO.lst _) = H1
    have E1 : Ext H H1 := hH1 ▸ ext_new (fun _ _ z => z) nt
    have e1 := (congrFun hH1 t).symm.trans upd_same
    have hx1 := hx.ext E1
    clear hH1
    repeat walk_at "s1"
    refine ⟨.inl ⟨rfl, _, .inl (.inl e1)⟩, ?_⟩
    repeat walk_at "s1"
    intro u1 nu
    have nut : t ≠ u1 := ne_of_none e1 nu
    repeat walk_at "s1"
    refine ⟨t, u1, _, _, rfl, rfl, (upd_ne nut).trans e1, upd_same, by walk_at "cond", ?_⟩
    generalize hH2 : upd (upd H1 u1 (HO.lst _)) t (HO.lst _) = H2
    have E2 : Ext H H2 := hH2 ▸ fun c o h => (upd_ne (ne_of_none h nt)).trans (ext_new E1 nu c o h)
    have e2 := (congrFun hH2 t).symm.trans upd_same
    have hx2 := hx.ext E2
    clear hH2 nut nu hx1
    repeat walk_at "s1"
    refine ⟨.inl ⟨rfl, _, .inl (.inl e2)⟩, ?_⟩
    repeat walk_at "s1"
    intro u2 nu
    have nut : t ≠ u2 := ne_of_none e2 nu
    repeat walk_at "s1"
    refine ⟨t, u2, _, _, rfl, rfl, (upd_ne nut).trans e2, upd_same, by walk_at "cond", ?_⟩
    generalize hH3 : upd (upd H2 u2 (HO.lst _)) t (HO.lst _) = H3
    have E3 : Ext H H3 := hH3 ▸ fun c o h => (upd_ne (ne_of_none h nt)).trans (ext_new E2 nu c o h)
    have e3 := (congrFun hH3 t).symm.trans upd_same
    have hx3 := hx.ext E3
    clear hH3 nut nu hx2
    repeat walk_at "s1"
    refine ⟨.inl ⟨rfl, _, .inl (.inl e3)⟩, ?_⟩
    repeat walk_at "s1"
    intro u3 nu
    have nut : t ≠ u3 := ne_of_none e3 nu
    repeat walk_at "s1"
    refine ⟨t, u3, _, _, rfl, rfl, (upd_ne nut).trans e3, upd_same, by walk_at "cond", ?_⟩
    generalize hH4 : upd (upd H3 u3 (HO.lst _)) t (HO.lst _) = H4
    have E4 : Ext H H4 := hH4 ▸ fun c o h => (upd_ne (ne_of_none h nt)).trans (ext_new E3 nu c o h)
    have e4 := (congrFun hH4 t).symm.trans upd_same
    have hx4 := hx.ext E4
    clear hH4 nut nu hx3
    repeat walk_at "s1"
    refine ⟨.inl ⟨rfl, _, .inl (.inl e4)⟩, ?_⟩
    repeat walk_at "s1"
    intro u4 nu
    have nut : t ≠ u4 := ne_of_none e4 nu
    repeat walk_at "s1"
    refine ⟨t, u4, _, _, rfl, rfl, (upd_ne nut).trans e4, upd_same, by walk_at "cond", ?_⟩
    generalize hH5 : upd (upd H4 u4 (HO.lst _)) t (HO.lst _) = H5
    have E5 : Ext H H5 := hH5 ▸ fun c o h => (upd_ne (ne_of_none h nt)).trans (ext_new E4 nu c o h)
    have e5 : H5 t = some (.lst (kix.map fun j => V.bl (decide (j = i ∨ j = 0)))) := (congrFun hH5 t).symm.trans upd_same
    have hx5 := hx.ext E5
    clear hH5 nut nu hx4
    repeat walk_at "s1"
    intro D nD
    have ntD : t ≠ D := ne_of_none e5 nD
    have hD : H D = none := by
      cases q : H D with
      | none => rfl
      | some o => rw [E5 _ _ q] at nD; cases nD
    refine lc_it walk_range (fun k H' => Ext H H' ∧ H' t = some (.lst (kix.map fun j => V.bl (decide (j = i ∨ j = 0)))) ∧ H' D = some (.lst (((List.range k).filter (tb i)).map fun (k : Nat) => V.int (k : Int)))) ⟨ext_new E5 nD, (upd_ne ntD).trans e5, upd_same⟩ (fun k H' _ z => trivial) (fun k x H4 H5 hk z y => ?_) (fun H' z => ?_)
    · obtain ⟨ex, et, eD⟩ := z
      obtain ⟨rfl, hxk⟩ := y
      have hk : k < 20 := hk
      obtain rfl : x = V.int (k : Int) := hxk.trans (congrArg V.int (by omega))
      refine ⟨rfl, ?_⟩
      repeat walk_at "s1"
      refine r_ixL et (atI_nat (tb_at hk)) ?_
      repeat walk_at "s1"
      refine iteE (fun e => ?_) (fun e => ?_)
      · repeat walk_at "s1"
        refine ⟨_, eD, by rw [List.length_map]; exact small1000 (Nat.le_trans (List.length_filter_le _ _) (by rw [List.length_range]; omega)), fun c o h => (upd_ne (ne_of_none h hD)).trans (ex c o h), (upd_ne ntD).trans et, ?_⟩
        rw [upd_same, List.range_succ, List.filter_append, List.map_append]
        simp [e]
      · refine ⟨ex, et, ?_⟩
        rw [eD, List.range_succ, List.filter_append, List.map_append]
        simp [e]
    · obtain ⟨ex, et, eD⟩ := z
      exact hq _ _ ex hD eD
end
end K95


namespace K95
open PySem PySem.Spec PyProof.Rows L2
local macro_rules | `(tactic| walk_at "ty") => `(tactic| first | exact .old (.base (.int _)) | exact .old (.base (.str _)) | exact .old (.base .non) | exact .old (.base (.bl _)) | exact .old (.base (.lst (by walk_at "hp"))) | exact .old (.base (.tup (by walk_at "hp"))) | exact .old (.base (.dK (by walk_at "hp"))))
local macro_rules | `(tactic| walk_at "hne") => `(tactic| first | assumption | exact Ne.symm (by assumption) | (refine' ne_of_none ?hn1 ?hn2; rotate_left; (case hn2 => assumption); (case hn1 => walk_at "hp")) | (refine' Ne.symm (ne_of_none ?hn1 ?hn2); rotate_left; (case hn2 => assumption); (case hn1 => walk_at "hp")))
local macro_rules | `(tactic| walk_at "hp") => `(tactic| first | exact upd_same | assumption | (refine' (upd_ne ?hpn).trans ?hpg; (case hpn => walk_at "hne"); (case hpg => walk_at "hp")))
local macro_rules | `(tactic| walk_at "cond") => `(tactic| first | omega | decide | assumption | exact Nat.le_of_lt (small1000 (by simp)))
local macro_rules | `(tactic| walk_at "s1") => `(tactic| first
  | with_reducible refine u_var rfl ?_
  | with_reducible refine u_op ?_
  | with_reducible refine u_un ?_
  | with_reducible refine u_cb ?_
  | with_reducible refine u_nil ?_
  | with_reducible refine u_cons ?_
  | with_reducible refine u_asg ?_
  | with_reducible refine u_name ?_
  | with_reducible refine u_sub ?_
  | with_reducible refine u_seq ?_
  | with_reducible refine u_ret ?_
  | with_reducible refine u_next ?_
  | with_reducible refine u_drop ?_
  | with_reducible refine u_test ?_
  | with_reducible refine u_b ?_
  | with_reducible refine u_ifS ?_
  | with_reducible refine u_if ?_
  | with_reducible refine u_and ?_
  | with_reducible refine u_or ?_
  | with_reducible refine u_not ?_
  | with_reducible refine u_andV ?_
  | with_reducible refine u_orV ?_
  | with_reducible refine u_notV ?_
  | with_reducible refine u_tup ?_
  | with_reducible refine u_lst ?_
  | with_reducible refine u_call ?_
  | with_reducible refine u_bm ?_
  | with_reducible refine u_bm0 ?_
  | with_reducible refine u_yes ?_
  | with_reducible refine u_c ?_
  | with_reducible refine u_bl ?_
  | ((with_reducible refine' iteF' ?hc ?_); (case hc => first | rfl | simp; done))
  | ((with_reducible refine' iteT' ?hc ?_); (case hc => first | rfl | simp; done))
  | with_reducible refine r_I0 ?_
  | with_reducible refine r_I (by walk_at "cond") ?_
  | refine r_I (show CDiv _ _ from ⟨by omega, by omega⟩) ?_
  | refine r_I (show CMul _ _ from .inl ⟨by omega, by omega⟩) ?_
  | refine r_I (show CMul _ _ from .inr ⟨by omega, by omega⟩) ?_
  | refine r_I (show CPow _ _ from ⟨by omega, by omega, by omega⟩) ?_
  | with_reducible refine r_U ?_
  | with_reducible refine r_Eq rfl ?_
  | with_reducible refine r_Ne rfl ?_
  | ((with_reducible refine' r_ixL ?hx ?he ?_); (case hx => walk_at "hp"); (case he => rfl))
  | ((with_reducible refine' r_ixT ?hx ?he ?_); (case hx => walk_at "hp"); (case he => rfl))
  | ((with_reducible refine' r_setL ?hx ?he ?_); (case hx => walk_at "hp"); (case he => rfl))
  | with_reducible refine r_isN ?_
  | with_reducible refine u_mk0 ?_
  | with_reducible refine u_mkE ?_
  | with_reducible refine u_xf ?_
  | ((with_reducible refine' r_isE ?hcl ?hx ?hi ?hj ?_); (case hcl => assumption); (case hx => assumption); (case hi => assumption); (case hj => decide))
  | ((with_reducible refine' r_isB (r := true) ?hx ?he ?_); (case hx => walk_at "ty"); (case he => decide +kernel))
  | ((with_reducible refine' r_isB (r := false) ?hx ?he ?_); (case hx => walk_at "ty"); (case he => decide +kernel))
  | with_reducible refine And.intro (by walk_at "cond") ?_
  | refine ⟨_, rfl, ?_⟩
  | refine ⟨_, _, rfl, ?_⟩
  | refine .inl ⟨_, rfl, ?_⟩)
local macro_rules | `(tactic| walk_at "mkas") => `(tactic| first | exact mka_nil | (refine mka_cons rfl ?_; walk_at "mkas") | (refine mka_cons0 ?_; walk_at "mkas"))
def jss : List (List Nat) := [[1, 2, 3, 4, 5, 6, 7, 8, 9], [10, 11, 32, 33, 34, 35, 36, 37, 38], [39, 40, 41, 42, 43, 44, 45, 46, 47], [48, 49, 50, 51, 52, 53, 54, 55, 56], [57, 58, 59]]
def oth (i : Nat) : Bool := inV (.bl true) (jss.map fun js => V.bl (js.any fun j => decide (j = i ∨ j = 0)))
theorem oth_own : ∀ k : _root_.Fin 20, oth (kix.getD k.val 0) = false := by decide +kernel
theorem sc_law_is_other : FnScope ["e", "told"] ["e"] (defScope s_law_is_other) := ⟨rfl, rfl, rfl, by decide +kernel, rfl, by decide +kernel, by decide +kernel⟩
section
variable {P : Program} {w : World} {K : PySem.W.Frag} {mg : Str → Option Value} {base : Heap} {f : Addr} {fd : FuncData} {ca : Nat → Addr}
def spOther (ca : Nat → Addr) : Sp := fun vs H Q _ => ∃ (a : Addr) (i : Nat), vs = [.ref a] ∧ i < 60 ∧ IsEx H a (ca i) ∧ ∀ H', Ext H H' → Q (.bl (oth i)) H'
theorem ok_other (F : FnK K "_law_is_other" s_law_is_other f fd) (b : Bs mg) (cl : Exs P w K mg base exA ca) : FnOk P w K mg base CX0 1 f fd ["e"] (spOther ca) := by
  refine F.ok sc_law_is_other (fun vs H Q E h => ?_) (fun cdv A outer s H vs Q E hr h => ?_)
  · obtain ⟨a, i, rfl, _⟩ := h
    rfl
  · obtain ⟨a, i, rfl, hi, hx, hq⟩ := h
    have hi : i < exA.length := hi
    refine ⟨_, PSs.nox (pss_cons (ps_set (i := 1) sc_law_is_other.nd rfl (.inl rfl) (pe_lst (pa_cons (pe_callB call_isYT (by rfl) b.isinstance (by decide +kernel) (pa_cons (pv 0) (pa_cons (pe_tup (pa_cons (pe_glob (v := .ref (ca 1)) (by rfl) (cl.a1 1 "BadRows" "rows" rfl).1 rfl) (pa_cons (pe_glob (v := .ref (ca 2)) (by rfl) (cl.a1 2 "BadOther" "other" rfl).1 rfl) (pa_cons (pe_glob (v := .ref (ca 3)) (by rfl) (cl.a1 3 "BadWhy" "why" rfl).1 rfl) (pa_cons (pe_glob (v := .ref (ca 4)) (by rfl) (cl.a1 4 "BadNames" "words" rfl).1 rfl) (pa_cons (pe_glob (v := .ref (ca 5)) (by rfl) (cl.a1 5 "BadLength" "length" rfl).1 rfl) (pa_cons (pe_glob (v := .ref (ca 6)) (by rfl) (cl.a1 6 "BadAnswer" "answer" rfl).1 rfl) (pa_cons (pe_glob (v := .ref (ca 7)) (by rfl) (cl.a1 7 "BadWholeText" "line" rfl).1 rfl) (pa_cons (pe_glob (v := .ref (ca 8)) (by rfl) (cl.a1 8 "NotHeld" "index" rfl).1 rfl) (pa_cons (pe_glob (v := .ref (ca 9)) (by rfl) (cl.a1 9 "NotFailing" "pair" rfl).1 rfl) pa_nil)))))))))) pa_nil))) pa_nil)))
      (pss_cons (ps_expr (pe_bm PySem.F.plainAttrs_list PySem.F.slot_list_append PySem.F.type_list_append mt_append (pv 1) (pa_cons (pe_callB call_isYT (by rfl) b.isinstance (by decide +kernel) (pa_cons (pv 0) (pa_cons (pe_tup (pa_cons (pe_glob (v := .ref (ca 10)) (by rfl) (cl.a1 10 "BadLow" "low" rfl).1 rfl) (pa_cons (pe_glob (v := .ref (ca 11)) (by rfl) (cl.a1 11 "BadHigh" "high" rfl).1 rfl) (pa_cons (pe_glob (v := .ref (ca 32)) (by rfl) (cl.a1 32 "BadTerm" "term" rfl).1 rfl) (pa_cons (pe_glob (v := .ref (ca 33)) (by rfl) (cl.a1 33 "BadPair" "pair" rfl).1 rfl) (pa_cons (pe_glob (v := .ref (ca 34)) (by rfl) (cl.a1 34 "BadHypotheses" "index" rfl).1 rfl) (pa_cons (pe_glob (v := .ref (ca 35)) (by rfl) (cl.a1 35 "BadTerms" "index" rfl).1 rfl) (pa_cons (pe_glob (v := .ref (ca 36)) (by rfl) (cl.a1 36 "BadMany" "many" rfl).1 rfl) (pa_cons (pe_glob (v := .ref (ca 37)) (by rfl) (cl.a1 37 "BadRules" "index" rfl).1 rfl) (pa_cons (pe_glob (v := .ref (ca 38)) (by rfl) (cl.a1 38 "BadSets" "sets" rfl).1 rfl) pa_nil)))))))))) pa_nil))) pa_nil)))
      (pss_cons (ps_expr (pe_bm PySem.F.plainAttrs_list PySem.F.slot_list_append PySem.F.type_list_append mt_append (pv 1) (pa_cons (pe_callB call_isYT (by rfl) b.isinstance (by decide +kernel) (pa_cons (pv 0) (pa_cons (pe_tup (pa_cons (pe_glob (v := .ref (ca 39)) (by rfl) (cl.a1 39 "BadCase" "case" rfl).1 rfl) (pa_cons (pe_glob (v := .ref (ca 40)) (by rfl) (cl.a1 40 "BadPoints" "points" rfl).1 rfl) (pa_cons (pe_glob (v := .ref (ca 41)) (by rfl) (cl.a1 41 "NoName" "word" rfl).1 rfl) (pa_cons (pe_glob (v := .ref (ca 42)) (by rfl) (cl.a1 42 "BadRule" "head" rfl).1 rfl) (pa_cons (pe_glob (v := .ref (ca 43)) (by rfl) (cl.a1 43 "BadTermText" "place" rfl).1 rfl) (pa_cons (pe_glob (v := .ref (ca 44)) (by rfl) (cl.a1 44 "BadPairsText" "line" rfl).1 rfl) (pa_cons (pe_glob (v := .ref (ca 45)) (by rfl) (cl.a1 45 "BadCaseText" "line" rfl).1 rfl) (pa_cons (pe_glob (v := .ref (ca 46)) (by rfl) (cl.a1 46 "BadValues" "given" rfl).1 rfl) (pa_cons (pe_glob (v := .ref (ca 47)) (by rfl) (cl.a1 47 "NoValue" "word" rfl).1 rfl) pa_nil)))))))))) pa_nil))) pa_nil)))
      (pss_cons (ps_expr (pe_bm PySem.F.plainAttrs_list PySem.F.slot_list_append PySem.F.type_list_append mt_append (pv 1) (pa_cons (pe_callB call_isYT (by rfl) b.isinstance (by decide +kernel) (pa_cons (pv 0) (pa_cons (pe_tup (pa_cons (pe_glob (v := .ref (ca 48)) (by rfl) (cl.a1 48 "WrongNames" "index" rfl).1 rfl) (pa_cons (pe_glob (v := .ref (ca 49)) (by rfl) (cl.a1 49 "BadPairs" "index" rfl).1 rfl) (pa_cons (pe_glob (v := .ref (ca 50)) (by rfl) (cl.a1 50 "NotOrder" "members" rfl).1 rfl) (pa_cons (pe_glob (v := .ref (ca 51)) (by rfl) (cl.a1 51 "NotLattice" "members" rfl).1 rfl) (pa_cons (pe_glob (v := .ref (ca 52)) (by rfl) (cl.a1 52 "BadLattice" "lattice" rfl).1 rfl) (pa_cons (pe_glob (v := .ref (ca 53)) (by rfl) (cl.a1 53 "BadElement" "element" rfl).1 rfl) (pa_cons (pe_glob (v := .ref (ca 54)) (by rfl) (cl.a1 54 "BadElements" "index" rfl).1 rfl) (pa_cons (pe_glob (v := .ref (ca 55)) (by rfl) (cl.a1 55 "BadTold" "told" rfl).1 rfl) (pa_cons (pe_glob (v := .ref (ca 56)) (by rfl) (cl.a1 56 "BadGiven" "given" rfl).1 rfl) pa_nil)))))))))) pa_nil))) pa_nil)))
      (pss_cons (ps_expr (pe_bm PySem.F.plainAttrs_list PySem.F.slot_list_append PySem.F.type_list_append mt_append (pv 1) (pa_cons (pe_callB call_isYT (by rfl) b.isinstance (by decide +kernel) (pa_cons (pv 0) (pa_cons (pe_tup (pa_cons (pe_glob (v := .ref (ca 57)) (by rfl) (cl.a1 57 "NoElement" "word" rfl).1 rfl) (pa_cons (pe_glob (v := .ref (ca 58)) (by rfl) (cl.a1 58 "BadWords" "words" rfl).1 rfl) (pa_cons (pe_glob (v := .ref (ca 59)) (by rfl) (cl.a1 59 "BadPut" "given" rfl).1 rfl) pa_nil)))) pa_nil))) pa_nil)))
      (pss_one (ps_ret (pe_cmpR op_in_seq pe_bl (pv 1) (by rfl))))))))), ?_⟩
    repeat walk_at "s1"
    intro q nq
    generalize hG : upd H q (HO.tup _) = G
    have EG : Ext H G := hG ▸ ext_new (fun _ _ z => z) nq
    have eq := (congrFun hG q).symm.trans upd_same
    have hxG := hx.ext EG
    clear hG
    repeat walk_at "s1"
    refine r_isET cl hxG hi [1, 2, 3, 4, 5, 6, 7, 8, 9] (by decide) eq ?_
    repeat walk_at "s1"
    intro t nt'
    have nt : H t = none := by
      cases z : H t with
      | none => rfl
      | some o => rw [EG _ _ z] at nt'; cases nt'
    generalize hH1 : upd G t (HO.lst _) = H1
    have E1 : Ext H H1 := hH1 ▸ ext_new EG nt'
    have e1 := (congrFun hH1 t).symm.trans upd_same
    have hx1 := hx.ext E1
    clear hH1 EG hxG eq nq nt'
    clear q G
    repeat walk_at "s1"
    refine ⟨.inl ⟨rfl, _, .inl (.inl e1)⟩, ?_⟩
    repeat walk_at "s1"
    intro q nq
    generalize hG : upd H1 q (HO.tup _) = G
    have EG : Ext H1 G := hG ▸ ext_new (fun _ _ z => z) nq
    have eq := (congrFun hG q).symm.trans upd_same
    have hxG := hx1.ext EG
    have eG := EG _ _ e1
    clear hG
    repeat walk_at "s1"
    refine r_isET cl hxG hi [10, 11, 32, 33, 34, 35, 36, 37, 38] (by decide) eq ?_
    repeat walk_at "s1"
    refine ⟨t, _, _, rfl, rfl, eG, by walk_at "cond", ?_⟩
    generalize hH2 : upd G t (HO.lst _) = H2
    have E2 : Ext H H2 := hH2 ▸ fun c o h => (upd_ne (ne_of_none h nt)).trans (EG c o (E1 c o h))
    have e2 := (congrFun hH2 t).symm.trans upd_same
    have hx2 := hx.ext E2
    clear hH2 EG eG hxG eq nq
    clear q
    repeat walk_at "s1"
    refine ⟨.inl ⟨rfl, _, .inl (.inl e2)⟩, ?_⟩
    repeat walk_at "s1"
    intro q nq
    generalize hG : upd H2 q (HO.tup _) = G
    have EG : Ext H2 G := hG ▸ ext_new (fun _ _ z => z) nq
    have eq := (congrFun hG q).symm.trans upd_same
    have hxG := hx2.ext EG
    have eG := EG _ _ e2
    clear hG
    repeat walk_at "s1"
    refine r_isET cl hxG hi [39, 40, 41, 42, 43, 44, 45, 46, 47] (by decide) eq ?_
    repeat walk_at "s1"
    refine ⟨t, _, _, rfl, rfl, eG, by walk_at "cond", ?_⟩
    generalize hH3 : upd G t (HO.lst _) = H3
    have E3 : Ext H H3 := hH3 ▸ fun c o h => (upd_ne (ne_of_none h nt)).trans (EG c o (E2 c o h))
    have e3 := (congrFun hH3 t).symm.trans upd_same
    have hx3 := hx.ext E3
    clear hH3 EG eG hxG eq nq
    clear q
    repeat walk_at "s1"
    refine ⟨.inl ⟨rfl, _, .inl (.inl e3)⟩, ?_⟩
    repeat walk_at "s1"
    intro q nq
    generalize hG : upd H3 q (HO.tup _) = G
    have EG : Ext H3 G := hG ▸ ext_new (fun _ _ z => z) nq
    have eq := (congrFun hG q).symm.trans upd_same
    have hxG := hx3.ext EG
    have eG := EG _ _ e3
    clear hG
    repeat walk_at "s1"
    refine r_isET cl hxG hi [48, 49, 50, 51, 52, 53, 54, 55, 56] (by decide) eq ?_
    repeat walk_at "s1"
    refine ⟨t, _, _, rfl, rfl, eG, by walk_at "cond", ?_⟩
    generalize hH4 : upd G t (HO.lst _) = H4
    have E4 : Ext H H4 := hH4 ▸ fun c o h => (upd_ne (ne_of_none h nt)).trans (EG c o (E3 c o h))
    have e4 := (congrFun hH4 t).symm.trans upd_same
    have hx4 := hx.ext E4
    clear hH4 EG eG hxG eq nq
    clear q
    repeat walk_at "s1"
    refine ⟨.inl ⟨rfl, _, .inl (.inl e4)⟩, ?_⟩
    repeat walk_at "s1"
    intro q nq
    generalize hG : upd H4 q (HO.tup _) = G
    have EG : Ext H4 G := hG ▸ ext_new (fun _ _ z => z) nq
    have eq := (congrFun hG q).symm.trans upd_same
    have hxG := hx4.ext EG
    have eG := EG _ _ e4
    clear hG
    repeat walk_at "s1"
    refine r_isET cl hxG hi [57, 58, 59] (by decide) eq ?_
    repeat walk_at "s1"
    refine ⟨t, _, _, rfl, rfl, eG, by walk_at "cond", ?_⟩
    generalize hH5 : upd G t (HO.lst _) = H5
    have E5 : Ext H H5 := hH5 ▸ fun c o h => (upd_ne (ne_of_none h nt)).trans (EG c o (E4 c o h))
    have e5 := (congrFun hH5 t).symm.trans upd_same
    have hx5 := hx.ext E5
    clear hH5 EG eG hxG eq nq
    clear q
    repeat walk_at "s1"
    exact ⟨t, _, rfl, .inl (.inl (.inl e5)), rfl, rfl, hq _ E5⟩
end
end K95


namespace K95
open PySem PySem.Spec PyProof.Rows L2
local macro_rules | `(tactic| walk_at "ty") => `(tactic| first | exact .old (.base (.int _)) | exact .old (.base (.str _)) | exact .old (.base .non) | exact .old (.base (.bl _)) | exact .old (.base (.lst (by walk_at "hp"))) | exact .old (.base (.tup (by walk_at "hp"))) | exact .old (.base (.dK (by walk_at "hp"))))
local macro_rules | `(tactic| walk_at "hne") => `(tactic| first | assumption | exact Ne.symm (by assumption) | (refine' ne_of_none ?hn1 ?hn2; rotate_left; (case hn2 => assumption); (case hn1 => walk_at "hp")) | (refine' Ne.symm (ne_of_none ?hn1 ?hn2); rotate_left; (case hn2 => assumption); (case hn1 => walk_at "hp")))
local macro_rules | `(tactic| walk_at "hp") => `(tactic| first | exact upd_same | assumption | (refine' (upd_ne ?hpn).trans ?hpg; (case hpn => walk_at "hne"); (case hpg => walk_at "hp")))
local macro_rules | `(tactic| walk_at "cond") => `(tactic| first | omega | decide | assumption | exact Nat.le_of_lt (small1000 (by simp)))
local macro_rules | `(tactic| walk_at "s1") => `(tactic| first
  | with_reducible refine u_var rfl ?_
  | with_reducible refine u_op ?_
  | with_reducible refine u_un ?_
  | with_reducible refine u_cb ?_
  | with_reducible refine u_nil ?_
  | with_reducible refine u_cons ?_
  | with_reducible refine u_asg ?_
  | with_reducible refine u_name ?_
  | with_reducible refine u_sub ?_
  | with_reducible refine u_seq ?_
  | with_reducible refine u_ret ?_
  | with_reducible refine u_next ?_
  | with_reducible refine u_drop ?_
  | with_reducible refine u_test ?_
  | with_reducible refine u_b ?_
  | with_reducible refine u_ifS ?_
  | with_reducible refine u_if ?_
  | with_reducible refine u_and ?_
  | with_reducible refine u_or ?_
  | with_reducible refine u_not ?_
  | with_reducible refine u_andV ?_
  | with_reducible refine u_orV ?_
  | with_reducible refine u_notV ?_
  | with_reducible refine u_tup ?_
  | with_reducible refine u_lst ?_
  | with_reducible refine u_call ?_
  | with_reducible refine u_bm ?_
  | with_reducible refine u_bm0 ?_
  | with_reducible refine u_yes ?_
  | with_reducible refine u_c ?_
  | with_reducible refine u_bl ?_
  | ((with_reducible refine' iteF' ?hc ?_); (case hc => first | rfl | simp; done))
  | ((with_reducible refine' iteT' ?hc ?_); (case hc => first | rfl | simp; done))
  | with_reducible refine r_I0 ?_
  | with_reducible refine r_I (by walk_at "cond") ?_
  | refine r_I (show CDiv _ _ from ⟨by omega, by omega⟩) ?_
  | refine r_I (show CMul _ _ from .inl ⟨by omega, by omega⟩) ?_
  | refine r_I (show CMul _ _ from .inr ⟨by omega, by omega⟩) ?_
  | refine r_I (show CPow _ _ from ⟨by omega, by omega, by omega⟩) ?_
  | with_reducible refine r_U ?_
  | with_reducible refine r_Eq rfl ?_
  | with_reducible refine r_Ne rfl ?_
  | ((with_reducible refine' r_ixL ?hx ?he ?_); (case hx => walk_at "hp"); (case he => rfl))
  | ((with_reducible refine' r_ixT ?hx ?he ?_); (case hx => walk_at "hp"); (case he => rfl))
  | ((with_reducible refine' r_setL ?hx ?he ?_); (case hx => walk_at "hp"); (case he => rfl))
  | with_reducible refine r_isN ?_
  | with_reducible refine u_mk0 ?_
  | with_reducible refine u_mkE ?_
  | with_reducible refine u_xf ?_
  | ((with_reducible refine' r_isE ?hcl ?hx ?hi ?hj ?_); (case hcl => assumption); (case hx => assumption); (case hi => assumption); (case hj => decide))
  | ((with_reducible refine' r_isB (r := true) ?hx ?he ?_); (case hx => walk_at "ty"); (case he => decide +kernel))
  | ((with_reducible refine' r_isB (r := false) ?hx ?he ?_); (case hx => walk_at "ty"); (case he => decide +kernel))
  | with_reducible refine And.intro (by walk_at "cond") ?_
  | refine ⟨_, rfl, ?_⟩
  | refine ⟨_, _, rfl, ?_⟩
  | refine .inl ⟨_, rfl, ?_⟩)
local macro_rules | `(tactic| walk_at "mkas") => `(tactic| first | exact mka_nil | (refine mka_cons rfl ?_; walk_at "mkas") | (refine mka_cons0 ?_; walk_at "mkas"))
/-- errors of the other files -/
def Errs (H : Hp) (ca : Nat → Addr) (as : List Addr) : Prop := ∀ a ∈ as, ∃ i, i < 60 ∧ ¬ i ∈ kix ∧ IsEx H a (ca i)
theorem Errs.ext {H H' : Hp} {ca : Nat → Addr} {as : List Addr} (e : Ext H H') (h : Errs H ca as) : Errs H' ca as := fun a ha => by
  obtain ⟨i, h1, h2, h3⟩ := h a ha
  exact ⟨i, h1, h2, h3.ext e⟩
theorem Errs.append {H H' : Hp} {ca : Nat → Addr} {as bs : List Addr} (h : Errs H ca as) (e : Ext H H') (h2 : Errs H' ca bs) : Errs H' ca (as ++ bs) := fun a ha => by
  rcases List.mem_append.mp ha with z | z
  · exact h.ext e a z
  · exact h2 a z
theorem Errs.mut {G : Hp} {ca : Nat → Addr} {as : List Addr} {t u : Addr} {xs : List V} {o o' : HO} (h : Errs G ca as) (ne : t ≠ u) (e : G t = some (.lst xs)) (nu : G u = none) : Errs (upd (upd G u o) t o') ca as := fun a ha => by
  obtain ⟨i, h1, h2, h3⟩ := (h.ext (ext_new (o := o) (fun _ _ z => z) nu)) a ha
  exact ⟨i, h1, h2, h3.mutL ((upd_ne ne).trans e)⟩
theorem errs_of {H : Hp} {ca : Nat → Addr} {as : List Addr} {js : List Nat} (hj : ∀ j ∈ js, j < 60 ∧ ¬ j ∈ kix) (hl : as.length = js.length) (h : ∀ (k : Nat) (a : Addr) (j : Nat), as[k]? = some a → js[k]? = some j → IsEx H a (ca j)) : Errs H ca as := fun a ha => by
  obtain ⟨k, hk, e⟩ := List.mem_iff_getElem.mp ha
  have hk2 : k < js.length := by omega
  have z := hj js[k] (List.getElem_mem hk2)
  exact ⟨js[k], z.1, z.2, h k a _ (by rw [List.getElem?_eq_getElem hk, e]) (List.getElem?_eq_getElem hk2)⟩
theorem sc_law_others : FnScope ["x", "told"] ["x"] (defScope s_law_others) := ⟨rfl, rfl, rfl, by decide +kernel, rfl, by decide +kernel, by decide +kernel⟩
section
variable {P : Program} {w : World} {K : PySem.W.Frag} {mg : Str → Option Value} {base : Heap} {f : Addr} {fd : FuncData} {ca : Nat → Addr}
def spOthers (ca : Nat → Addr) : Sp := fun vs H Q _ => ∃ x, vs = [x] ∧ ∀ H' p as, Ext H H' → H p = none → H' p = some (.lst (as.map V.ref)) → as.length ≤ 100 → Errs H' ca as → Q (.ref p) H'
theorem ok_others (F : FnK K "_law_others" s_law_others f fd) (b : Bs mg) (cl : Exs P w K mg base exA ca) : FnOk P w K mg base CX0 3 f fd ["x"] (spOthers ca) := by
  refine F.ok sc_law_others (fun vs H Q E h => ?_) (fun cdv A outer s H vs Q E hr h => ?_)
  · obtain ⟨x, rfl, _⟩ := h
    rfl
  · obtain ⟨x, rfl, hq⟩ := h
    refine ⟨_, PSs.nox (pss_cons (ps_set (i := 1) sc_law_others.nd rfl (.inl rfl) (pe_lst (pa_cons (pe_mkE (cl.a1 1 "BadRows" "rows" rfl).2 (hr.mono (by omega)) (by rfl) (cl.a1 1 "BadRows" "rows" rfl).1 (pa_cons (pv 0) pa_nil)) (pa_cons (pe_mkE (cl.a1 2 "BadOther" "other" rfl).2 (hr.mono (by omega)) (by rfl) (cl.a1 2 "BadOther" "other" rfl).1 (pa_cons (pv 0) pa_nil)) (pa_cons (pe_mkE (cl.a1 3 "BadWhy" "why" rfl).2 (hr.mono (by omega)) (by rfl) (cl.a1 3 "BadWhy" "why" rfl).1 (pa_cons (pv 0) pa_nil)) (pa_cons (pe_mkE (cl.a1 4 "BadNames" "words" rfl).2 (hr.mono (by omega)) (by rfl) (cl.a1 4 "BadNames" "words" rfl).1 (pa_cons (pv 0) pa_nil)) (pa_cons (pe_mkE (cl.a1 5 "BadLength" "length" rfl).2 (hr.mono (by omega)) (by rfl) (cl.a1 5 "BadLength" "length" rfl).1 (pa_cons (pv 0) pa_nil)) (pa_cons (pe_mkE (cl.a1 6 "BadAnswer" "answer" rfl).2 (hr.mono (by omega)) (by rfl) (cl.a1 6 "BadAnswer" "answer" rfl).1 (pa_cons (pv 0) pa_nil)) (pa_cons (pe_mkE (cl.a1 7 "BadWholeText" "line" rfl).2 (hr.mono (by omega)) (by rfl) (cl.a1 7 "BadWholeText" "line" rfl).1 (pa_cons (pv 0) pa_nil)) (pa_cons (pe_mkE (cl.a1 8 "NotHeld" "index" rfl).2 (hr.mono (by omega)) (by rfl) (cl.a1 8 "NotHeld" "index" rfl).1 (pa_cons (pv 0) pa_nil)) pa_nil))))))))))
      (pss_cons (ps_expr (pe_bm PySem.F.plainAttrs_list PySem.F.slot_list_extend PySem.F.type_list_extend mt_extend (pv 1) (pa_cons (pe_lst (pa_cons (pe_mkE (cl.a1 9 "NotFailing" "pair" rfl).2 (hr.mono (by omega)) (by rfl) (cl.a1 9 "NotFailing" "pair" rfl).1 (pa_cons (pv 0) pa_nil)) (pa_cons (pe_mkE (cl.a1 10 "BadLow" "low" rfl).2 (hr.mono (by omega)) (by rfl) (cl.a1 10 "BadLow" "low" rfl).1 (pa_cons (pv 0) pa_nil)) (pa_cons (pe_mkE (cl.a1 11 "BadHigh" "high" rfl).2 (hr.mono (by omega)) (by rfl) (cl.a1 11 "BadHigh" "high" rfl).1 (pa_cons (pv 0) pa_nil)) (pa_cons (pe_mkE (cl.a1 32 "BadTerm" "term" rfl).2 (hr.mono (by omega)) (by rfl) (cl.a1 32 "BadTerm" "term" rfl).1 (pa_cons (pv 0) pa_nil)) (pa_cons (pe_mkE (cl.a1 33 "BadPair" "pair" rfl).2 (hr.mono (by omega)) (by rfl) (cl.a1 33 "BadPair" "pair" rfl).1 (pa_cons (pv 0) pa_nil)) (pa_cons (pe_mkE (cl.a1 34 "BadHypotheses" "index" rfl).2 (hr.mono (by omega)) (by rfl) (cl.a1 34 "BadHypotheses" "index" rfl).1 (pa_cons (pv 0) pa_nil)) (pa_cons (pe_mkE (cl.a1 35 "BadTerms" "index" rfl).2 (hr.mono (by omega)) (by rfl) (cl.a1 35 "BadTerms" "index" rfl).1 (pa_cons (pv 0) pa_nil)) (pa_cons (pe_mkE (cl.a1 36 "BadMany" "many" rfl).2 (hr.mono (by omega)) (by rfl) (cl.a1 36 "BadMany" "many" rfl).1 (pa_cons (pv 0) pa_nil)) pa_nil))))))))) pa_nil)))
      (pss_cons (ps_expr (pe_bm PySem.F.plainAttrs_list PySem.F.slot_list_extend PySem.F.type_list_extend mt_extend (pv 1) (pa_cons (pe_lst (pa_cons (pe_mkE (cl.a1 37 "BadRules" "index" rfl).2 (hr.mono (by omega)) (by rfl) (cl.a1 37 "BadRules" "index" rfl).1 (pa_cons (pv 0) pa_nil)) (pa_cons (pe_mkE (cl.a1 38 "BadSets" "sets" rfl).2 (hr.mono (by omega)) (by rfl) (cl.a1 38 "BadSets" "sets" rfl).1 (pa_cons (pv 0) pa_nil)) (pa_cons (pe_mkE (cl.a1 39 "BadCase" "case" rfl).2 (hr.mono (by omega)) (by rfl) (cl.a1 39 "BadCase" "case" rfl).1 (pa_cons (pv 0) pa_nil)) (pa_cons (pe_mkE (cl.a1 40 "BadPoints" "points" rfl).2 (hr.mono (by omega)) (by rfl) (cl.a1 40 "BadPoints" "points" rfl).1 (pa_cons (pv 0) pa_nil)) (pa_cons (pe_mkE (cl.a1 41 "NoName" "word" rfl).2 (hr.mono (by omega)) (by rfl) (cl.a1 41 "NoName" "word" rfl).1 (pa_cons (pv 0) pa_nil)) (pa_cons (pe_mkE (cl.a1 42 "BadRule" "head" rfl).2 (hr.mono (by omega)) (by rfl) (cl.a1 42 "BadRule" "head" rfl).1 (pa_cons (pv 0) pa_nil)) (pa_cons (pe_mkE (cl.a1 43 "BadTermText" "place" rfl).2 (hr.mono (by omega)) (by rfl) (cl.a1 43 "BadTermText" "place" rfl).1 (pa_cons (pv 0) pa_nil)) (pa_cons (pe_mkE (cl.a1 44 "BadPairsText" "line" rfl).2 (hr.mono (by omega)) (by rfl) (cl.a1 44 "BadPairsText" "line" rfl).1 (pa_cons (pv 0) pa_nil)) pa_nil))))))))) pa_nil)))
      (pss_cons (ps_expr (pe_bm PySem.F.plainAttrs_list PySem.F.slot_list_extend PySem.F.type_list_extend mt_extend (pv 1) (pa_cons (pe_lst (pa_cons (pe_mkE (cl.a1 45 "BadCaseText" "line" rfl).2 (hr.mono (by omega)) (by rfl) (cl.a1 45 "BadCaseText" "line" rfl).1 (pa_cons (pv 0) pa_nil)) (pa_cons (pe_mkE (cl.a1 46 "BadValues" "given" rfl).2 (hr.mono (by omega)) (by rfl) (cl.a1 46 "BadValues" "given" rfl).1 (pa_cons (pv 0) pa_nil)) (pa_cons (pe_mkE (cl.a1 47 "NoValue" "word" rfl).2 (hr.mono (by omega)) (by rfl) (cl.a1 47 "NoValue" "word" rfl).1 (pa_cons (pv 0) pa_nil)) (pa_cons (pe_mkE (cl.a1 48 "WrongNames" "index" rfl).2 (hr.mono (by omega)) (by rfl) (cl.a1 48 "WrongNames" "index" rfl).1 (pa_cons (pv 0) pa_nil)) (pa_cons (pe_mkE (cl.a1 49 "BadPairs" "index" rfl).2 (hr.mono (by omega)) (by rfl) (cl.a1 49 "BadPairs" "index" rfl).1 (pa_cons (pv 0) pa_nil)) (pa_cons (pe_mkE (cl.a1 50 "NotOrder" "members" rfl).2 (hr.mono (by omega)) (by rfl) (cl.a1 50 "NotOrder" "members" rfl).1 (pa_cons (pv 0) pa_nil)) (pa_cons (pe_mkE (cl.a1 51 "NotLattice" "members" rfl).2 (hr.mono (by omega)) (by rfl) (cl.a1 51 "NotLattice" "members" rfl).1 (pa_cons (pv 0) pa_nil)) (pa_cons (pe_mkE (cl.a1 52 "BadLattice" "lattice" rfl).2 (hr.mono (by omega)) (by rfl) (cl.a1 52 "BadLattice" "lattice" rfl).1 (pa_cons (pv 0) pa_nil)) pa_nil))))))))) pa_nil)))
      (pss_cons (ps_expr (pe_bm PySem.F.plainAttrs_list PySem.F.slot_list_extend PySem.F.type_list_extend mt_extend (pv 1) (pa_cons (pe_lst (pa_cons (pe_mkE (cl.a1 53 "BadElement" "element" rfl).2 (hr.mono (by omega)) (by rfl) (cl.a1 53 "BadElement" "element" rfl).1 (pa_cons (pv 0) pa_nil)) (pa_cons (pe_mkE (cl.a1 54 "BadElements" "index" rfl).2 (hr.mono (by omega)) (by rfl) (cl.a1 54 "BadElements" "index" rfl).1 (pa_cons (pv 0) pa_nil)) (pa_cons (pe_mkE (cl.a1 55 "BadTold" "told" rfl).2 (hr.mono (by omega)) (by rfl) (cl.a1 55 "BadTold" "told" rfl).1 (pa_cons (pv 0) pa_nil)) (pa_cons (pe_mkE (cl.a1 56 "BadGiven" "given" rfl).2 (hr.mono (by omega)) (by rfl) (cl.a1 56 "BadGiven" "given" rfl).1 (pa_cons (pv 0) pa_nil)) (pa_cons (pe_mkE (cl.a1 57 "NoElement" "word" rfl).2 (hr.mono (by omega)) (by rfl) (cl.a1 57 "NoElement" "word" rfl).1 (pa_cons (pv 0) pa_nil)) (pa_cons (pe_mkE (cl.a1 58 "BadWords" "words" rfl).2 (hr.mono (by omega)) (by rfl) (cl.a1 58 "BadWords" "words" rfl).1 (pa_cons (pv 0) pa_nil)) (pa_cons (pe_mkE (cl.a1 59 "BadPut" "given" rfl).2 (hr.mono (by omega)) (by rfl) (cl.a1 59 "BadPut" "given" rfl).1 (pa_cons (pv 0) pa_nil)) pa_nil)))))))) pa_nil)))
      (pss_one (ps_ret (pv 1)))))))), ?_⟩
    with_reducible refine u_seq ?_
    with_reducible refine u_asg ?_
    with_reducible refine u_lst ?_
    refine mka (js := [1, 2, 3, 4, 5, 6, 7, 8]) (by walk_at "mkas") H _ (fun G as1 EG lb ib => ?_)
    refine ⟨by rw [List.length_map, lb]; exact Nat.le_of_lt (small1000 (by decide)), fun t nt' => ?_⟩
    have nt : H t = none := by
      cases z : H t with
      | none => rfl
      | some o => rw [EG _ _ z] at nt'; cases nt'
    generalize hH1 : upd G t (HO.lst _) = H1
    have E1 : Ext H H1 := hH1 ▸ ext_new EG nt'
    have e1 : H1 t = some (.lst (as1.map V.ref)) := (congrFun hH1 t).symm.trans upd_same
    have l1 : as1.length = 8 := lb
    have i1 : Errs H1 ca as1 := (errs_of (by decide) lb ib).ext (hH1 ▸ ext_new (fun _ _ z => z) nt')
    clear hH1 EG lb ib nt'
    clear G
    repeat walk_at "s1"
    refine ⟨.inl ⟨rfl, _, .inl (.inl e1)⟩, ?_⟩
    with_reducible refine u_cons ?_
    with_reducible refine u_lst ?_
    refine mka (js := [9, 10, 11, 32, 33, 34, 35, 36]) (by walk_at "mkas") H1 _ (fun G bs EG lb ib => ?_)
    have eG := EG _ _ e1
    refine ⟨by rw [List.length_map, lb]; exact Nat.le_of_lt (small1000 (by decide)), fun u nu => ?_⟩
    have nut : t ≠ u := ne_of_none eG nu
    with_reducible refine u_nil ?_
    refine ⟨t, u, _, _, rfl, rfl, (upd_ne nut).trans eG, upd_same, by rw [List.length_map, List.length_map, lb, l1]; exact Nat.le_of_lt (small1000 (by decide)), ?_⟩
    generalize hH2 : upd (upd G u (HO.lst _)) t (HO.lst _) = H2
    have E2 : Ext H H2 := hH2 ▸ fun c o h => (upd_ne (ne_of_none h nt)).trans (ext_new (fun c o h => EG c o (E1 c o h)) nu c o h)
    have e2 : H2 t = some (.lst ((as1 ++ bs).map V.ref)) := by rw [← hH2, upd_same, List.map_append]
    have l2 : (as1 ++ bs).length = (8+8) := by rw [List.length_append, l1, lb]; rfl
    have i2 : Errs H2 ca (as1 ++ bs) := by
      rw [← hH2]
      exact (i1.append EG (errs_of (by decide) lb ib)).mut nut eG nu
    generalize as1 ++ bs = as2 at *
    clear hH2 eG EG nu nut lb ib
    clear u G bs
    repeat walk_at "s1"
    refine ⟨.inl ⟨rfl, _, .inl (.inl e2)⟩, ?_⟩
    with_reducible refine u_cons ?_
    with_reducible refine u_lst ?_
    refine mka (js := [37, 38, 39, 40, 41, 42, 43, 44]) (by walk_at "mkas") H2 _ (fun G bs EG lb ib => ?_)
    have eG := EG _ _ e2
    refine ⟨by rw [List.length_map, lb]; exact Nat.le_of_lt (small1000 (by decide)), fun u nu => ?_⟩
    have nut : t ≠ u := ne_of_none eG nu
    with_reducible refine u_nil ?_
    refine ⟨t, u, _, _, rfl, rfl, (upd_ne nut).trans eG, upd_same, by rw [List.length_map, List.length_map, lb, l2]; exact Nat.le_of_lt (small1000 (by decide)), ?_⟩
    generalize hH3 : upd (upd G u (HO.lst _)) t (HO.lst _) = H3
    have E3 : Ext H H3 := hH3 ▸ fun c o h => (upd_ne (ne_of_none h nt)).trans (ext_new (fun c o h => EG c o (E2 c o h)) nu c o h)
    have e3 : H3 t = some (.lst ((as2 ++ bs).map V.ref)) := by rw [← hH3, upd_same, List.map_append]
    have l3 : (as2 ++ bs).length = (8+8+8) := by rw [List.length_append, l2, lb]; rfl
    have i3 : Errs H3 ca (as2 ++ bs) := by
      rw [← hH3]
      exact (i2.append EG (errs_of (by decide) lb ib)).mut nut eG nu
    generalize as2 ++ bs = as3 at *
    clear hH3 eG EG nu nut lb ib
    clear u G bs
    repeat walk_at "s1"
    refine ⟨.inl ⟨rfl, _, .inl (.inl e3)⟩, ?_⟩
    with_reducible refine u_cons ?_
    with_reducible refine u_lst ?_
    refine mka (js := [45, 46, 47, 48, 49, 50, 51, 52]) (by walk_at "mkas") H3 _ (fun G bs EG lb ib => ?_)
    have eG := EG _ _ e3
    refine ⟨by rw [List.length_map, lb]; exact Nat.le_of_lt (small1000 (by decide)), fun u nu => ?_⟩
    have nut : t ≠ u := ne_of_none eG nu
    with_reducible refine u_nil ?_
    refine ⟨t, u, _, _, rfl, rfl, (upd_ne nut).trans eG, upd_same, by rw [List.length_map, List.length_map, lb, l3]; exact Nat.le_of_lt (small1000 (by decide)), ?_⟩
    generalize hH4 : upd (upd G u (HO.lst _)) t (HO.lst _) = H4
    have E4 : Ext H H4 := hH4 ▸ fun c o h => (upd_ne (ne_of_none h nt)).trans (ext_new (fun c o h => EG c o (E3 c o h)) nu c o h)
    have e4 : H4 t = some (.lst ((as3 ++ bs).map V.ref)) := by rw [← hH4, upd_same, List.map_append]
    have l4 : (as3 ++ bs).length = (8+8+8+8) := by rw [List.length_append, l3, lb]; rfl
    have i4 : Errs H4 ca (as3 ++ bs) := by
      rw [← hH4]
      exact (i3.append EG (errs_of (by decide) lb ib)).mut nut eG nu
    generalize as3 ++ bs = as4 at *
    clear hH4 eG EG nu nut lb ib
    clear u G bs
    repeat walk_at "s1"
    refine ⟨.inl ⟨rfl, _, .inl (.inl e4)⟩, ?_⟩
    with_reducible refine u_cons ?_
    with_reducible refine u_lst ?_
    refine mka (js := [53, 54, 55, 56, 57, 58, 59]) (by walk_at "mkas") H4 _ (fun G bs EG lb ib => ?_)
    have eG := EG _ _ e4
    refine ⟨by rw [List.length_map, lb]; exact Nat.le_of_lt (small1000 (by decide)), fun u nu => ?_⟩
    have nut : t ≠ u := ne_of_none eG nu
    with_reducible refine u_nil ?_
    refine ⟨t, u, _, _, rfl, rfl, (upd_ne nut).trans eG, upd_same, by rw [List.length_map, List.length_map, lb, l4]; exact Nat.le_of_lt (small1000 (by decide)), ?_⟩
    generalize hH5 : upd (upd G u (HO.lst _)) t (HO.lst _) = H5
    have E5 : Ext H H5 := hH5 ▸ fun c o h => (upd_ne (ne_of_none h nt)).trans (ext_new (fun c o h => EG c o (E4 c o h)) nu c o h)
    have e5 : H5 t = some (.lst ((as4 ++ bs).map V.ref)) := by rw [← hH5, upd_same, List.map_append]
    have l5 : (as4 ++ bs).length = (8+8+8+8+7) := by rw [List.length_append, l4, lb]; rfl
    have i5 : Errs H5 ca (as4 ++ bs) := by
      rw [← hH5]
      exact (i4.append EG (errs_of (by decide) lb ib)).mut nut eG nu
    generalize as4 ++ bs = as5 at *
    clear hH5 eG EG nu nut lb ib
    clear u G bs
    repeat walk_at "s1"
    exact hq _ t as5 E5 nt e5 (by rw [l5]; decide) i5
end
end K95


namespace K95
open PySem PySem.Spec PyProof.Rows L2
local macro_rules | `(tactic| walk_at "ty") => `(tactic| first | exact .old (.base (.int _)) | exact .old (.base (.str _)) | exact .old (.base .non) | exact .old (.base (.bl _)) | exact .old (.base (.lst (by walk_at "hp"))) | exact .old (.base (.tup (by walk_at "hp"))) | exact .old (.base (.dK (by walk_at "hp"))))
local macro_rules | `(tactic| walk_at "hne") => `(tactic| first | assumption | exact Ne.symm (by assumption) | (refine' ne_of_none ?hn1 ?hn2; rotate_left; (case hn2 => assumption); (case hn1 => walk_at "hp")) | (refine' Ne.symm (ne_of_none ?hn1 ?hn2); rotate_left; (case hn2 => assumption); (case hn1 => walk_at "hp")))
local macro_rules | `(tactic| walk_at "hp") => `(tactic| first | exact upd_same | assumption | (refine' (upd_ne ?hpn).trans ?hpg; (case hpn => walk_at "hne"); (case hpg => walk_at "hp")))
local macro_rules | `(tactic| walk_at "cond") => `(tactic| first | omega | decide | assumption | exact Nat.le_of_lt (small1000 (by simp)))
local macro_rules | `(tactic| walk_at "s1") => `(tactic| first
  | with_reducible refine u_var rfl ?_
  | with_reducible refine u_op ?_
  | with_reducible refine u_un ?_
  | with_reducible refine u_cb ?_
  | with_reducible refine u_nil ?_
  | with_reducible refine u_cons ?_
  | with_reducible refine u_asg ?_
  | with_reducible refine u_name ?_
  | with_reducible refine u_sub ?_
  | with_reducible refine u_seq ?_
  | with_reducible refine u_ret ?_
  | with_reducible refine u_next ?_
  | with_reducible refine u_drop ?_
  | with_reducible refine u_test ?_
  | with_reducible refine u_b ?_
  | with_reducible refine u_ifS ?_
  | with_reducible refine u_if ?_
  | with_reducible refine u_and ?_
  | with_reducible refine u_or ?_
  | with_reducible refine u_not ?_
  | with_reducible refine u_andV ?_
  | with_reducible refine u_orV ?_
  | with_reducible refine u_notV ?_
  | with_reducible refine u_tup ?_
  | with_reducible refine u_lst ?_
  | with_reducible refine u_call ?_
  | with_reducible refine u_bm ?_
  | with_reducible refine u_bm0 ?_
  | with_reducible refine u_yes ?_
  | with_reducible refine u_c ?_
  | with_reducible refine u_bl ?_
  | ((with_reducible refine' iteF' ?hc ?_); (case hc => first | rfl | simp; done))
  | ((with_reducible refine' iteT' ?hc ?_); (case hc => first | rfl | simp; done))
  | with_reducible refine r_I0 ?_
  | with_reducible refine r_I (by walk_at "cond") ?_
  | refine r_I (show CDiv _ _ from ⟨by omega, by omega⟩) ?_
  | refine r_I (show CMul _ _ from .inl ⟨by omega, by omega⟩) ?_
  | refine r_I (show CMul _ _ from .inr ⟨by omega, by omega⟩) ?_
  | refine r_I (show CPow _ _ from ⟨by omega, by omega, by omega⟩) ?_
  | with_reducible refine r_U ?_
  | with_reducible refine r_Eq rfl ?_
  | with_reducible refine r_Ne rfl ?_
  | ((with_reducible refine' r_ixL ?hx ?he ?_); (case hx => walk_at "hp"); (case he => rfl))
  | ((with_reducible refine' r_ixT ?hx ?he ?_); (case hx => walk_at "hp"); (case he => rfl))
  | ((with_reducible refine' r_setL ?hx ?he ?_); (case hx => walk_at "hp"); (case he => rfl))
  | with_reducible refine r_isN ?_
  | with_reducible refine u_mk0 ?_
  | with_reducible refine u_mkE ?_
  | with_reducible refine u_xf ?_
  | ((with_reducible refine' r_isE ?hcl ?hx ?hi ?hj ?_); (case hcl => assumption); (case hx => assumption); (case hi => assumption); (case hj => decide))
  | ((with_reducible refine' r_isB (r := true) ?hx ?he ?_); (case hx => walk_at "ty"); (case he => decide +kernel))
  | ((with_reducible refine' r_isB (r := false) ?hx ?he ?_); (case hx => walk_at "ty"); (case he => decide +kernel))
  | with_reducible refine And.intro (by walk_at "cond") ?_
  | refine ⟨_, rfl, ?_⟩
  | refine ⟨_, _, rfl, ?_⟩
  | refine .inl ⟨_, rfl, ?_⟩)
local macro_rules | `(tactic| walk_at "mkas") => `(tactic| first | exact mka_nil | (refine mka_cons rfl ?_; walk_at "mkas") | (refine mka_cons0 ?_; walk_at "mkas"))
theorem Sta.ne {H : Hp} {p l q : Addr} {B : Int} (S : Sta H p l B) (n : H q = none) : q ≠ p ∧ q ≠ l := by
  obtain ⟨zs, a, b, c, ⟨ep, el, _⟩, _⟩ := S
  exact ⟨(ne_of_none ep n).symm, (ne_of_none el n).symm⟩
theorem Sta.new {H : Hp} {p l q : Addr} {B : Int} {o : HO} (S : Sta H p l B) (n : H q = none) : Sta (upd H q o) p l B := by
  obtain ⟨hp, hl⟩ := S.ne n
  obtain ⟨zs, a, b, c, ⟨ep, el, ne⟩, r⟩ := S
  exact ⟨zs, a, b, c, ⟨(upd_ne hp.symm).trans ep, (upd_ne hl.symm).trans el, ne⟩, r⟩
theorem Sta.mono {H : Hp} {p l : Addr} {B B' : Int} (S : Sta H p l B) (h : B ≤ B') : Sta H p l B' := by
  obtain ⟨zs, a, b, c, e, h1, h2, h3, h4, h5⟩ := S
  exact ⟨zs, a, b, c, e, h1, h2, h3, by omega, h5⟩
/-- what a drawn object is -/
inductive Thing (H : Hp) (p l : Addr) : V → Prop where
  | int (i : Int) : Thing H p l (.int i)
  | str (x : Str) : Thing H p l (.str x)
  | non : Thing H p l .non
  | bl (b : Bool) : Thing H p l (.bl b)
  | tup {a : Addr} {i : Int} (h : H a = some (.tup [.int 1, .int i])) (h1 : a ≠ p) (h2 : a ≠ l) : Thing H p l (.ref a)
  | lst {a b : Addr} {i : Int} (h : H a = some (.lst [.int i, .ref b])) (hb : H b = some (.lst [.int 1])) (ne : a ≠ b) (h1 : a ≠ p) (h2 : a ≠ l) (h3 : b ≠ p) (h4 : b ≠ l) : Thing H p l (.ref a)
  | dct {a : Addr} {i : Int} (h : H a = some (.dK [(.inr "a", .int i)])) (h1 : a ≠ p) (h2 : a ≠ l) : Thing H p l (.ref a)
theorem str99 : ∀ n : _root_.Fin 99, (Str.ofString "w").length + ((toString ((n.val : Nat) : Int) : String) : Str).length ≤ 100 := by decide +kernel
theorem str99' {n : Int} (h0 : 0 ≤ n) (h1 : n < 99) : (Str.ofString "w").length + ((toString n : String) : Str).length ≤ sizeLine := by
  have h := str99 ⟨n.toNat, by omega⟩
  have e : ((n.toNat : Nat) : Int) = n := by omega
  rw [e] at h
  exact Nat.le_trans h (by decide)
theorem sc_law_object : FnScope ["state", "way"] ["state"] (defScope s_law_object) := ⟨rfl, rfl, rfl, by decide +kernel, rfl, by decide +kernel, by decide +kernel⟩
section
variable {P : Program} {w : World} {K : PySem.W.Frag} {mg : Str → Option Value} {base : Heap} {f fP fB : Addr} {fd fdP fdB : FuncData}
def spBetween : Sp := fun vs H Q _ => ∃ (p l : Addr) (lo hi : Int) (B : Int), vs = [.ref p, .int lo, .int hi] ∧ lo ≤ hi ∧ hi - lo < 999999 ∧ B ≤ 1000000 ∧ Sta H p l B ∧
  ∀ H' n, But p l H H' → Sta H' p l (B + 1) → lo ≤ n → n ≤ hi → Q (.int n) H'
theorem ok_between (F : FnK K "_law_between" s_law_between f fd) (b : Bs mg) (G_law_pick : FnOk P w K mg base CX0 1 fP fdP ["state", "many"] spPick) (F_law_pick : FnK K "_law_pick" s_law_pick fP fdP) (gm_law_pick : mg "_law_pick" = some (.ref fP)) :
    FnOk P w K mg base CX0 2 f fd ["state", "low", "high"] spBetween := by
  have B_law_pick : Binds K fdP ["state", "many"] [] := F_law_pick.bindsN fun _ _ _ _ _ _ us hl => match us, hl with | [_, _], _ => rfl
  refine F.ok sc_law_between (fun vs H Q E h => ?_) (fun cdv A outer s H vs Q E hr h => ?_)
  · obtain ⟨p, l, lo, hi, B, rfl, _⟩ := h
    rfl
  · obtain ⟨p, l, lo, hi, B, rfl, h1, h2, hB, S, hq⟩ := h
    refine ⟨_, PSs.nox (pss_one (ps_ret (pe_op op_add (pv 1) (pe_call G_law_pick (hr.mono (by omega)) (by rfl) gm_law_pick F_law_pick.kp B_law_pick .nil pass0 (pa_cons (pv 0) (pa_cons (pe_op op_add (pe_callB (call_max2 rfl) (by rfl) b.max (by decide +kernel) (pa_cons (pe_op op_sub (pv 2) (pv 1)) (pa_cons pe_int pa_nil))) pe_int) pa_nil)))))), ?_⟩
    repeat walk_at "s1"
    have e : (if 0 > hi - lo then (0 : Int) else hi - lo) = hi - lo := if_neg (by omega)
    rw [e]
    refine ⟨p, l, _, B, rfl, by omega, by omega, hB, S, fun H' n bt st n0 n1 => ?_⟩
    repeat walk_at "s1"
    exact hq H' _ bt st (by omega) (by omega)
def spObj : Sp := fun vs H Q _ => ∃ (p l : Addr) (B : Int), vs = [.ref p] ∧ B ≤ 999900 ∧ Sta H p l B ∧
  ∀ H' v, But p l H H' → Sta H' p l (B + 10) → Thing H' p l v → Q v H'
theorem ok_object (F : FnK K "_law_object" s_law_object f fd) (b : Bs mg) (G_law_pick : FnOk P w K mg base CX0 1 fP fdP ["state", "many"] spPick) (F_law_pick : FnK K "_law_pick" s_law_pick fP fdP) (gm_law_pick : mg "_law_pick" = some (.ref fP))
    (G_law_between : FnOk P w K mg base CX0 2 fB fdB ["state", "low", "high"] spBetween) (F_law_between : FnK K "_law_between" s_law_between fB fdB) (gm_law_between : mg "_law_between" = some (.ref fB)) :
    FnOk P w K mg base CX0 3 f fd ["state"] spObj := by
  have B_law_pick : Binds K fdP ["state", "many"] [] := F_law_pick.bindsN fun _ _ _ _ _ _ us hl => match us, hl with | [_, _], _ => rfl
  have B_law_between : Binds K fdB ["state", "low", "high"] [] := F_law_between.bindsN fun _ _ _ _ _ _ us hl => match us, hl with | [_, _, _], _ => rfl
  refine F.ok sc_law_object (fun vs H Q E h => ?_) (fun cdv A outer s H vs Q E hr h => ?_)
  · obtain ⟨p, l, B, rfl, _⟩ := h
    rfl
  · obtain ⟨p, l, B, rfl, hB, S, hq⟩ := h
    refine ⟨_, PSs.nox (pss_cons (ps_set (i := 1) sc_law_object.nd rfl (.inl rfl) (pe_call G_law_pick (hr.mono (by omega)) (by rfl) gm_law_pick F_law_pick.kp B_law_pick .nil pass0 (pa_cons (pv 0) (pa_cons pe_int pa_nil))))
      (pss_cons (ps_if (pt_cmpR op_lt (pv 1) pe_int (nomark _)) (pss_one (ps_ret (pe_ix ix_list (pe_lst (pa_cons (pe_call G_law_between (hr.mono (by omega)) (by rfl) gm_law_between F_law_between.kp B_law_between .nil pass0 (pa_cons (pv 0) (pa_cons (pe_un un_neg pe_int) (pa_cons pe_int pa_nil)))) (pa_cons (pe_op op_add_str pe_str (pe_callTy call_str_int (by rfl) b.str (by decide +kernel) (pa_cons (pe_call G_law_pick (hr.mono (by omega)) (by rfl) gm_law_pick F_law_pick.kp B_law_pick .nil pass0 (pa_cons (pv 0) (pa_cons pe_int pa_nil))) pa_nil))) pa_nil))) (pv 1) (fun _ _ => rfl)))) pss_nil)
      (pss_cons (ps_if (pt_cmpR op_lt (pv 1) pe_int (nomark _)) (pss_one (ps_ret (pe_ix ix_list (pe_lst (pa_cons pe_non (pa_cons (pe_cmpR op_eq (pe_call G_law_pick (hr.mono (by omega)) (by rfl) gm_law_pick F_law_pick.kp B_law_pick .nil pass0 (pa_cons (pv 0) (pa_cons pe_int pa_nil))) pe_int (nomark _)) (pa_cons (pe_tup (pa_cons pe_int (pa_cons (pe_call G_law_pick (hr.mono (by omega)) (by rfl) gm_law_pick F_law_pick.kp B_law_pick .nil pass0 (pa_cons (pv 0) (pa_cons pe_int pa_nil))) pa_nil))) pa_nil)))) (pe_op op_sub (pv 1) pe_int) (fun _ _ => rfl)))) pss_nil)
      (pss_one (ps_ret (pe_ifExp (pt_cmpR op_eq (pv 1) pe_int (nomark _)) (pe_lst (pa_cons (pe_call G_law_pick (hr.mono (by omega)) (by rfl) gm_law_pick F_law_pick.kp B_law_pick .nil pass0 (pa_cons (pv 0) (pa_cons pe_int pa_nil))) (pa_cons (pe_lst (pa_cons pe_int pa_nil)) pa_nil))) (pe_disp (pps_cons pe_str (pe_call G_law_pick (hr.mono (by omega)) (by rfl) gm_law_pick F_law_pick.kp B_law_pick .nil pass0 (pa_cons (pv 0) (pa_cons pe_int pa_nil))) pps_nil) (by rfl) (by rfl) (fun z => by cases z) (by decide)))))))), ?_⟩
    repeat walk_at "s1"
    refine ⟨p, l, 7, B, rfl, by omega, by omega, by omega, S, fun H1 k bt1 S1 k0 k1 => ?_⟩
    repeat walk_at "s1"
    refine iteE (fun e => ?_) (fun e => ?_)
    · have e' : k < 2 := of_decide_eq_true e
      repeat walk_at "s1"
      refine ⟨p, l, -9, 9, _, rfl, by omega, by omega, ?_, S1, fun H2 n1 bt2 S2 _ _ => ?_⟩
      · omega
      repeat walk_at "s1"
      refine ⟨p, l, 99, _, rfl, by omega, by omega, ?_, S2, fun H3 n2 bt3 S3 h0 h1 => ?_⟩
      · omega
      repeat walk_at "s1"
      refine ⟨by have := Nat.log2_le_self n2.natAbs; omega, ?_⟩
      repeat walk_at "s1"
      refine ⟨_, _, rfl, rfl, str99' h0 h1, ?_⟩
      repeat walk_at "s1"
      intro s ns
      have bt4 := (bt1.trans bt2).trans bt3
      have hk : k = 0 ∨ k = 1 := by omega
      rcases hk with rfl | rfl
      · repeat walk_at "s1"
        exact hq _ _ (bt4.new ns) ((S3.new ns).mono (by omega)) (.int _)
      · repeat walk_at "s1"
        exact hq _ _ (bt4.new ns) ((S3.new ns).mono (by omega)) (.str _)
    · have e' : ¬ k < 2 := of_decide_eq_false e
      repeat walk_at "s1"
      refine iteE (fun e2 => ?_) (fun e2 => ?_)
      · have e2' : k < 5 := of_decide_eq_true e2
        repeat walk_at "s1"
        refine ⟨p, l, 2, _, rfl, by omega, by omega, ?_, S1, fun H3 n3 bt3 S3 _ _ => ?_⟩
        · omega
        repeat walk_at "s1"
        refine ⟨p, l, 9, _, rfl, by omega, by omega, ?_, S3, fun H4 n4 bt4 S4 _ _ => ?_⟩
        · omega
        repeat walk_at "s1"
        intro t nt
        obtain ⟨tp, tl⟩ := S4.ne nt
        repeat walk_at "s1"
        intro s ns
        have bt5 := (((bt1.trans bt3).trans bt4).new (o := .tup [.int 1, .int n4]) nt)
        have S5 := S4.new (o := .tup [.int 1, .int n4]) nt
        have nst : t ≠ s := ne_of_none upd_same ns
        have hk : k = 2 ∨ k = 3 ∨ k = 4 := by omega
        rcases hk with rfl | rfl | rfl
        · repeat walk_at "s1"
          exact hq _ _ (bt5.new ns) ((S5.new ns).mono (by omega)) .non
        · repeat walk_at "s1"
          exact hq _ _ (bt5.new ns) ((S5.new ns).mono (by omega)) (.bl _)
        · repeat walk_at "s1"
          exact hq _ _ (bt5.new ns) ((S5.new ns).mono (by omega)) (.tup ((upd_ne nst).trans upd_same) tp tl)
      · have e2' : ¬ k < 5 := of_decide_eq_false e2
        repeat walk_at "s1"
        refine iteE (fun e3 => ?_) (fun e3 => ?_)
        · repeat walk_at "s1"
          refine ⟨p, l, 9, _, rfl, by omega, by omega, ?_, S1, fun H9 n9 bt9 S9 _ _ => ?_⟩
          · omega
          repeat walk_at "s1"
          intro u nu
          obtain ⟨up, ul⟩ := S9.ne nu
          have S10 := S9.new (o := .lst [.int 1]) nu
          repeat walk_at "s1"
          intro x nx
          obtain ⟨xp, xl⟩ := S10.ne nx
          obtain ⟨xu, _⟩ := upd_none nx
          have S11 := S10.new (o := .lst [.int n9, .ref u]) nx
          exact hq _ _ (((bt1.trans bt9).new nu).new nx) (S11.mono (by omega)) (.lst upd_same ((upd_ne xu.symm).trans upd_same) xu xp xl up ul)
        · repeat walk_at "s1"
          intro d nd
          obtain ⟨dp, dl⟩ := S1.ne nd
          have S8 := S1.new (o := .dK []) nd
          show tC _ _ _ _
          repeat walk_at "s1"
          refine ⟨p, l, 9, _, rfl, by omega, by omega, ?_, S8, fun H9 n9 bt9 S9 _ _ => ?_⟩
          · omega
          have ed : H9 d = some (.dK []) := bt9 d _ dp dl upd_same
          refine ⟨ed, [(.inr "a", .int n9)], rfl, by simp, ?_⟩
          refine hq _ _ (fun x o h1 h2 h3 => ?_) ?_ (.dct upd_same dp dl)
          · have ex := bt1 x o h1 h2 h3
            have xd : x ≠ d := ne_of_none ex nd
            exact (upd_ne xd).trans (bt9 x o h1 h2 ((upd_ne xd).trans ex))
          · obtain ⟨zs, a, bb, c, ⟨ep, el, ne⟩, r1, r2, r3, r4, r5⟩ := S9
            exact ⟨zs, a, bb, c, ⟨(upd_ne dp.symm).trans ep, (upd_ne dl.symm).trans el, ne⟩, r1, r2, r3, by omega, r5⟩
end
end K95


namespace K95
open PySem PySem.Spec PyProof.Rows L2
local macro_rules | `(tactic| walk_at "ty") => `(tactic| first | exact .old (.base (.int _)) | exact .old (.base (.str _)) | exact .old (.base .non) | exact .old (.base (.bl _)) | exact .old (.base (.lst (by walk_at "hp"))) | exact .old (.base (.tup (by walk_at "hp"))) | exact .old (.base (.dK (by walk_at "hp"))))
local macro_rules | `(tactic| walk_at "hne") => `(tactic| first | assumption | exact Ne.symm (by assumption) | (refine' ne_of_none ?hn1 ?hn2; rotate_left; (case hn2 => assumption); (case hn1 => walk_at "hp")) | (refine' Ne.symm (ne_of_none ?hn1 ?hn2); rotate_left; (case hn2 => assumption); (case hn1 => walk_at "hp")))
local macro_rules | `(tactic| walk_at "hp") => `(tactic| first | exact upd_same | assumption | (refine' (upd_ne ?hpn).trans ?hpg; (case hpn => walk_at "hne"); (case hpg => walk_at "hp")))
local macro_rules | `(tactic| walk_at "cond") => `(tactic| first | omega | decide | assumption | exact Nat.le_of_lt (small1000 (by simp)))
local macro_rules | `(tactic| walk_at "s1") => `(tactic| first
  | with_reducible refine u_var rfl ?_
  | with_reducible refine u_op ?_
  | with_reducible refine u_un ?_
  | with_reducible refine u_cb ?_
  | with_reducible refine u_nil ?_
  | with_reducible refine u_cons ?_
  | with_reducible refine u_asg ?_
  | with_reducible refine u_name ?_
  | with_reducible refine u_sub ?_
  | with_reducible refine u_seq ?_
  | with_reducible refine u_ret ?_
  | with_reducible refine u_next ?_
  | with_reducible refine u_drop ?_
  | with_reducible refine u_test ?_
  | with_reducible refine u_b ?_
  | with_reducible refine u_ifS ?_
  | with_reducible refine u_if ?_
  | with_reducible refine u_and ?_
  | with_reducible refine u_or ?_
  | with_reducible refine u_not ?_
  | with_reducible refine u_andV ?_
  | with_reducible refine u_orV ?_
  | with_reducible refine u_notV ?_
  | with_reducible refine u_tup ?_
  | with_reducible refine u_lst ?_
  | with_reducible refine u_call ?_
  | with_reducible refine u_bm ?_
  | with_reducible refine u_bm0 ?_
  | with_reducible refine u_yes ?_
  | with_reducible refine u_c ?_
  | with_reducible refine u_bl ?_
  | ((with_reducible refine' iteF' ?hc ?_); (case hc => first | rfl | simp; done))
  | ((with_reducible refine' iteT' ?hc ?_); (case hc => first | rfl | simp; done))
  | with_reducible refine r_I0 ?_
  | with_reducible refine r_I (by walk_at "cond") ?_
  | refine r_I (show CDiv _ _ from ⟨by omega, by omega⟩) ?_
  | refine r_I (show CMul _ _ from .inl ⟨by omega, by omega⟩) ?_
  | refine r_I (show CMul _ _ from .inr ⟨by omega, by omega⟩) ?_
  | refine r_I (show CPow _ _ from ⟨by omega, by omega, by omega⟩) ?_
  | with_reducible refine r_U ?_
  | with_reducible refine r_Eq rfl ?_
  | with_reducible refine r_Ne rfl ?_
  | ((with_reducible refine' r_ixL ?hx ?he ?_); (case hx => walk_at "hp"); (case he => rfl))
  | ((with_reducible refine' r_ixT ?hx ?he ?_); (case hx => walk_at "hp"); (case he => rfl))
  | ((with_reducible refine' r_setL ?hx ?he ?_); (case hx => walk_at "hp"); (case he => rfl))
  | with_reducible refine r_isN ?_
  | with_reducible refine u_mk0 ?_
  | with_reducible refine u_mkE ?_
  | with_reducible refine u_xf ?_
  | ((with_reducible refine' r_isE ?hcl ?hx ?hi ?hj ?_); (case hcl => assumption); (case hx => assumption); (case hi => assumption); (case hj => decide))
  | ((with_reducible refine' r_isB (r := true) ?hx ?he ?_); (case hx => walk_at "ty"); (case he => decide +kernel))
  | ((with_reducible refine' r_isB (r := false) ?hx ?he ?_); (case hx => walk_at "ty"); (case he => decide +kernel))
  | with_reducible refine And.intro (by walk_at "cond") ?_
  | refine ⟨_, rfl, ?_⟩
  | refine ⟨_, _, rfl, ?_⟩
  | refine .inl ⟨_, rfl, ?_⟩)
local macro_rules | `(tactic| walk_at "mkas") => `(tactic| first | exact mka_nil | (refine mka_cons rfl ?_; walk_at "mkas") | (refine mka_cons0 ?_; walk_at "mkas"))
/-- what is made of an object: a pair of an error and of what it keeps -/
def Made (H H' : Hp) (ca : Nat → Addr) (j : Nat) (x : V) (p : Addr) : Prop := ∃ a, H' p = some (.tup [.ref a, x]) ∧ IsEx H' a (ca j) ∧ H p = none
theorem Ext.none {H H' : Hp} {q : Addr} (e : Ext H H') (n : H' q = Option.none) : H q = Option.none := by
  cases z : H q with
  | none => rfl
  | some o => rw [e _ _ z] at n; cases n
theorem made_ok {K : PySem.W.Frag} {ca : Nat → Addr} {j : Nat} {f : Str} {x : V} {y0 y2 : Option V} {H : Hp} {D : Ends} (c : ExC K (ca j)) (no : PySem.W.findIn K (.ref (ca j)) f = some none)
    (hq : ∀ H' p, Ext H H' → Made H H' ca j x p → D.rt (.ref p) H') :
    tSeq (tAsg (tMkE (ca j) f (tCons (tVar 1) tNil)) (gName 2)) (tRet (tTup (tCons (tVar 2) (tCons (tXf K f (tVar 2)) tNil)))) D [y0, some x, y2] H := by
  repeat walk_at "s1"
  intro a d na nd nda
  generalize hH1 : upd (upd H d (exd d [(f, x)])) a (exo a (ca j) (some d)) = H1
  have E1 : Ext H H1 := hH1 ▸ fun c o h => (upd_ne (ne_of_none h na)).trans ((upd_ne (ne_of_none h nd)).trans h)
  have ea1 : H1 a = some (exo a (ca j) (some d)) := (congrFun hH1 a).symm.trans upd_same
  have ed1 : H1 d = some (exd d [(f, x)]) := (congrFun hH1 d).symm.trans ((upd_ne nda).trans upd_same)
  clear hH1
  repeat walk_at "s1"
  refine ⟨_, _, _, _, x, rfl, c, no, ea1, ed1, by rw [lookup_put, if_pos rfl], ?_⟩
  repeat walk_at "s1"
  intro p np
  have E4 : Ext H1 (upd H1 p (.tup [.ref a, x])) := ext_new (fun _ _ z => z) np
  exact hq _ p (fun c o h => E4 _ _ (E1 _ _ h)) ⟨a, upd_same, .inl ⟨d, _, E4 _ _ ea1, E4 _ _ ed1⟩, Ext.none E1 np⟩
theorem sc_law_made_a : FnScope ["at", "x", "made"] ["at", "x"] (defScope s_law_made_a) := ⟨rfl, rfl, rfl, by decide +kernel, rfl, by decide +kernel, by decide +kernel⟩
theorem sc_law_made_b : FnScope ["at", "x", "made"] ["at", "x"] (defScope s_law_made_b) := ⟨rfl, rfl, rfl, by decide +kernel, rfl, by decide +kernel, by decide +kernel⟩
theorem sc_law_made_c : FnScope ["at", "x", "made"] ["at", "x"] (defScope s_law_made_c) := ⟨rfl, rfl, rfl, by decide +kernel, rfl, by decide +kernel, by decide +kernel⟩
theorem sc_law_made_at : FnScope ["at", "x"] ["at", "x"] (defScope s_law_made_at) := ⟨rfl, rfl, rfl, by decide +kernel, rfl, by decide +kernel, by decide +kernel⟩
section
variable {P : Program} {w : World} {K : PySem.W.Frag} {mg : Str → Option Value} {base : Heap} {f fA fB fC : Addr} {fd fdA fdB fdC : FuncData} {ca : Nat → Addr}
def spMade (ca : Nat → Addr) (lo hi : Nat) : Sp := fun vs H Q _ => ∃ (n : Nat) (x : V), vs = [.int (n : Int), x] ∧ lo ≤ n ∧ n < hi ∧ ∀ H' p, Ext H H' → Made H H' ca (kix.getD n 0) x p → Q (.ref p) H'
theorem noAt {x f : Str} {i : Nat} (cl : Exs P w K mg base exA ca) (h : exA[i]? = some (x, some f)) : ExC K (ca i) ∧ PySem.W.findIn K (.ref (ca i)) f = some none := by
  obtain ⟨c, fI, fd, i, _⟩ := (cl.a1 i x f h).2
  exact ⟨c, i.no⟩
theorem ok_a (F : FnK K "_law_made_a" s_law_made_a f fd) (b : Bs mg) (cl : Exs P w K mg base exA ca) : FnOk P w K mg base CX0 3 f fd ["at", "x"] (spMade ca 0 6) := by
  refine F.ok sc_law_made_a (fun vs H Q E h => ?_) (fun cdv A outer s H vs Q E hr h => ?_)
  · obtain ⟨n, x, rfl, _⟩ := h
    rfl
  · obtain ⟨n, x, rfl, h0, h1, hq⟩ := h
    refine ⟨_, PSs.nox (pss_cons (ps_if (pt_cmpR op_eq (pv 0) pe_int (nomark _)) (pss_cons (ps_set (i := 2) sc_law_made_a.nd rfl (.inl rfl) (pe_mkE (cl.a1 12 "BadWanted" "index" rfl).2 (hr.mono (by omega)) (by rfl) (cl.a1 12 "BadWanted" "index" rfl).1 (pa_cons (pv 1) pa_nil)))
      (pss_one (ps_ret (pe_tup (pa_cons (pv 2) (pa_cons (pe_xf (pv 2)) pa_nil)))))) pss_nil)
      (pss_cons (ps_if (pt_cmpR op_eq (pv 0) pe_int (nomark _)) (pss_cons (ps_set (i := 2) sc_law_made_a.nd rfl (.inl rfl) (pe_mkK (cl.a1 13 "BadPrices" "prices" rfl).2 (hr.mono (by omega)) (by rfl) (cl.a1 13 "BadPrices" "prices" rfl).1 (pv 1)))
      (pss_one (ps_ret (pe_tup (pa_cons (pv 2) (pa_cons (pe_xf (pv 2)) pa_nil)))))) pss_nil)
      (pss_cons (ps_if (pt_cmpR op_eq (pv 0) pe_int (nomark _)) (pss_cons (ps_set (i := 2) sc_law_made_a.nd rfl (.inl rfl) (pe_mkE (cl.a1 14 "BadOthers" "index" rfl).2 (hr.mono (by omega)) (by rfl) (cl.a1 14 "BadOthers" "index" rfl).1 (pa_cons (pv 1) pa_nil)))
      (pss_one (ps_ret (pe_tup (pa_cons (pv 2) (pa_cons (pe_xf (pv 2)) pa_nil)))))) pss_nil)
      (pss_cons (ps_if (pt_cmpR op_eq (pv 0) pe_int (nomark _)) (pss_cons (ps_set (i := 2) sc_law_made_a.nd rfl (.inl rfl) (pe_mkE (cl.a1 15 "BadUntrue" "index" rfl).2 (hr.mono (by omega)) (by rfl) (cl.a1 15 "BadUntrue" "index" rfl).1 (pa_cons (pv 1) pa_nil)))
      (pss_one (ps_ret (pe_tup (pa_cons (pv 2) (pa_cons (pe_xf (pv 2)) pa_nil)))))) pss_nil)
      (pss_cons (ps_if (pt_cmpR op_eq (pv 0) pe_int (nomark _)) (pss_cons (ps_set (i := 2) sc_law_made_a.nd rfl (.inl rfl) (pe_mkK (cl.a1 16 "NotTogether" "untrue" rfl).2 (hr.mono (by omega)) (by rfl) (cl.a1 16 "NotTogether" "untrue" rfl).1 (pv 1)))
      (pss_one (ps_ret (pe_tup (pa_cons (pv 2) (pa_cons (pe_xf (pv 2)) pa_nil)))))) pss_nil)
      (pss_cons (ps_set (i := 2) sc_law_made_a.nd rfl (.inl rfl) (pe_mkE (cl.a1 17 "BadLinks" "index" rfl).2 (hr.mono (by omega)) (by rfl) (cl.a1 17 "BadLinks" "index" rfl).1 (pa_cons (pv 1) pa_nil)))
      (pss_one (ps_ret (pe_tup (pa_cons (pv 2) (pa_cons (pe_xf (pv 2)) pa_nil))))))))))), ?_⟩
    have hn : n = 0 ∨ n = 1 ∨ n = 2 ∨ n = 3 ∨ n = 4 ∨ n = 5 := by omega
    rcases hn with rfl | rfl | rfl | rfl | rfl | rfl <;>
    · repeat first
        | exact made_ok (noAt cl rfl).1 (noAt cl rfl).2 hq
        | walk_at "s1"
theorem ok_b (F : FnK K "_law_made_b" s_law_made_b f fd) (b : Bs mg) (cl : Exs P w K mg base exA ca) : FnOk P w K mg base CX0 3 f fd ["at", "x"] (spMade ca 6 12) := by
  refine F.ok sc_law_made_b (fun vs H Q E h => ?_) (fun cdv A outer s H vs Q E hr h => ?_)
  · obtain ⟨n, x, rfl, _⟩ := h
    rfl
  · obtain ⟨n, x, rfl, h0, h1, hq⟩ := h
    refine ⟨_, PSs.nox (pss_cons (ps_if (pt_cmpR op_eq (pv 0) pe_int (nomark _)) (pss_cons (ps_set (i := 2) sc_law_made_b.nd rfl (.inl rfl) (pe_mkE (cl.a1 18 "BadPartition" "partition" rfl).2 (hr.mono (by omega)) (by rfl) (cl.a1 18 "BadPartition" "partition" rfl).1 (pa_cons (pv 1) pa_nil)))
      (pss_one (ps_ret (pe_tup (pa_cons (pv 2) (pa_cons (pe_xf (pv 2)) pa_nil)))))) pss_nil)
      (pss_cons (ps_if (pt_cmpR op_eq (pv 0) pe_int (nomark _)) (pss_cons (ps_set (i := 2) sc_law_made_b.nd rfl (.inl rfl) (pe_mkK (cl.a1 19 "BadWorlds" "count" rfl).2 (hr.mono (by omega)) (by rfl) (cl.a1 19 "BadWorlds" "count" rfl).1 (pv 1)))
      (pss_one (ps_ret (pe_tup (pa_cons (pv 2) (pa_cons (pe_xf (pv 2)) pa_nil)))))) pss_nil)
      (pss_cons (ps_if (pt_cmpR op_eq (pv 0) pe_int (nomark _)) (pss_cons (ps_set (i := 2) sc_law_made_b.nd rfl (.inl rfl) (pe_mkE (cl.a1 20 "BadViews" "told" rfl).2 (hr.mono (by omega)) (by rfl) (cl.a1 20 "BadViews" "told" rfl).1 (pa_cons (pv 1) pa_nil)))
      (pss_one (ps_ret (pe_tup (pa_cons (pv 2) (pa_cons (pe_xf (pv 2)) pa_nil)))))) pss_nil)
      (pss_cons (ps_if (pt_cmpR op_eq (pv 0) pe_int (nomark _)) (pss_cons (ps_set (i := 2) sc_law_made_b.nd rfl (.inl rfl) (pe_mkE (cl.a1 21 "BadPeople" "people" rfl).2 (hr.mono (by omega)) (by rfl) (cl.a1 21 "BadPeople" "people" rfl).1 (pa_cons (pv 1) pa_nil)))
      (pss_one (ps_ret (pe_tup (pa_cons (pv 2) (pa_cons (pe_xf (pv 2)) pa_nil)))))) pss_nil)
      (pss_cons (ps_if (pt_cmpR op_eq (pv 0) pe_int (nomark _)) (pss_cons (ps_set (i := 2) sc_law_made_b.nd rfl (.inl rfl) (pe_mkK (cl.a1 22 "NoPerson" "word" rfl).2 (hr.mono (by omega)) (by rfl) (cl.a1 22 "NoPerson" "word" rfl).1 (pv 1)))
      (pss_one (ps_ret (pe_tup (pa_cons (pv 2) (pa_cons (pe_xf (pv 2)) pa_nil)))))) pss_nil)
      (pss_cons (ps_set (i := 2) sc_law_made_b.nd rfl (.inl rfl) (pe_mkE (cl.a1 23 "BadEvent" "event" rfl).2 (hr.mono (by omega)) (by rfl) (cl.a1 23 "BadEvent" "event" rfl).1 (pa_cons (pv 1) pa_nil)))
      (pss_one (ps_ret (pe_tup (pa_cons (pv 2) (pa_cons (pe_xf (pv 2)) pa_nil))))))))))), ?_⟩
    have hn : n = 6 ∨ n = 7 ∨ n = 8 ∨ n = 9 ∨ n = 10 ∨ n = 11 := by omega
    rcases hn with rfl | rfl | rfl | rfl | rfl | rfl <;>
    · repeat first
        | exact made_ok (noAt cl rfl).1 (noAt cl rfl).2 hq
        | walk_at "s1"
theorem ok_c (F : FnK K "_law_made_c" s_law_made_c f fd) (b : Bs mg) (cl : Exs P w K mg base exA ca) : FnOk P w K mg base CX0 3 f fd ["at", "x"] (spMade ca 12 18) := by
  refine F.ok sc_law_made_c (fun vs H Q E h => ?_) (fun cdv A outer s H vs Q E hr h => ?_)
  · obtain ⟨n, x, rfl, _⟩ := h
    rfl
  · obtain ⟨n, x, rfl, h0, h1, hq⟩ := h
    refine ⟨_, PSs.nox (pss_cons (ps_if (pt_cmpR op_eq (pv 0) pe_int (nomark _)) (pss_cons (ps_set (i := 2) sc_law_made_c.nd rfl (.inl rfl) (pe_mkE (cl.a1 24 "BadWorld" "world" rfl).2 (hr.mono (by omega)) (by rfl) (cl.a1 24 "BadWorld" "world" rfl).1 (pa_cons (pv 1) pa_nil)))
      (pss_one (ps_ret (pe_tup (pa_cons (pv 2) (pa_cons (pe_xf (pv 2)) pa_nil)))))) pss_nil)
      (pss_cons (ps_if (pt_cmpR op_eq (pv 0) pe_int (nomark _)) (pss_cons (ps_set (i := 2) sc_law_made_c.nd rfl (.inl rfl) (pe_mkK (cl.a1 25 "BadGroup" "index" rfl).2 (hr.mono (by omega)) (by rfl) (cl.a1 25 "BadGroup" "index" rfl).1 (pv 1)))
      (pss_one (ps_ret (pe_tup (pa_cons (pv 2) (pa_cons (pe_xf (pv 2)) pa_nil)))))) pss_nil)
      (pss_cons (ps_if (pt_cmpR op_eq (pv 0) pe_int (nomark _)) (pss_cons (ps_set (i := 2) sc_law_made_c.nd rfl (.inl rfl) (pe_mkE (cl.a1 26 "BadMost" "most" rfl).2 (hr.mono (by omega)) (by rfl) (cl.a1 26 "BadMost" "most" rfl).1 (pa_cons (pv 1) pa_nil)))
      (pss_one (ps_ret (pe_tup (pa_cons (pv 2) (pa_cons (pe_xf (pv 2)) pa_nil)))))) pss_nil)
      (pss_cons (ps_if (pt_cmpR op_eq (pv 0) pe_int (nomark _)) (pss_cons (ps_set (i := 2) sc_law_made_c.nd rfl (.inl rfl) (pe_mkE (cl.a1 27 "BadEdit" "edit" rfl).2 (hr.mono (by omega)) (by rfl) (cl.a1 27 "BadEdit" "edit" rfl).1 (pa_cons (pv 1) pa_nil)))
      (pss_one (ps_ret (pe_tup (pa_cons (pv 2) (pa_cons (pe_xf (pv 2)) pa_nil)))))) pss_nil)
      (pss_cons (ps_if (pt_cmpR op_eq (pv 0) pe_int (nomark _)) (pss_cons (ps_set (i := 2) sc_law_made_c.nd rfl (.inl rfl) (pe_mkK (cl.a1 28 "BadDesk" "desk" rfl).2 (hr.mono (by omega)) (by rfl) (cl.a1 28 "BadDesk" "desk" rfl).1 (pv 1)))
      (pss_one (ps_ret (pe_tup (pa_cons (pv 2) (pa_cons (pe_xf (pv 2)) pa_nil)))))) pss_nil)
      (pss_cons (ps_set (i := 2) sc_law_made_c.nd rfl (.inl rfl) (pe_mkE (cl.a1 29 "BadDeskText" "line" rfl).2 (hr.mono (by omega)) (by rfl) (cl.a1 29 "BadDeskText" "line" rfl).1 (pa_cons (pv 1) pa_nil)))
      (pss_one (ps_ret (pe_tup (pa_cons (pv 2) (pa_cons (pe_xf (pv 2)) pa_nil))))))))))), ?_⟩
    have hn : n = 12 ∨ n = 13 ∨ n = 14 ∨ n = 15 ∨ n = 16 ∨ n = 17 := by omega
    rcases hn with rfl | rfl | rfl | rfl | rfl | rfl <;>
    · repeat first
        | exact made_ok (noAt cl rfl).1 (noAt cl rfl).2 hq
        | walk_at "s1"
theorem ok_made (F : FnK K "_law_made_at" s_law_made_at f fd) (b : Bs mg) (cl : Exs P w K mg base exA ca)
    (F_law_made_a : FnK K "_law_made_a" s_law_made_a fA fdA) (gm_law_made_a : mg "_law_made_a" = some (.ref fA)) (F_law_made_b : FnK K "_law_made_b" s_law_made_b fB fdB) (gm_law_made_b : mg "_law_made_b" = some (.ref fB))
    (F_law_made_c : FnK K "_law_made_c" s_law_made_c fC fdC) (gm_law_made_c : mg "_law_made_c" = some (.ref fC)) :
    FnOk P w K mg base CX0 4 f fd ["at", "x"] (spMade ca 0 20) := by
  have G_law_made_a : FnOk P w K mg base CX0 3 fA fdA ["at", "x"] (spMade ca 0 6) := ok_a F_law_made_a b cl
  have G_law_made_b : FnOk P w K mg base CX0 3 fB fdB ["at", "x"] (spMade ca 6 12) := ok_b F_law_made_b b cl
  have G_law_made_c : FnOk P w K mg base CX0 3 fC fdC ["at", "x"] (spMade ca 12 18) := ok_c F_law_made_c b cl
  have B_law_made_a : Binds K fdA ["at", "x"] [] := F_law_made_a.bindsN fun _ _ _ _ _ _ us hl => match us, hl with | [_, _], _ => rfl
  have B_law_made_b : Binds K fdB ["at", "x"] [] := F_law_made_b.bindsN fun _ _ _ _ _ _ us hl => match us, hl with | [_, _], _ => rfl
  have B_law_made_c : Binds K fdC ["at", "x"] [] := F_law_made_c.bindsN fun _ _ _ _ _ _ us hl => match us, hl with | [_, _], _ => rfl
  refine F.ok sc_law_made_at (fun vs H Q E h => ?_) (fun cdv A outer s H vs Q E hr h => ?_)
  · obtain ⟨n, x, rfl, _⟩ := h
    rfl
  · obtain ⟨n, x, rfl, h0, h1, hq⟩ := h
    refine ⟨_, PSs.nox (pss_cons (ps_if (pt_cmpR op_lt (pv 0) pe_int (nomark _)) (pss_one (ps_ret (pe_ifExp (pt_cmpR op_lt (pv 0) pe_int (nomark _)) (pe_call G_law_made_a (hr.mono (by omega)) (by rfl) gm_law_made_a F_law_made_a.kp B_law_made_a .nil pass0 (pa_cons (pv 0) (pa_cons (pv 1) pa_nil))) (pe_call G_law_made_b (hr.mono (by omega)) (by rfl) gm_law_made_b F_law_made_b.kp B_law_made_b .nil pass0 (pa_cons (pv 0) (pa_cons (pv 1) pa_nil)))))) pss_nil)
      (pss_cons (ps_if (pt_cmpR op_lt (pv 0) pe_int (nomark _)) (pss_one (ps_ret (pe_call G_law_made_c (hr.mono (by omega)) (by rfl) gm_law_made_c F_law_made_c.kp B_law_made_c .nil pass0 (pa_cons (pv 0) (pa_cons (pv 1) pa_nil))))) pss_nil)
      (pss_one (ps_ret (pe_tup (pa_cons (pe_ix ix_list (pe_lst (pa_cons (pe_mk0 (cl.a0 30 "NothingToUndo" rfl).2 (by rfl) (cl.a0 30 "NothingToUndo" rfl).1) (pa_cons (pe_mk0 (cl.a0 31 "NothingToRedo" rfl).2 (by rfl) (cl.a0 31 "NothingToRedo" rfl).1) pa_nil))) (pe_op op_sub (pv 0) pe_int) (fun _ _ => rfl)) (pa_cons (pv 1) pa_nil))))))), ?_⟩
    repeat walk_at "s1"
    refine iteE (fun e => ?_) (fun e => ?_)
    · have e' : (n : Int) < 12 := of_decide_eq_true e
      repeat walk_at "s1"
      refine iteE (fun e2 => ?_) (fun e2 => ?_)
      · have e2' : (n : Int) < 6 := of_decide_eq_true e2
        repeat walk_at "s1"
        exact hq
      · have e2' : ¬ (n : Int) < 6 := of_decide_eq_false e2
        repeat walk_at "s1"
        exact hq
    · have e' : ¬ (n : Int) < 12 := of_decide_eq_false e
      repeat walk_at "s1"
      refine iteE (fun e2 => ?_) (fun e2 => ?_)
      · have e2' : (n : Int) < 18 := of_decide_eq_true e2
        repeat walk_at "s1"
        exact hq
      · have e2' : ¬ (n : Int) < 18 := of_decide_eq_false e2
        repeat walk_at "s1"
        intro a na
        generalize hH1 : upd H a (exo a (ca 30) none) = H1
        have E1 : Ext H H1 := hH1 ▸ ext_new (fun _ _ z => z) na
        have ea : H1 a = some (exo a (ca 30) none) := (congrFun hH1 a).symm.trans upd_same
        clear hH1
        repeat walk_at "s1"
        intro c nc
        generalize hH2 : upd H1 c (exo c (ca 31) none) = H2
        have E2 : Ext H1 H2 := hH2 ▸ ext_new (fun _ _ z => z) nc
        have ec : H2 c = some (exo c (ca 31) none) := (congrFun hH2 c).symm.trans upd_same
        clear hH2
        repeat walk_at "s1"
        intro t nt
        generalize hH3 : upd H2 t (HO.lst _) = H3
        have E3 : Ext H2 H3 := hH3 ▸ ext_new (fun _ _ z => z) nt
        have et := (congrFun hH3 t).symm.trans upd_same
        clear hH3
        have EH : Ext H H3 := fun c o h => E3 _ _ (E2 _ _ (E1 _ _ h))
        have hn : n = 18 ∨ n = 19 := by omega
        rcases hn with rfl | rfl
        · repeat walk_at "s1"
          intro p np
          have E4 : Ext H3 (upd H3 p (.tup [.ref a, x])) := ext_new (fun _ _ z => z) np
          exact hq _ p (fun c o h => E4 _ _ (EH _ _ h)) ⟨a, upd_same, .inr (E4 _ _ (E3 _ _ (E2 _ _ ea))), Ext.none EH np⟩
        · repeat walk_at "s1"
          intro p np
          have E4 : Ext H3 (upd H3 p (.tup [.ref c, x])) := ext_new (fun _ _ z => z) np
          exact hq _ p (fun c o h => E4 _ _ (EH _ _ h)) ⟨c, upd_same, .inr (E4 _ _ (E3 _ _ ec)), Ext.none EH np⟩
end
end K95


namespace K95
open PySem PySem.Spec PyProof.Rows L2
local macro_rules | `(tactic| walk_at "ty") => `(tactic| first | exact .old (.base (.int _)) | exact .old (.base (.str _)) | exact .old (.base .non) | exact .old (.base (.bl _)) | exact .old (.base (.lst (by walk_at "hp"))) | exact .old (.base (.tup (by walk_at "hp"))) | exact .old (.base (.dK (by walk_at "hp"))))
local macro_rules | `(tactic| walk_at "hne") => `(tactic| first | assumption | exact Ne.symm (by assumption) | (refine' ne_of_none ?hn1 ?hn2; rotate_left; (case hn2 => assumption); (case hn1 => walk_at "hp")) | (refine' Ne.symm (ne_of_none ?hn1 ?hn2); rotate_left; (case hn2 => assumption); (case hn1 => walk_at "hp")))
local macro_rules | `(tactic| walk_at "hp") => `(tactic| first | exact upd_same | assumption | (refine' (upd_ne ?hpn).trans ?hpg; (case hpn => walk_at "hne"); (case hpg => walk_at "hp")))
local macro_rules | `(tactic| walk_at "cond") => `(tactic| first | omega | decide | assumption | exact Nat.le_of_lt (small1000 (by simp)))
local macro_rules | `(tactic| walk_at "s1") => `(tactic| first
  | with_reducible refine u_var rfl ?_
  | with_reducible refine u_op ?_
  | with_reducible refine u_un ?_
  | with_reducible refine u_cb ?_
  | with_reducible refine u_nil ?_
  | with_reducible refine u_cons ?_
  | with_reducible refine u_asg ?_
  | with_reducible refine u_name ?_
  | with_reducible refine u_sub ?_
  | with_reducible refine u_seq ?_
  | with_reducible refine u_ret ?_
  | with_reducible refine u_next ?_
  | with_reducible refine u_drop ?_
  | with_reducible refine u_test ?_
  | with_reducible refine u_b ?_
  | with_reducible refine u_ifS ?_
  | with_reducible refine u_if ?_
  | with_reducible refine u_and ?_
  | with_reducible refine u_or ?_
  | with_reducible refine u_not ?_
  | with_reducible refine u_andV ?_
  | with_reducible refine u_orV ?_
  | with_reducible refine u_notV ?_
  | with_reducible refine u_tup ?_
  | with_reducible refine u_lst ?_
  | with_reducible refine u_call ?_
  | with_reducible refine u_bm ?_
  | with_reducible refine u_bm0 ?_
  | with_reducible refine u_yes ?_
  | with_reducible refine u_c ?_
  | with_reducible refine u_bl ?_
  | ((with_reducible refine' iteF' ?hc ?_); (case hc => first | rfl | simp; done))
  | ((with_reducible refine' iteT' ?hc ?_); (case hc => first | rfl | simp; done))
  | with_reducible refine r_I0 ?_
  | with_reducible refine r_I (by walk_at "cond") ?_
  | refine r_I (show CDiv _ _ from ⟨by omega, by omega⟩) ?_
  | refine r_I (show CMul _ _ from .inl ⟨by omega, by omega⟩) ?_
  | refine r_I (show CMul _ _ from .inr ⟨by omega, by omega⟩) ?_
  | refine r_I (show CPow _ _ from ⟨by omega, by omega, by omega⟩) ?_
  | with_reducible refine r_U ?_
  | with_reducible refine r_Eq rfl ?_
  | with_reducible refine r_Ne rfl ?_
  | ((with_reducible refine' r_ixL ?hx ?he ?_); (case hx => walk_at "hp"); (case he => rfl))
  | ((with_reducible refine' r_ixT ?hx ?he ?_); (case hx => walk_at "hp"); (case he => rfl))
  | ((with_reducible refine' r_setL ?hx ?he ?_); (case hx => walk_at "hp"); (case he => rfl))
  | with_reducible refine r_isN ?_
  | with_reducible refine u_mk0 ?_
  | with_reducible refine u_mkE ?_
  | with_reducible refine u_xf ?_
  | ((with_reducible refine' r_isE ?hcl ?hx ?hi ?hj ?_); (case hcl => assumption); (case hx => assumption); (case hi => assumption); (case hj => decide))
  | ((with_reducible refine' r_isB (r := true) ?hx ?he ?_); (case hx => walk_at "ty"); (case he => decide +kernel))
  | ((with_reducible refine' r_isB (r := false) ?hx ?he ?_); (case hx => walk_at "ty"); (case he => decide +kernel))
  | with_reducible refine And.intro (by walk_at "cond") ?_
  | refine ⟨_, rfl, ?_⟩
  | refine ⟨_, _, rfl, ?_⟩
  | refine .inl ⟨_, rfl, ?_⟩)
local macro_rules | `(tactic| walk_at "mkas") => `(tactic| first | exact mka_nil | (refine mka_cons rfl ?_; walk_at "mkas") | (refine mka_cons0 ?_; walk_at "mkas"))
/-- a drawn object -/
inductive Obj (H : Hp) : V → Prop where
  | flat {x : V} (h : flat1 x = true) : Obj H x
  | tup {a : Addr} {i : Int} (h : H a = some (.tup [.int 1, .int i])) : Obj H (.ref a)
  | lst {a b : Addr} {i : Int} (h : H a = some (.lst [.int i, .ref b])) (hb : H b = some (.lst [.int 1])) (ne : a ≠ b) : Obj H (.ref a)
  | dct {a : Addr} {i : Int} (h : H a = some (.dK [(.inr "a", .int i)])) : Obj H (.ref a)
theorem Obj.ext {H H' : Hp} {x : V} (e : Ext H H') (h : Obj H x) : Obj H' x := by
  cases h with
  | flat h => exact .flat h
  | tup h => exact .tup (e _ _ h)
  | lst h hb ne => exact .lst (e _ _ h) (e _ _ hb) ne
  | dct h => exact .dct (e _ _ h)
theorem Obj.alk {H : Hp} {x : V} (h : Obj H x) : Alk H 3 x x := by
  cases h with
  | flat h => exact .flat h
  | tup h =>
    refine .tup h h (by simp) rfl fun k x y e1 e2 => ?_
    obtain rfl := Option.some.inj (e1.symm.trans e2)
    have hx := List.mem_of_getElem? e1
    simp only [List.mem_cons, List.not_mem_nil, or_false] at hx
    rcases hx with rfl | rfl <;> exact .flat rfl
  | lst h hb ne =>
    refine .lst h h (by simp) rfl fun k x y e1 e2 => ?_
    obtain rfl := Option.some.inj (e1.symm.trans e2)
    have hx := List.mem_of_getElem? e1
    simp only [List.mem_cons, List.not_mem_nil, or_false] at hx
    rcases hx with rfl | rfl
    · exact .flat rfl
    · refine .lst hb hb (by simp) rfl fun k x y e4 e5 => ?_
      obtain rfl := Option.some.inj (e4.symm.trans e5)
      have hx := List.mem_of_getElem? e4
      simp only [List.mem_cons, List.not_mem_nil, or_false] at hx
      subst hx
      exact .flat rfl
  | dct h =>
    refine .dct h (by simp) (show ([.inr "a"] : List Key).Nodup by decide) fun kv hkv => ?_
    simp only [List.mem_cons, List.not_mem_nil, or_false] at hkv
    subst hkv
    rfl
/-- changed and changed back -/
theorem ext_back {H : Hp} {a : Addr} {o1 o2 : HO} (h : H a = some o2) : Ext H (upd (upd H a o1) a o2) := fun c o hc => by
  by_cases e : c = a
  · subst e
    rw [upd_same, ← h, hc]
  · exact (upd_ne e).trans ((upd_ne e).trans hc)
theorem sc_law_very : FnScope ["found", "due", "same"] ["found", "due"] (defScope s_law_very) := ⟨rfl, rfl, rfl, by decide +kernel, rfl, by decide +kernel, by decide +kernel⟩
section
variable {P : Program} {w : World} {K : PySem.W.Frag} {mg : Str → Option Value} {base : Heap} {f fS : Addr} {fd fdS : FuncData}
theorem same3 (F : FnK K "_law_same" s_law_same f fd) (b : Bs mg) (g : mg "_law_same" = some (.ref f)) : FnOk P w K mg base CX0 3 f fd ["found", "due"] (spSame 3) :=
  same_step F b g (same_step F b g (same_step F b g same0))
def spVery : Sp := fun vs H Q _ => ∃ (x : V), vs = [x, x] ∧ Obj H x ∧ ∀ H', Ext H H' → Q (.bl true) H'
theorem ok_very (F : FnK K "_law_very" s_law_very f fd) (b : Bs mg) (F_law_same : FnK K "_law_same" s_law_same fS fdS) (gm_law_same : mg "_law_same" = some (.ref fS)) : FnOk P w K mg base CX0 4 f fd ["found", "due"] spVery := by
  have G_law_same : FnOk P w K mg base CX0 3 fS fdS ["found", "due"] (spSame 3) := same3 F_law_same b gm_law_same
  have B_law_same : Binds K fdS ["found", "due"] [] := F_law_same.bindsN fun _ _ _ _ _ _ us hl => match us, hl with | [_, _], _ => rfl
  refine F.ok sc_law_very (fun vs H Q E h => ?_) (fun cdv A outer s H vs Q E hr h => ?_)
  · obtain ⟨x, rfl, _⟩ := h
    rfl
  · obtain ⟨x, rfl, ho, hq⟩ := h
    have hu := hu_of hr
    refine ⟨_, PSs.nox (pss_cons (ps_if (pt_val (pe_callB call_isY (by rfl) b.isinstance (by decide +kernel) (pa_cons (pv 1) (pa_cons (pe_bltn (v := .ty "list") (by rfl) b.list (by decide +kernel) rfl) pa_nil)))) (pss_cons (ps_expr (pe_bm PySem.F.plainAttrs_list PySem.F.slot_list_append PySem.F.type_list_append mt_append (pv 1) (pa_cons pe_str pa_nil)))
      (pss_cons (ps_set (i := 2) sc_law_very.nd rfl (.inl rfl) (pe_and (pe_callB call_isY (by rfl) b.isinstance (by decide +kernel) (pa_cons (pv 0) (pa_cons (pe_bltn (v := .ty "list") (by rfl) b.list (by decide +kernel) rfl) pa_nil))) (pe_and (pe_cmpR op_eq (pe_callB call_len (by rfl) b.len (by decide +kernel) (pa_cons (pv 0) pa_nil)) (pe_callB call_len (by rfl) b.len (by decide +kernel) (pa_cons (pv 1) pa_nil)) (nomark _)) (pe_one (pe_cmpR op_eq (pe_ix ix_list (pv 0) (pe_un un_neg pe_int) (fun _ _ => rfl)) pe_str (nomark _))))))
      (pss_cons (ps_expr (pe_bm0 PySem.F.plainAttrs_list PySem.F.slot_list_pop PySem.F.type_list_pop mt_pop (pv 1)))
      (pss_one (ps_ret (pe_and (pv 2) (pe_one (pe_call G_law_same (hr.mono (by omega)) (by rfl) gm_law_same F_law_same.kp B_law_same .nil pass0 (pa_cons (pv 0) (pa_cons (pv 1) pa_nil)))))))))) pss_nil)
      (pss_cons (ps_if (pt_val (pe_callB call_isY (by rfl) b.isinstance (by decide +kernel) (pa_cons (pv 1) (pa_cons (pe_bltn (v := .ty "dict") (by rfl) b.dict (by decide +kernel) rfl) pa_nil)))) (pss_cons (ps_dput hu (pv 1) pe_str pe_int rfl)
      (pss_cons (ps_set (i := 2) sc_law_very.nd rfl (.inl rfl) (pe_and (pe_callB call_isY (by rfl) b.isinstance (by decide +kernel) (pa_cons (pv 0) (pa_cons (pe_bltn (v := .ty "dict") (by rfl) b.dict (by decide +kernel) rfl) pa_nil))) (pe_and (pe_cmp (pc_din hu pe_str (pv 0)) rfl) (pe_one (pe_cmpR op_eq (pe_callB call_lenD (by rfl) b.len (by decide +kernel) (pa_cons (pv 0) pa_nil)) (pe_callB call_lenD (by rfl) b.len (by decide +kernel) (pa_cons (pv 1) pa_nil)) (nomark _))))))
      (pss_cons (ps_expr (pe_dpop1 (pv 1) pe_str ⟨by rfl, by rfl, by rfl, by rfl⟩))
      (pss_one (ps_ret (pe_and (pv 2) (pe_one (pe_call G_law_same (hr.mono (by omega)) (by rfl) gm_law_same F_law_same.kp B_law_same .nil pass0 (pa_cons (pv 0) (pa_cons (pv 1) pa_nil)))))))))) pss_nil)
      (pss_one (ps_ret (pe_call G_law_same (hr.mono (by omega)) (by rfl) gm_law_same F_law_same.kp B_law_same .nil pass0 (pa_cons (pv 0) (pa_cons (pv 1) pa_nil))))))), ?_⟩
    have hk := ho.alk
    have ho0 := ho
    cases ho with
    | flat hf =>
      cases x with
      | int i =>
        repeat walk_at "s1"
        exact hq
      | str i =>
        repeat walk_at "s1"
        exact hq
      | bl i =>
        repeat walk_at "s1"
        exact hq
      | non =>
        repeat walk_at "s1"
        exact hq
      | _ => cases hf
    | @tup a i h =>
      repeat walk_at "s1"
      exact hq
    | @lst a b' i h hb ne =>
      repeat walk_at "s1"
      refine ⟨.inl ⟨rfl, _, .inl (.inl h)⟩, ?_⟩
      repeat walk_at "s1"
      refine ⟨a, _, _, rfl, rfl, h, small1000 (by simp), ?_⟩
      have e1 : (upd H a (.lst ([.int i, .ref b'] ++ [.str "more"]))) a = some (.lst [.int i, .ref b', .str "more"]) := upd_same
      have EB := ext_back (o1 := .lst ([.int i, .ref b'] ++ [.str "more"])) h
      generalize hH1 : upd H a (HO.lst ([.int i, .ref b'] ++ [.str "more"])) = H1 at *
      repeat walk_at "s1"
      refine ⟨_, _, rfl, .inl ⟨_, .inl (.inl e1), rfl⟩, ?_⟩
      repeat walk_at "s1"
      refine ⟨_, _, rfl, .inl ⟨_, .inl (.inl e1), rfl⟩, ?_⟩
      repeat walk_at "s1"
      refine ⟨.inl ⟨rfl, _, .inl (.inl e1)⟩, ?_⟩
      refine ⟨a, _, _, rfl, rfl, e1, rfl, ?_⟩
      generalize hH2 : upd H1 a (HO.lst _) = H2
      have E2 : Ext H H2 := by
        rw [← hH2]
        exact EB
      clear hH2
      repeat walk_at "s1"
      exact ⟨ho0.ext E2 |>.alk, fun H' e => hq H' fun c o h => e _ _ (E2 _ _ h)⟩
    | @dct a i h =>
      repeat walk_at "s1"
      refine ⟨a, _, rfl, DPut.k (k := .inr "more") h (small1000 (by simp)), ?_⟩
      have EB := ext_back (o1 := .dK [(.inr "a", .int i), (.inr "more", .int 1)]) h
      have e1 : (upd H a (.dK [(.inr "a", .int i), (.inr "more", .int 1)])) a = some (.dK [(.inr "a", .int i), (.inr "more", .int 1)]) := upd_same
      generalize hH1 : upd H a (HO.dK _) = H1
      have hH1' : upd H a (HO.dK [(.inr "a", .int i), (.inr "more", .int 1)]) = H1 := hH1
      rw [hH1'] at EB e1
      clear hH1 hH1'
      repeat walk_at "s1"
      refine ⟨a, some (.int 1), rfl, .inl ⟨_, .inr "more", .inl e1, rfl, rfl⟩, ?_⟩
      repeat walk_at "s1"
      refine ⟨a, _, rfl, e1, ?_⟩
      repeat walk_at "s1"
      refine ⟨a, _, rfl, e1, ?_⟩
      repeat walk_at "s1"
      refine ⟨.inl ⟨_, .inl e1⟩, ?_⟩
      repeat walk_at "s1"
      refine ⟨_, .inr "more", .int 1, e1, rfl, rfl, ?_⟩
      generalize hH2 : upd H1 a (HO.dK _) = H2
      have E2 : Ext H H2 := by
        rw [← hH2]
        exact EB
      clear hH2
      repeat walk_at "s1"
      exact ⟨ho0.ext E2 |>.alk, fun H' e => hq H' fun c o h => e _ _ (E2 _ _ h)⟩
end
end K95


namespace K95
open PySem PySem.Spec PyProof.Rows L2
local macro_rules | `(tactic| walk_at "ty") => `(tactic| first | exact .old (.base (.int _)) | exact .old (.base (.str _)) | exact .old (.base .non) | exact .old (.base (.bl _)) | exact .old (.base (.lst (by walk_at "hp"))) | exact .old (.base (.tup (by walk_at "hp"))) | exact .old (.base (.dK (by walk_at "hp"))))
local macro_rules | `(tactic| walk_at "hne") => `(tactic| first | assumption | exact Ne.symm (by assumption) | (refine' ne_of_none ?hn1 ?hn2; rotate_left; (case hn2 => assumption); (case hn1 => walk_at "hp")) | (refine' Ne.symm (ne_of_none ?hn1 ?hn2); rotate_left; (case hn2 => assumption); (case hn1 => walk_at "hp")))
local macro_rules | `(tactic| walk_at "hp") => `(tactic| first | exact upd_same | assumption | (refine' (upd_ne ?hpn).trans ?hpg; (case hpn => walk_at "hne"); (case hpg => walk_at "hp")))
local macro_rules | `(tactic| walk_at "cond") => `(tactic| first | omega | decide | assumption | exact Nat.le_of_lt (small1000 (by simp)))
local macro_rules | `(tactic| walk_at "s1") => `(tactic| first
  | with_reducible refine u_var rfl ?_
  | with_reducible refine u_op ?_
  | with_reducible refine u_un ?_
  | with_reducible refine u_cb ?_
  | with_reducible refine u_nil ?_
  | with_reducible refine u_cons ?_
  | with_reducible refine u_asg ?_
  | with_reducible refine u_name ?_
  | with_reducible refine u_sub ?_
  | with_reducible refine u_seq ?_
  | with_reducible refine u_ret ?_
  | with_reducible refine u_next ?_
  | with_reducible refine u_drop ?_
  | with_reducible refine u_test ?_
  | with_reducible refine u_b ?_
  | with_reducible refine u_ifS ?_
  | with_reducible refine u_if ?_
  | with_reducible refine u_and ?_
  | with_reducible refine u_or ?_
  | with_reducible refine u_not ?_
  | with_reducible refine u_andV ?_
  | with_reducible refine u_orV ?_
  | with_reducible refine u_notV ?_
  | with_reducible refine u_tup ?_
  | with_reducible refine u_lst ?_
  | with_reducible refine u_call ?_
  | with_reducible refine u_bm ?_
  | with_reducible refine u_bm0 ?_
  | with_reducible refine u_yes ?_
  | with_reducible refine u_c ?_
  | with_reducible refine u_bl ?_
  | ((with_reducible refine' iteF' ?hc ?_); (case hc => first | rfl | simp; done))
  | ((with_reducible refine' iteT' ?hc ?_); (case hc => first | rfl | simp; done))
  | with_reducible refine r_I0 ?_
  | with_reducible refine r_I (by walk_at "cond") ?_
  | refine r_I (show CDiv _ _ from ⟨by omega, by omega⟩) ?_
  | refine r_I (show CMul _ _ from .inl ⟨by omega, by omega⟩) ?_
  | refine r_I (show CMul _ _ from .inr ⟨by omega, by omega⟩) ?_
  | refine r_I (show CPow _ _ from ⟨by omega, by omega, by omega⟩) ?_
  | with_reducible refine r_U ?_
  | with_reducible refine r_Eq rfl ?_
  | with_reducible refine r_Ne rfl ?_
  | ((with_reducible refine' r_ixL ?hx ?he ?_); (case hx => walk_at "hp"); (case he => rfl))
  | ((with_reducible refine' r_ixT ?hx ?he ?_); (case hx => walk_at "hp"); (case he => rfl))
  | ((with_reducible refine' r_setL ?hx ?he ?_); (case hx => walk_at "hp"); (case he => rfl))
  | with_reducible refine r_isN ?_
  | with_reducible refine u_mk0 ?_
  | with_reducible refine u_mkE ?_
  | with_reducible refine u_xf ?_
  | ((with_reducible refine' r_isE ?hcl ?hx ?hi ?hj ?_); (case hcl => assumption); (case hx => assumption); (case hi => assumption); (case hj => decide))
  | ((with_reducible refine' r_isB (r := true) ?hx ?he ?_); (case hx => walk_at "ty"); (case he => decide +kernel))
  | ((with_reducible refine' r_isB (r := false) ?hx ?he ?_); (case hx => walk_at "ty"); (case he => decide +kernel))
  | with_reducible refine And.intro (by walk_at "cond") ?_
  | refine ⟨_, rfl, ?_⟩
  | refine ⟨_, _, rfl, ?_⟩
  | refine .inl ⟨_, rfl, ?_⟩)
local macro_rules | `(tactic| walk_at "mkas") => `(tactic| first | exact mka_nil | (refine mka_cons rfl ?_; walk_at "mkas") | (refine mka_cons0 ?_; walk_at "mkas"))
theorem Sta.ext {H H' : Hp} {p l : Addr} {B : Int} (S : Sta H p l B) (e : Ext H H') : Sta H' p l B := by
  obtain ⟨zs, a, b, c, ⟨ep, el, ne⟩, r⟩ := S
  exact ⟨zs, a, b, c, ⟨e _ _ ep, e _ _ el, ne⟩, r⟩
theorem Thing.obj {H : Hp} {p l : Addr} {v : V} (h : Thing H p l v) : Obj H v := by
  cases h with
  | int i => exact .flat rfl
  | str i => exact .flat rfl
  | non => exact .flat rfl
  | bl i => exact .flat rfl
  | tup h => exact .tup h
  | lst h hb ne => exact .lst h hb ne
  | dct h => exact .dct h
theorem Thing.but {H H' : Hp} {p l : Addr} {v : V} (h : Thing H p l v) (e : But p l H H') : Thing H' p l v := by
  cases h with
  | int i => exact .int i
  | str i => exact .str i
  | non => exact .non
  | bl i => exact .bl i
  | tup h h1 h2 => exact .tup (e _ _ h1 h2 h) h1 h2
  | lst h hb ne h1 h2 h3 h4 => exact .lst (e _ _ h1 h2 h) (e _ _ h3 h4 hb) ne h1 h2 h3 h4
  | dct h h1 h2 => exact .dct (e _ _ h1 h2 h) h1 h2
theorem kix_lt : ∀ k : _root_.Fin 20, kix.getD k.val 0 < exA.length := by decide +kernel
def spCaught : Sp := fun vs H Q _ => ∃ x, vs = [x] ∧ ∀ H' q t u, Ext H H' → H' q = some (.tup [.ref t, .ref u, .bl false, .bl true]) → H' t = some (.lst [.int 5]) → H' u = some (.lst []) → Q (.ref q) H'
theorem sc_law : FnScope ["script", "state", "k", "at", "one", "two", "made", "kept", "other", "others", "e"] ["script"] (defScope s_law) := ⟨rfl, rfl, rfl, by decide +kernel, rfl, by decide +kernel, by decide +kernel⟩
section
variable {P : Program} {w : World} {K : PySem.W.Frag} {mg : Str → Option Value} {base : Heap} {f : Addr} {fd : FuncData} {ca : Nat → Addr}
/-- all the law's defs but itself -/
structure Defs (P : Program) (w : World) (K : PySem.W.Frag) (mg : Str → Option Value) (base : Heap) (ca : Nat → Addr) where
  (fSt fOb fMa fKi fOt fVe fOs fPi fCa : Addr)
  (dSt dOb dMa dKi dOt dVe dOs dPi dCa : FuncData)
  (FSt : FnK K "_law_start" s_law_start fSt dSt) (gSt : mg "_law_start" = some (.ref fSt)) (GSt : FnOk P w K mg base CX0 1 fSt dSt ["script"] (spStart K))
  (FOb : FnK K "_law_object" s_law_object fOb dOb) (gOb : mg "_law_object" = some (.ref fOb)) (GOb : FnOk P w K mg base CX0 3 fOb dOb ["state"] spObj)
  (FMa : FnK K "_law_made_at" s_law_made_at fMa dMa) (gMa : mg "_law_made_at" = some (.ref fMa)) (GMa : FnOk P w K mg base CX0 4 fMa dMa ["at", "x"] (spMade ca 0 20))
  (FKi : FnK K "_law_kinds_of" s_law_kinds_of fKi dKi) (gKi : mg "_law_kinds_of" = some (.ref fKi)) (GKi : FnOk P w K mg base CX0 1 fKi dKi ["e"] (spKinds ca))
  (FOt : FnK K "_law_is_other" s_law_is_other fOt dOt) (gOt : mg "_law_is_other" = some (.ref fOt)) (GOt : FnOk P w K mg base CX0 1 fOt dOt ["e"] (spOther ca))
  (FVe : FnK K "_law_very" s_law_very fVe dVe) (gVe : mg "_law_very" = some (.ref fVe)) (GVe : FnOk P w K mg base CX0 4 fVe dVe ["found", "due"] spVery)
  (FOs : FnK K "_law_others" s_law_others fOs dOs) (gOs : mg "_law_others" = some (.ref fOs)) (GOs : FnOk P w K mg base CX0 3 fOs dOs ["x"] (spOthers ca))
  (FPi : FnK K "_law_pick" s_law_pick fPi dPi) (gPi : mg "_law_pick" = some (.ref fPi)) (GPi : FnOk P w K mg base CX0 1 fPi dPi ["state", "many"] spPick)
  (FCa : FnK K "_law_caught" s_law_caught fCa dCa) (gCa : mg "_law_caught" = some (.ref fCa)) (GCa : FnOk P w K mg base CX0 4 fCa dCa ["x"] spCaught)
def spLaw (K : PySem.W.Frag) : Sp := fun vs H Q _ => ∃ (a : Addr) (ns : List Int), vs = [.ref a] ∧ SqL K H a (ns.map V.int) ∧ ns.length ≤ 63 ∧ ∀ H', Q (.bl true) H'
theorem ok_law (F : FnK K "law" s_law f fd) (b : Bs mg) (cl : Exs P w K mg base exA ca) (T : Defs P w K mg base ca) : FnOk P w K mg base CX0 5 f fd ["script"] (spLaw K) := by
  obtain ⟨fSt, fOb, fMa, fKi, fOt, fVe, fOs, fPi, fCa, dSt, dOb, dMa, dKi, dOt, dVe, dOs, dPi, dCa, F_law_start, gm_law_start, G_law_start, F_law_object, gm_law_object, G_law_object, F_law_made_at, gm_law_made_at, G_law_made_at,
    F_law_kinds_of, gm_law_kinds_of, G_law_kinds_of, F_law_is_other, gm_law_is_other, G_law_is_other, F_law_very, gm_law_very, G_law_very, F_law_others, gm_law_others, G_law_others, F_law_pick, gm_law_pick, G_law_pick, F_law_caught, gm_law_caught, G_law_caught⟩ := T
  have B_law_start : Binds K dSt ["script"] [] := F_law_start.bindsN fun _ _ _ _ _ _ us hl => match us, hl with | [_], _ => rfl
  have B_law_object : Binds K dOb ["state"] [] := F_law_object.bindsN fun _ _ _ _ _ _ us hl => match us, hl with | [_], _ => rfl
  have B_law_made_at : Binds K dMa ["at", "x"] [] := F_law_made_at.bindsN fun _ _ _ _ _ _ us hl => match us, hl with | [_, _], _ => rfl
  have B_law_kinds_of : Binds K dKi ["e"] [] := F_law_kinds_of.bindsN fun _ _ _ _ _ _ us hl => match us, hl with | [_], _ => rfl
  have B_law_is_other : Binds K dOt ["e"] [] := F_law_is_other.bindsN fun _ _ _ _ _ _ us hl => match us, hl with | [_], _ => rfl
  have B_law_very : Binds K dVe ["found", "due"] [] := F_law_very.bindsN fun _ _ _ _ _ _ us hl => match us, hl with | [_, _], _ => rfl
  have B_law_others : Binds K dOs ["x"] [] := F_law_others.bindsN fun _ _ _ _ _ _ us hl => match us, hl with | [_], _ => rfl
  have B_law_pick : Binds K dPi ["state", "many"] [] := F_law_pick.bindsN fun _ _ _ _ _ _ us hl => match us, hl with | [_, _], _ => rfl
  have B_law_caught : Binds K dCa ["x"] [] := F_law_caught.bindsN fun _ _ _ _ _ _ us hl => match us, hl with | [_], _ => rfl
  refine F.ok sc_law (fun vs H Q E h => ?_) (fun cdv A outer s H vs Q E hr h => ?_)
  · obtain ⟨a, ns, rfl, _⟩ := h
    rfl
  · obtain ⟨a, ns, rfl, hS, hl, hq⟩ := h
    refine ⟨_, PSs.nox (pss_cons (ps_set (i := 1) sc_law.nd rfl (.inl rfl) (pe_call G_law_start (hr.mono (by omega)) (by rfl) gm_law_start F_law_start.kp B_law_start .nil pass0 (pa_cons (pv 0) pa_nil)))
      (pss_cons (ps_for PassesOwn.never rfl (pi_range1 (by rfl) b.range (pa_cons pe_int pa_nil)) (pg_name (i := 2) sc_law.nd rfl (.inl rfl)) (Evl.pss_cut (ps_set (i := 3) sc_law.nd rfl (.inl rfl) (pe_ifExp (pt_cmpR op_lt (pv 2) pe_int (nomark _)) (pe_op op_mod (pe_callTy call_int1 (by rfl) b.int (by decide +kernel) (pa_cons (pe_op op_add (pv 2) (pe_call G_law_pick (hr.mono (by omega)) (by rfl) gm_law_pick F_law_pick.kp B_law_pick .nil pass0 (pa_cons (pv 1) (pa_cons pe_int pa_nil)))) pa_nil)) pe_int) (pe_op op_sub (pv 2) pe_int)))
      (pss_cons (ps_par (i := 4) (j := 5) (by rfl) sc_law.nd rfl rfl (by decide) rfl rfl (pa_cons (pe_call G_law_object (hr.mono (by omega)) (by rfl) gm_law_object F_law_object.kp B_law_object .nil pass0 (pa_cons (pv 1) pa_nil)) (pa_cons (pe_call G_law_object (hr.mono (by omega)) (by rfl) gm_law_object F_law_object.kp B_law_object .nil pass0 (pa_cons (pv 1) pa_nil)) pa_nil)) (by rfl))
      (pss_cons (ps_asg (pe_call G_law_made_at (hr.mono (by omega)) (by rfl) gm_law_made_at F_law_made_at.kp B_law_made_at .nil pass0 (pa_cons (pv 3) (pa_cons (pv 4) pa_nil))) (pg_tup rfl (pgs_cons (pg_name (i := 6) sc_law.nd rfl (.inl rfl)) (pgs_cons (pg_name (i := 7) sc_law.nd rfl (.inl rfl)) pgs_nil))))
      (pss_cons (ps_asg (pe_call G_law_made_at (hr.mono (by omega)) (by rfl) gm_law_made_at F_law_made_at.kp B_law_made_at .nil pass0 (pa_cons (pv 3) (pa_cons (pv 5) pa_nil))) (pg_tup rfl (pgs_cons (pg_name (i := 8) sc_law.nd rfl (.inl rfl)) (pgs_cons (pg_name (i := 9) sc_law.nd rfl (.inl rfl)) pgs_nil))))
      (pss_cons (ps_if ((pw_or (pt_not (pt_val (pe_callB call_isY (by rfl) b.isinstance (by decide +kernel) (pa_cons (pv 6) (pa_cons (pe_glob (v := .ref (ca 0)) (by rfl) (cl.a0 0 "PoolError" rfl).1 rfl) pa_nil))))) (pw_or (pt_not (pt_val (pe_callB call_isY (by rfl) b.isinstance (by decide +kernel) (pa_cons (pv 6) (pa_cons (pe_bltn (v := .ty "ValueError") (by rfl) b.ValueError (by decide +kernel) rfl) pa_nil))))) (pw_or1 (pt_cmpR (op_neD hr.units) (pe_call G_law_kinds_of (hr.mono (by omega)) (by rfl) gm_law_kinds_of F_law_kinds_of.kp B_law_kinds_of .nil pass0 (pa_cons (pv 6) pa_nil)) (pe_lst (pa_cons (pv 3) pa_nil)) (nomark _)))))).pt (pss_one (ps_ret pe_bl)) pss_nil)
      (pss_cons (ps_if ((pw_or (pt_val (pe_call G_law_is_other (hr.mono (by omega)) (by rfl) gm_law_is_other F_law_is_other.kp B_law_is_other .nil pass0 (pa_cons (pv 6) pa_nil))) (pw_or (pt_val (pe_callB call_isYT (by rfl) b.isinstance (by decide +kernel) (pa_cons (pv 6) (pa_cons (pe_tup (pa_cons (pe_bltn (v := .ty "KeyError") (by rfl) b.KeyError (by decide +kernel) rfl) (pa_cons (pe_bltn (v := .ty "IndexError") (by rfl) b.IndexError (by decide +kernel) rfl) (pa_cons (pe_bltn (v := .ty "TypeError") (by rfl) b.TypeError (by decide +kernel) rfl) pa_nil)))) pa_nil)))) (pw_or1 (pt_not (pt_val (pe_callB call_isY (by rfl) b.isinstance (by decide +kernel) (pa_cons (pv 8) (pa_cons (pe_glob (v := .ref (ca 0)) (by rfl) (cl.a0 0 "PoolError" rfl).1 rfl) pa_nil))))))))).pt (pss_one (ps_ret pe_bl)) pss_nil)
      (pss_one (ps_if ((pw_or (pt_not (pt_val (pe_call G_law_very (hr.mono (by omega)) (by rfl) gm_law_very F_law_very.kp B_law_very .nil pass0 (pa_cons (pv 7) (pa_cons (pv 4) pa_nil))))) (pw_or1 (pt_not (pt_val (pe_call G_law_very (hr.mono (by omega)) (by rfl) gm_law_very F_law_very.kp B_law_very .nil pass0 (pa_cons (pv 9) (pa_cons (pv 5) pa_nil)))))))).pt (pss_one (ps_ret pe_bl)) pss_nil)))))))))
      (pss_cons (ps_if (pt_not (pt_val (pe_callB (cr_all rfl) (by rfl) b.all (by decide +kernel) (pa_cons (pe_lc (own := [("e", 10)]) (g := (gName 10)) (tt := tYes) rfl sc_law.nd (pi_list (pe_call G_law_others (hr.mono (by omega)) (by rfl) gm_law_others F_law_others.kp B_law_others .nil pass0 (pa_cons (pe_call G_law_pick (hr.mono (by omega)) (by rfl) gm_law_pick F_law_pick.kp B_law_pick .nil pass0 (pa_cons (pv 1) (pa_cons pe_int pa_nil))) pa_nil))) (blkOk_by (N := ["script", "state", "k", "at", "one", "two", "made", "kept", "other", "others", "e"]) (sc := defScope s_law) (by decide +kernel)) (fun _ _ _ _ _ => (pg_name (i := 10) sc_law.nd rfl (.inl rfl) (.inr rfl))) (fun _ _ _ _ _ => pts_nil) (fun _ _ _ _ _ => (pe_cmpR (show OpR _ _ (rEqD K) from op_eqD hr.units) (pe_call G_law_kinds_of (hr.mono (by omega)) (by rfl) gm_law_kinds_of F_law_kinds_of.kp B_law_kinds_of .nil pass0 (pa_cons (pv 10) pa_nil)) (pe_lst pa_nil) (nomark _)))) pa_nil)))) (pss_one (ps_ret pe_bl)) pss_nil)
      (pss_one (ps_ret (pe_cmpR (op_eqD hr.units) (pe_call G_law_caught (hr.mono (by omega)) (by rfl) gm_law_caught F_law_caught.kp B_law_caught .nil pass0 (pa_cons (pe_call G_law_object (hr.mono (by omega)) (by rfl) gm_law_object F_law_object.kp B_law_object .nil pass0 (pa_cons (pv 1) pa_nil)) pa_nil)) (pe_tup (pa_cons (pe_lst (pa_cons pe_int pa_nil)) (pa_cons (pe_lst pa_nil) (pa_cons pe_bl (pa_cons pe_bl pa_nil))))) (nomark _))))))), ?_⟩
    repeat walk_at "s1"
    refine ⟨a, ns, rfl, hS, hl, fun H1 p l E1 np nl S1 => ?_⟩
    repeat walk_at "s1"
    -- for k in range(40)
    refine for_it walk_range (fun k σ' H' => ∃ y2 y3 y4 y5 y6 y7 y8 y9 y10, σ' = [some (.ref a), some (.ref p), y2, y3, y4, y5, y6, y7, y8, y9, y10] ∧ Sta H' p l (100 * k)) ⟨_, _, _, _, _, _, _, _, _, rfl, S1.mono (by simp)⟩ (fun _ _ _ _ _ => trivial) (fun k x σ' H2 H3 hk z y => ?_) (fun σ' H' z => ?_)
    · obtain ⟨y2, y3, y4, y5, y6, y7, y8, y9, y10, rfl, S2⟩ := z
      obtain ⟨rfl, hx⟩ := y
      have hk : k < 40 := hk
      obtain rfl : x = V.int (k : Int) := hx.trans (congrArg V.int (by omega))
      clear hx
      repeat walk_at "s1"
      refine ⟨fun σ' H' => ∃ m : Nat, m < 20 ∧ σ' = [some (.ref a), some (.ref p), some (.int (k : Int)), some (.int (m : Int)), y4, y5, y6, y7, y8, y9, y10] ∧ Sta H' p l (100 * k + 1), ?_, fun σ' H4 z => ?_⟩
      · repeat walk_at "s1"
        refine iteE (fun e => ?_) (fun e => ?_)
        · have e' : (k : Int) < 20 := of_decide_eq_true e
          repeat walk_at "s1"
          refine ⟨p, l, 20, _, rfl, by omega, by omega, ?_, S2, fun H4 n bt S3 n0 n1 => ?_⟩
          · omega
          repeat walk_at "s1"
          have e2 : ((((k : Int) + n) % 20).toNat : Int) = ((k : Int) + n) % 20 := by omega
          refine ⟨(((k : Int) + n) % 20).toNat, by omega, ?_, S3.mono (by omega)⟩
          rw [e2]; rfl
        · have e' : ¬ (k : Int) < 20 := of_decide_eq_false e
          repeat walk_at "s1"
          refine ⟨k - 20, by omega, ?_, S2.mono (by omega)⟩
          have e2 : ((k - 20 : Nat) : Int) = (k : Int) - 20 := by omega
          rw [e2]; rfl
      · obtain ⟨m, hm, rfl, S3⟩ := z
        have hj : kix.getD m 0 < exA.length := kix_lt ⟨m, hm⟩
        have hj0 : kix.getD m 0 < 60 := hj
        with_reducible refine u_seq ?_
        with_reducible refine u_par ?_
        repeat walk_at "s1"
        refine ⟨p, l, _, rfl, by omega, S3, fun H5 v bt5 S5 th5 => ?_⟩
        repeat walk_at "s1"
        refine ⟨p, l, _, rfl, by omega, S5, fun H6 v2 bt6 S6 th6 => ?_⟩
        have ov := (th5.but bt6).obj
        have ov2 := th6.obj
        clear th5 th6 bt5 bt6
        repeat walk_at "s1"
        intro H7 q E7 Md
        obtain ⟨ae, eq, ie, nq⟩ := Md
        refine ⟨q, _, rfl, .inl (.inl eq), rfl, _, _, rfl, _, _, rfl, rfl, ?_⟩
        repeat walk_at "s1"
        intro H8 q2 E8 Md2
        obtain ⟨ae2, eq2, ie2, nq2⟩ := Md2
        refine ⟨q2, _, rfl, .inl (.inl eq2), rfl, _, _, rfl, _, _, rfl, rfl, ?_⟩
        have ie8 := ie.ext E8
        have E68 : Ext H6 H8 := fun c o h => E8 _ _ (E7 _ _ h)
        clear ie eq eq2 nq nq2
        repeat walk_at "s1"
        refine r_isEv cl ie8 hj (by decide +kernel) (b := true) (by decide +kernel) ?_
        repeat walk_at "s1"
        refine ⟨ae, _, rfl, hj0, ie8, fun H10 p3 E10 np3 e3 => ?_⟩
        rw [kinds_own ⟨m, hm⟩] at e3
        repeat walk_at "s1"
        intro u nu
        have E11 : Ext H8 (upd H10 u (.lst [.int (m : Int)])) := ext_new E10 nu
        refine ⟨.list (([(m : Int)] : List Int).map .int), .list (([(m : Int)] : List Int).map .int), .lst (.inl (.inl ((upd_ne (ne_of_none e3 nu)).trans e3))) (dpI [(m : Int)]), .lst (.inl (.inl upd_same)) (dpI [(m : Int)]), shI _, shI _, ?_⟩
        rw [eqI, decide_eq_true rfl]
        generalize upd H10 u (HO.lst [.int (m : Int)]) = H11 at E11 ⊢
        have ie11 := ie8.ext E11
        have i211 := ie2.ext E11
        clear ie8 ie2 e3 nu np3 E10
        repeat walk_at "s1"
        refine ⟨ae, _, rfl, hj0, ie11, fun H12 E12 => ?_⟩
        rw [oth_own ⟨m, hm⟩]
        have ie12 := ie11.ext E12
        have i212 := i211.ext E12
        clear ie11 i211
        repeat walk_at "s1"
        intro tp ntp
        have E13 : Ext H12 (upd H12 tp (.tup [.ty "KeyError", .ty "IndexError", .ty "TypeError"])) := ext_new (fun _ _ z => z) ntp
        have et : (upd H12 tp (.tup [.ty "KeyError", .ty "IndexError", .ty "TypeError"])) tp = some (.tup [.ty "KeyError", .ty "IndexError", .ty "TypeError"]) := upd_same
        generalize upd H12 tp (HO.tup [.ty "KeyError", .ty "IndexError", .ty "TypeError"]) = H13 at E13 et ⊢
        have ie13 := ie12.ext E13
        have i213 := i212.ext E13
        clear ie12 i212
        with_reducible refine u_nil ?_
        refine r_isETv cl ie13 hj ["KeyError", "IndexError", "TypeError"] (by decide +kernel) et (b := false) (by decide +kernel) ?_
        repeat walk_at "s1"
        have E613 : Ext H6 H13 := fun c o h => E13 _ _ (E12 _ _ (E11 _ _ (E68 _ _ h)))
        refine ⟨ov.ext E613, fun H14 E14 => ?_⟩
        repeat walk_at "s1"
        refine ⟨ov2.ext fun c o h => E14 _ _ (E613 _ _ h), fun H15 E15 => ?_⟩
        repeat walk_at "s1"
        exact ⟨_, _, _, _, _, _, _, _, _, rfl, (S6.ext fun c o h => E15 _ _ (E14 _ _ (E613 _ _ h))).mono (by omega)⟩
    · obtain ⟨y2, y3, y4, y5, y6, y7, y8, y9, y10, rfl, S2⟩ := z
      repeat walk_at "s1"
      refine ⟨p, l, 9, _, rfl, by omega, by omega, by simp, S2, fun H2 n bt S3 _ _ => ?_⟩
      repeat walk_at "s1"
      intro H3 q as E3 nq eq hl er
      repeat walk_at "s1"
      refine ⟨⟨_, .inl (.inl eq)⟩, fun D nD => ?_⟩
      refine lc_it (walk_list (K := K) (a := q) (xs := as.map V.ref)) (fun n G => Ext H3 G ∧ G D = some (.lst (List.replicate n (.bl true)))) ⟨ext_new (fun _ _ z => z) nD, upd_same⟩ (fun n G _ z => .inl (.inl (z.1 _ _ eq))) (fun n e G G2 hn z y => ?_) (fun G z => ?_)
      · obtain ⟨ex, eD⟩ := z
        obtain ⟨rfl, he⟩ := y
        rw [List.length_map] at hn
        rw [List.getElem?_map, List.getElem?_eq_getElem hn] at he
        obtain rfl : V.ref as[n] = e := by simpa using he
        obtain ⟨j, hj0, hjk, ie⟩ := er as[n] (List.getElem_mem hn)
        have hj : j < exA.length := hj0
        have ie := ie.ext ex
        refine ⟨rfl, ?_⟩
        repeat walk_at "s1"
        refine ⟨_, j, rfl, hj0, ie, fun H10 p3 E10 np3 e3 => ?_⟩
        rw [kinds_oth ⟨j, hj0⟩ hjk] at e3
        repeat walk_at "s1"
        intro u nu
        have E11 : Ext G2 (upd H10 u (.lst [])) := ext_new E10 nu
        refine ⟨.list (([] : List Int).map .int), .list (([] : List Int).map .int), .lst (.inl (.inl ((upd_ne (ne_of_none e3 nu)).trans e3))) (dpI []), .lst (.inl (.inl upd_same)) (dpI []), shI _, shI _, ?_⟩
        rw [eqI, decide_eq_true rfl]
        have eD2 := E11 _ _ eD
        generalize upd H10 u (HO.lst []) = H12 at E11 eD2 ⊢
        refine ⟨_, eD2, by rw [List.length_replicate]; exact small1000 (by omega), fun c o h => (upd_ne (ne_of_none h nD)).trans (E11 _ _ (ex c o h)), ?_⟩
        rw [upd_same, List.replicate_succ']
      · obtain ⟨ex, eD⟩ := z
        repeat walk_at "s1"
        refine ⟨D, List.replicate (as.map V.ref).length true, rfl, .inl (.inl (by rw [List.map_replicate]; exact eD)), ?_⟩
        have e : (List.replicate (as.map V.ref).length true).all id = true := by simp
        rw [e]
        have S4 : Sta G p l (100 * ↑(Int.toNat 40) + 1) := S3.ext fun c o h => ex _ _ (E3 _ _ h)
        clear ex eD E3 eq er
        repeat walk_at "s1"
        refine ⟨p, l, _, rfl, by simp, S4, fun H5 v bt5 S5 th5 => ?_⟩
        repeat walk_at "s1"
        intro H6 q6 t6 u6 E6 eq6 et6 eu6
        repeat walk_at "s1"
        intro t2 nt2
        repeat walk_at "s1"
        intro u2 nu2
        repeat walk_at "s1"
        intro q7 nq7
        have Ea : Ext H6 (upd H6 t2 (.lst [.int 5])) := ext_new (fun _ _ z => z) nt2
        have et2 : (upd H6 t2 (.lst [.int 5])) t2 = some (.lst [.int 5]) := upd_same
        generalize upd H6 t2 (HO.lst [.int 5]) = Ha at *
        have Eb : Ext Ha (upd Ha u2 (.lst [])) := ext_new (fun _ _ z => z) nu2
        have eu2 : (upd Ha u2 (.lst [])) u2 = some (.lst []) := upd_same
        generalize upd Ha u2 (HO.lst []) = Hb at *
        have Ec : Ext Hb (upd Hb q7 (.tup [.ref t2, .ref u2, .bl false, .bl true])) := ext_new (fun _ _ z => z) nq7
        have eq7 : (upd Hb q7 (.tup [.ref t2, .ref u2, .bl false, .bl true])) q7 = some (.tup [.ref t2, .ref u2, .bl false, .bl true]) := upd_same
        generalize upd Hb q7 (HO.tup [.ref t2, .ref u2, .bl false, .bl true]) = Hc at *
        have E6c : Ext H6 Hc := fun c o h => Ec _ _ (Eb _ _ (Ea _ _ h))
        refine ⟨.tuple [.list (([5] : List Int).map .int), .list (([] : List Int).map .int), .bool false, .bool true], .tuple [.list (([5] : List Int).map .int), .list (([] : List Int).map .int), .bool false, .bool true],
          .tup (.inl (.inl (E6c _ _ eq6))) (.cons (.lst (.inl (.inl (E6c _ _ et6))) (dpI [5])) (.cons (.lst (.inl (.inl (E6c _ _ eu6))) (dpI [])) (.cons (.bl _) (.cons (.bl _) .nil)))),
          .tup (.inl (.inl eq7)) (.cons (.lst (.inl (.inl (Ec _ _ (Eb _ _ et2)))) (dpI [5])) (.cons (.lst (.inl (.inl (Ec _ _ eu2))) (dpI [])) (.cons (.bl _) (.cons (.bl _) .nil)))), by decide +kernel, by decide +kernel, ?_⟩
        have e9 : PyData.eqv (.tuple [.list (([5] : List Int).map .int), .list (([] : List Int).map .int), .bool false, .bool true]) (.tuple [.list (([5] : List Int).map .int), .list (([] : List Int).map .int), .bool false, .bool true]) = true := by decide +kernel
        rw [e9]
        exact hq _
end
end K95


namespace K95
open PySem PySem.Spec PyProof.Rows L2 L2Z
open L2H (RoomH Hot1 HotC cxH)
local macro_rules | `(tactic| walk_at "ty") => `(tactic| first | exact .old (.base (.int _)) | exact .old (.base (.str _)) | exact .old (.base .non) | exact .old (.base (.bl _)) | exact .old (.base (.lst (by walk_at "hp"))) | exact .old (.base (.tup (by walk_at "hp"))) | exact .old (.base (.dK (by walk_at "hp"))))
local macro_rules | `(tactic| walk_at "hne") => `(tactic| first | assumption | exact Ne.symm (by assumption) | (refine' ne_of_none ?hn1 ?hn2; rotate_left; (case hn2 => assumption); (case hn1 => walk_at "hp")) | (refine' Ne.symm (ne_of_none ?hn1 ?hn2); rotate_left; (case hn2 => assumption); (case hn1 => walk_at "hp")))
local macro_rules | `(tactic| walk_at "hp") => `(tactic| first | exact upd_same | assumption | (refine' (upd_ne ?hpn).trans ?hpg; (case hpn => walk_at "hne"); (case hpg => walk_at "hp")))
local macro_rules | `(tactic| walk_at "cond") => `(tactic| first | omega | decide | assumption | exact Nat.le_of_lt (small1000 (by simp)))
local macro_rules | `(tactic| walk_at "s1") => `(tactic| first
  | with_reducible refine u_var rfl ?_
  | with_reducible refine u_op ?_
  | with_reducible refine u_un ?_
  | with_reducible refine u_cb ?_
  | with_reducible refine u_nil ?_
  | with_reducible refine u_cons ?_
  | with_reducible refine u_asg ?_
  | with_reducible refine u_name ?_
  | with_reducible refine u_sub ?_
  | with_reducible refine u_seq ?_
  | with_reducible refine u_ret ?_
  | with_reducible refine u_next ?_
  | with_reducible refine u_drop ?_
  | with_reducible refine u_test ?_
  | with_reducible refine u_b ?_
  | with_reducible refine u_ifS ?_
  | with_reducible refine u_if ?_
  | with_reducible refine u_and ?_
  | with_reducible refine u_or ?_
  | with_reducible refine u_not ?_
  | with_reducible refine u_andV ?_
  | with_reducible refine u_orV ?_
  | with_reducible refine u_notV ?_
  | with_reducible refine u_tup ?_
  | with_reducible refine u_lst ?_
  | with_reducible refine u_call ?_
  | with_reducible refine u_bm ?_
  | with_reducible refine u_bm0 ?_
  | with_reducible refine u_yes ?_
  | with_reducible refine u_c ?_
  | with_reducible refine u_bl ?_
  | ((with_reducible refine' iteF' ?hc ?_); (case hc => first | rfl | simp; done))
  | ((with_reducible refine' iteT' ?hc ?_); (case hc => first | rfl | simp; done))
  | with_reducible refine r_I0 ?_
  | with_reducible refine r_I (by walk_at "cond") ?_
  | refine r_I (show CDiv _ _ from ⟨by omega, by omega⟩) ?_
  | refine r_I (show CMul _ _ from .inl ⟨by omega, by omega⟩) ?_
  | refine r_I (show CMul _ _ from .inr ⟨by omega, by omega⟩) ?_
  | refine r_I (show CPow _ _ from ⟨by omega, by omega, by omega⟩) ?_
  | with_reducible refine r_U ?_
  | with_reducible refine r_Eq rfl ?_
  | with_reducible refine r_Ne rfl ?_
  | ((with_reducible refine' r_ixL ?hx ?he ?_); (case hx => walk_at "hp"); (case he => rfl))
  | ((with_reducible refine' r_ixT ?hx ?he ?_); (case hx => walk_at "hp"); (case he => rfl))
  | ((with_reducible refine' r_setL ?hx ?he ?_); (case hx => walk_at "hp"); (case he => rfl))
  | with_reducible refine r_isN ?_
  | with_reducible refine u_mk0 ?_
  | with_reducible refine u_mkE ?_
  | with_reducible refine u_xf ?_
  | ((with_reducible refine' r_isE ?hcl ?hx ?hi ?hj ?_); (case hcl => assumption); (case hx => assumption); (case hi => assumption); (case hj => decide))
  | ((with_reducible refine' r_isB (r := true) ?hx ?he ?_); (case hx => walk_at "ty"); (case he => decide +kernel))
  | ((with_reducible refine' r_isB (r := false) ?hx ?he ?_); (case hx => walk_at "ty"); (case he => decide +kernel))
  | with_reducible refine And.intro (by walk_at "cond") ?_
  | refine ⟨_, rfl, ?_⟩
  | refine ⟨_, _, rfl, ?_⟩
  | refine .inl ⟨_, rfl, ?_⟩)
local macro_rules | `(tactic| walk_at "mkas") => `(tactic| first | exact mka_nil | (refine mka_cons rfl ?_; walk_at "mkas") | (refine mka_cons0 ?_; walk_at "mkas"))
section
variable {P : Program} {w : World} {K : PySem.W.Frag} {mg : Str → Option Value} {base : Heap} {f : Addr} {fd : FuncData} {ca : Nat → Addr} {i a d : Nat}
theorem r_isP {H : Hp} {Q : VK} {fs : List (Str × V)} {j : Nat} (cl : Exs P w K mg base exA ca) (hi : i < exA.length) (ed : H d = some (exd d fs)) (hj : j < exA.length) (q : Q (.bl (decide (j = i ∨ j = 0))) H) : rIsP K a (ca i) d [.ref a, .ref (ca j)] H Q :=
  ⟨_, _, _, fs, rfl, .own _, kit_ix cl hi hj, ed, q⟩
def spKindsZ (i a d : Nat) : Sp := fun vs H Q _ => vs = [.ref a] ∧ (∃ fs, H d = some (exd d fs)) ∧ ∀ H' p, Ext H H' → H p = none → H' p = some (.lst (kinds i)) → Q (.ref p) H'
theorem ok_kindsZ (F : FnK K "_law_kinds_of" s_law_kinds_of f fd) (b : Bs mg) (cl : Exs P w K mg base exA ca) (hi0 : i < 60) : FnZ P w K mg base (Zd a (ca i) d) 1 f fd ["e"] (spKindsZ i a d) := by
  have hi : i < exA.length := hi0
  have TC : ExC K (ca i) := (cl.sh i hi).2
  refine FunD.okZ F sc_law_kinds_of (fun vs H Q E h => ?_) (fun cdv A up t0 H vs Q p hz hot hr h => ?_)
  · obtain ⟨rfl, _⟩ := h
    rfl
  · obtain ⟨rfl, ⟨fs, ed⟩, hq⟩ := h
    have hpn : p ∈ [p] := List.mem_singleton.mpr rfl
    have hotX : HotC (cxH CX0 P w K mg base ["e", "told", "k"] "_law_kinds_of" (defScope s_law_kinds_of) f cdv A up t0 H E0 p) := ⟨p, hot, hpn⟩
    refine ⟨_, (pss_cons (ps_set (i := 1) sc_law_kinds_of.nd rfl (.inr rfl) (pe_lst (pa_cons (pe_callB (call_isP TC hpn hz) (by rfl) b.isinstance (by decide +kernel) (pa_cons (pv 0) (pa_cons (pe_glob (v := .ref (ca 12)) (by rfl) (cl.a1 12 "BadWanted" "index" rfl).1 rfl) pa_nil))) (pa_cons (pe_callB (call_isP TC hpn hz) (by rfl) b.isinstance (by decide +kernel) (pa_cons (pv 0) (pa_cons (pe_glob (v := .ref (ca 13)) (by rfl) (cl.a1 13 "BadPrices" "prices" rfl).1 rfl) pa_nil))) (pa_cons (pe_callB (call_isP TC hpn hz) (by rfl) b.isinstance (by decide +kernel) (pa_cons (pv 0) (pa_cons (pe_glob (v := .ref (ca 14)) (by rfl) (cl.a1 14 "BadOthers" "index" rfl).1 rfl) pa_nil))) (pa_cons (pe_callB (call_isP TC hpn hz) (by rfl) b.isinstance (by decide +kernel) (pa_cons (pv 0) (pa_cons (pe_glob (v := .ref (ca 15)) (by rfl) (cl.a1 15 "BadUntrue" "index" rfl).1 rfl) pa_nil))) pa_nil))))))
      (pss_cons (ps_expr (pe_bm PySem.F.plainAttrs_list PySem.F.slot_list_extend PySem.F.type_list_extend mt_extend (pv 1) (pa_cons (pe_lst (pa_cons (pe_callB (call_isP TC hpn hz) (by rfl) b.isinstance (by decide +kernel) (pa_cons (pv 0) (pa_cons (pe_glob (v := .ref (ca 16)) (by rfl) (cl.a1 16 "NotTogether" "untrue" rfl).1 rfl) pa_nil))) (pa_cons (pe_callB (call_isP TC hpn hz) (by rfl) b.isinstance (by decide +kernel) (pa_cons (pv 0) (pa_cons (pe_glob (v := .ref (ca 17)) (by rfl) (cl.a1 17 "BadLinks" "index" rfl).1 rfl) pa_nil))) (pa_cons (pe_callB (call_isP TC hpn hz) (by rfl) b.isinstance (by decide +kernel) (pa_cons (pv 0) (pa_cons (pe_glob (v := .ref (ca 18)) (by rfl) (cl.a1 18 "BadPartition" "partition" rfl).1 rfl) pa_nil))) (pa_cons (pe_callB (call_isP TC hpn hz) (by rfl) b.isinstance (by decide +kernel) (pa_cons (pv 0) (pa_cons (pe_glob (v := .ref (ca 19)) (by rfl) (cl.a1 19 "BadWorlds" "count" rfl).1 rfl) pa_nil))) pa_nil))))) pa_nil)))
      (pss_cons (ps_expr (pe_bm PySem.F.plainAttrs_list PySem.F.slot_list_extend PySem.F.type_list_extend mt_extend (pv 1) (pa_cons (pe_lst (pa_cons (pe_callB (call_isP TC hpn hz) (by rfl) b.isinstance (by decide +kernel) (pa_cons (pv 0) (pa_cons (pe_glob (v := .ref (ca 20)) (by rfl) (cl.a1 20 "BadViews" "told" rfl).1 rfl) pa_nil))) (pa_cons (pe_callB (call_isP TC hpn hz) (by rfl) b.isinstance (by decide +kernel) (pa_cons (pv 0) (pa_cons (pe_glob (v := .ref (ca 21)) (by rfl) (cl.a1 21 "BadPeople" "people" rfl).1 rfl) pa_nil))) (pa_cons (pe_callB (call_isP TC hpn hz) (by rfl) b.isinstance (by decide +kernel) (pa_cons (pv 0) (pa_cons (pe_glob (v := .ref (ca 22)) (by rfl) (cl.a1 22 "NoPerson" "word" rfl).1 rfl) pa_nil))) (pa_cons (pe_callB (call_isP TC hpn hz) (by rfl) b.isinstance (by decide +kernel) (pa_cons (pv 0) (pa_cons (pe_glob (v := .ref (ca 23)) (by rfl) (cl.a1 23 "BadEvent" "event" rfl).1 rfl) pa_nil))) pa_nil))))) pa_nil)))
      (pss_cons (ps_expr (pe_bm PySem.F.plainAttrs_list PySem.F.slot_list_extend PySem.F.type_list_extend mt_extend (pv 1) (pa_cons (pe_lst (pa_cons (pe_callB (call_isP TC hpn hz) (by rfl) b.isinstance (by decide +kernel) (pa_cons (pv 0) (pa_cons (pe_glob (v := .ref (ca 24)) (by rfl) (cl.a1 24 "BadWorld" "world" rfl).1 rfl) pa_nil))) (pa_cons (pe_callB (call_isP TC hpn hz) (by rfl) b.isinstance (by decide +kernel) (pa_cons (pv 0) (pa_cons (pe_glob (v := .ref (ca 25)) (by rfl) (cl.a1 25 "BadGroup" "index" rfl).1 rfl) pa_nil))) (pa_cons (pe_callB (call_isP TC hpn hz) (by rfl) b.isinstance (by decide +kernel) (pa_cons (pv 0) (pa_cons (pe_glob (v := .ref (ca 26)) (by rfl) (cl.a1 26 "BadMost" "most" rfl).1 rfl) pa_nil))) (pa_cons (pe_callB (call_isP TC hpn hz) (by rfl) b.isinstance (by decide +kernel) (pa_cons (pv 0) (pa_cons (pe_glob (v := .ref (ca 27)) (by rfl) (cl.a1 27 "BadEdit" "edit" rfl).1 rfl) pa_nil))) pa_nil))))) pa_nil)))
      (pss_cons (ps_expr (pe_bm PySem.F.plainAttrs_list PySem.F.slot_list_extend PySem.F.type_list_extend mt_extend (pv 1) (pa_cons (pe_lst (pa_cons (pe_callB (call_isP TC hpn hz) (by rfl) b.isinstance (by decide +kernel) (pa_cons (pv 0) (pa_cons (pe_glob (v := .ref (ca 28)) (by rfl) (cl.a1 28 "BadDesk" "desk" rfl).1 rfl) pa_nil))) (pa_cons (pe_callB (call_isP TC hpn hz) (by rfl) b.isinstance (by decide +kernel) (pa_cons (pv 0) (pa_cons (pe_glob (v := .ref (ca 29)) (by rfl) (cl.a1 29 "BadDeskText" "line" rfl).1 rfl) pa_nil))) (pa_cons (pe_callB (call_isP TC hpn hz) (by rfl) b.isinstance (by decide +kernel) (pa_cons (pv 0) (pa_cons (pe_glob (v := .ref (ca 30)) (by rfl) (cl.a0 30 "NothingToUndo" rfl).1 rfl) pa_nil))) (pa_cons (pe_callB (call_isP TC hpn hz) (by rfl) b.isinstance (by decide +kernel) (pa_cons (pv 0) (pa_cons (pe_glob (v := .ref (ca 31)) (by rfl) (cl.a0 31 "NothingToRedo" rfl).1 rfl) pa_nil))) pa_nil))))) pa_nil)))
      (pss_one (ps_ret (pe_lcZ (own := [("k", 2)]) (g := (gName 2)) hotX sc_law_kinds_of.nd (L2H.pi_range1H (by rfl) b.range (pa_cons pe_int pa_nil)) (blkOk_by (N := ["e", "told", "k"]) (sc := defScope s_law_kinds_of) (by decide +kernel)) (fun _ _ _ _ _ => (pg_name (i := 2) sc_law_kinds_of.nd rfl (.inl rfl) (.inr rfl))) (fun _ _ _ _ _ => pts_one (pt_val (pe_ix (show IxR _ (rIxL K) from ix_list) (pv 1) (pv 2) (fun _ _ => rfl)))) (fun _ _ _ _ _ => (pv 2)))))))))), ?_⟩
    repeat first | with_reducible refine r_isP cl hi ed (by decide) ?_ | walk_at "s1"
    intro t nt
    generalize hH1 : upd H t (HO.lst _) = H1
    have E1 : Ext H H1 := hH1 ▸ ext_new (fun _ _ z => z) nt
    have e1 := (congrFun hH1 t).symm.trans upd_same
    have ed1 := E1 _ _ ed
    clear hH1
    repeat walk_at "s1"
    refine ⟨.inl ⟨rfl, _, .inl (.inl e1)⟩, ?_⟩
    repeat first | with_reducible refine r_isP cl hi ed1 (by decide) ?_ | walk_at "s1"
    intro u1 nu
    have nut : t ≠ u1 := ne_of_none e1 nu
    repeat walk_at "s1"
    refine ⟨t, u1, _, _, rfl, rfl, (upd_ne nut).trans e1, upd_same, by walk_at "cond", ?_⟩
    generalize hH2 : upd (upd H1 u1 (HO.lst _)) t (HO.lst _) = H2
    have E2 : Ext H H2 := hH2 ▸ fun c o h => (upd_ne (ne_of_none h nt)).trans (ext_new E1 nu c o h)
    have e2 := (congrFun hH2 t).symm.trans upd_same
    have ed2 := E2 _ _ ed
    clear hH2 nut nu ed1
    repeat walk_at "s1"
    refine ⟨.inl ⟨rfl, _, .inl (.inl e2)⟩, ?_⟩
    repeat first | with_reducible refine r_isP cl hi ed2 (by decide) ?_ | walk_at "s1"
    intro u2 nu
    have nut : t ≠ u2 := ne_of_none e2 nu
    repeat walk_at "s1"
    refine ⟨t, u2, _, _, rfl, rfl, (upd_ne nut).trans e2, upd_same, by walk_at "cond", ?_⟩
    generalize hH3 : upd (upd H2 u2 (HO.lst _)) t (HO.lst _) = H3
    have E3 : Ext H H3 := hH3 ▸ fun c o h => (upd_ne (ne_of_none h nt)).trans (ext_new E2 nu c o h)
    have e3 := (congrFun hH3 t).symm.trans upd_same
    have ed3 := E3 _ _ ed
    clear hH3 nut nu ed2
    repeat walk_at "s1"
    refine ⟨.inl ⟨rfl, _, .inl (.inl e3)⟩, ?_⟩
    repeat first | with_reducible refine r_isP cl hi ed3 (by decide) ?_ | walk_at "s1"
    intro u3 nu
    have nut : t ≠ u3 := ne_of_none e3 nu
    repeat walk_at "s1"
    refine ⟨t, u3, _, _, rfl, rfl, (upd_ne nut).trans e3, upd_same, by walk_at "cond", ?_⟩
    generalize hH4 : upd (upd H3 u3 (HO.lst _)) t (HO.lst _) = H4
    have E4 : Ext H H4 := hH4 ▸ fun c o h => (upd_ne (ne_of_none h nt)).trans (ext_new E3 nu c o h)
    have e4 := (congrFun hH4 t).symm.trans upd_same
    have ed4 := E4 _ _ ed
    clear hH4 nut nu ed3
    repeat walk_at "s1"
    refine ⟨.inl ⟨rfl, _, .inl (.inl e4)⟩, ?_⟩
    repeat first | with_reducible refine r_isP cl hi ed4 (by decide) ?_ | walk_at "s1"
    intro u4 nu
    have nut : t ≠ u4 := ne_of_none e4 nu
    repeat walk_at "s1"
    refine ⟨t, u4, _, _, rfl, rfl, (upd_ne nut).trans e4, upd_same, by walk_at "cond", ?_⟩
    generalize hH5 : upd (upd H4 u4 (HO.lst _)) t (HO.lst _) = H5
    have E5 : Ext H H5 := hH5 ▸ fun c o h => (upd_ne (ne_of_none h nt)).trans (ext_new E4 nu c o h)
    have e5 : H5 t = some (.lst (kix.map fun j => V.bl (decide (j = i ∨ j = 0)))) := (congrFun hH5 t).symm.trans upd_same
    have ed5 := E5 _ _ ed
    clear hH5 nut nu ed4
    repeat walk_at "s1"
    intro D nD
    have ntD : t ≠ D := ne_of_none e5 nD
    have hD : H D = none := by
      cases q : H D with
      | none => rfl
      | some o => rw [E5 _ _ q] at nD; cases nD
    refine lc_it walk_range (fun k H' => Ext H H' ∧ H' t = some (.lst (kix.map fun j => V.bl (decide (j = i ∨ j = 0)))) ∧ H' D = some (.lst (((List.range k).filter (tb i)).map fun (k : Nat) => V.int (k : Int)))) ⟨ext_new E5 nD, (upd_ne ntD).trans e5, upd_same⟩ (fun k H' _ z => trivial) (fun k x H4 H5 hk z y => ?_) (fun H' z => ?_)
    · obtain ⟨ex, et, eD⟩ := z
      obtain ⟨rfl, hxk⟩ := y
      have hk : k < 20 := hk
      obtain rfl : x = V.int (k : Int) := hxk.trans (congrArg V.int (by omega))
      refine ⟨rfl, ?_⟩
      repeat walk_at "s1"
      refine r_ixL et (atI_nat (tb_at hk)) ?_
      repeat walk_at "s1"
      refine iteE (fun e => ?_) (fun e => ?_)
      · repeat walk_at "s1"
        refine ⟨_, eD, by rw [List.length_map]; exact small1000 (Nat.le_trans (List.length_filter_le _ _) (by rw [List.length_range]; omega)), fun c o h => (upd_ne (ne_of_none h hD)).trans (ex c o h), (upd_ne ntD).trans et, ?_⟩
        rw [upd_same, List.range_succ, List.filter_append, List.map_append]
        simp [e]
      · refine ⟨ex, et, ?_⟩
        rw [eD, List.range_succ, List.filter_append, List.map_append]
        simp [e]
    · obtain ⟨ex, et, eD⟩ := z
      exact hq _ _ ex hD eD
end
end K95


namespace K95
open PySem PySem.Spec PyProof.Rows L2 L2Z
open L2H (RoomH Hot1 HotC cxH)
local macro_rules | `(tactic| walk_at "ty") => `(tactic| first | exact .old (.base (.int _)) | exact .old (.base (.str _)) | exact .old (.base .non) | exact .old (.base (.bl _)) | exact .old (.base (.lst (by walk_at "hp"))) | exact .old (.base (.tup (by walk_at "hp"))) | exact .old (.base (.dK (by walk_at "hp"))))
local macro_rules | `(tactic| walk_at "hne") => `(tactic| first | assumption | exact Ne.symm (by assumption) | (refine' ne_of_none ?hn1 ?hn2; rotate_left; (case hn2 => assumption); (case hn1 => walk_at "hp")) | (refine' Ne.symm (ne_of_none ?hn1 ?hn2); rotate_left; (case hn2 => assumption); (case hn1 => walk_at "hp")))
local macro_rules | `(tactic| walk_at "hp") => `(tactic| first | exact upd_same | assumption | (refine' (upd_ne ?hpn).trans ?hpg; (case hpn => walk_at "hne"); (case hpg => walk_at "hp")))
local macro_rules | `(tactic| walk_at "cond") => `(tactic| first | omega | decide | assumption | exact Nat.le_of_lt (small1000 (by simp)))
local macro_rules | `(tactic| walk_at "s1") => `(tactic| first
  | with_reducible refine u_var rfl ?_
  | with_reducible refine u_op ?_
  | with_reducible refine u_un ?_
  | with_reducible refine u_cb ?_
  | with_reducible refine u_nil ?_
  | with_reducible refine u_cons ?_
  | with_reducible refine u_asg ?_
  | with_reducible refine u_name ?_
  | with_reducible refine u_sub ?_
  | with_reducible refine u_seq ?_
  | with_reducible refine u_ret ?_
  | with_reducible refine u_next ?_
  | with_reducible refine u_drop ?_
  | with_reducible refine u_test ?_
  | with_reducible refine u_b ?_
  | with_reducible refine u_ifS ?_
  | with_reducible refine u_if ?_
  | with_reducible refine u_and ?_
  | with_reducible refine u_or ?_
  | with_reducible refine u_not ?_
  | with_reducible refine u_andV ?_
  | with_reducible refine u_orV ?_
  | with_reducible refine u_notV ?_
  | with_reducible refine u_tup ?_
  | with_reducible refine u_lst ?_
  | with_reducible refine u_call ?_
  | with_reducible refine u_bm ?_
  | with_reducible refine u_bm0 ?_
  | with_reducible refine u_yes ?_
  | with_reducible refine u_c ?_
  | with_reducible refine u_bl ?_
  | ((with_reducible refine' iteF' ?hc ?_); (case hc => first | rfl | simp; done))
  | ((with_reducible refine' iteT' ?hc ?_); (case hc => first | rfl | simp; done))
  | with_reducible refine r_I0 ?_
  | with_reducible refine r_I (by walk_at "cond") ?_
  | refine r_I (show CDiv _ _ from ⟨by omega, by omega⟩) ?_
  | refine r_I (show CMul _ _ from .inl ⟨by omega, by omega⟩) ?_
  | refine r_I (show CMul _ _ from .inr ⟨by omega, by omega⟩) ?_
  | refine r_I (show CPow _ _ from ⟨by omega, by omega, by omega⟩) ?_
  | with_reducible refine r_U ?_
  | with_reducible refine r_Eq rfl ?_
  | with_reducible refine r_Ne rfl ?_
  | ((with_reducible refine' r_ixL ?hx ?he ?_); (case hx => walk_at "hp"); (case he => rfl))
  | ((with_reducible refine' r_ixT ?hx ?he ?_); (case hx => walk_at "hp"); (case he => rfl))
  | ((with_reducible refine' r_setL ?hx ?he ?_); (case hx => walk_at "hp"); (case he => rfl))
  | with_reducible refine r_isN ?_
  | with_reducible refine u_mk0 ?_
  | with_reducible refine u_mkE ?_
  | with_reducible refine u_xf ?_
  | ((with_reducible refine' r_isE ?hcl ?hx ?hi ?hj ?_); (case hcl => assumption); (case hx => assumption); (case hi => assumption); (case hj => decide))
  | ((with_reducible refine' r_isB (r := true) ?hx ?he ?_); (case hx => walk_at "ty"); (case he => decide +kernel))
  | ((with_reducible refine' r_isB (r := false) ?hx ?he ?_); (case hx => walk_at "ty"); (case he => decide +kernel))
  | with_reducible refine And.intro (by walk_at "cond") ?_
  | refine ⟨_, rfl, ?_⟩
  | refine ⟨_, _, rfl, ?_⟩
  | refine .inl ⟨_, rfl, ?_⟩)
local macro_rules | `(tactic| walk_at "mkas") => `(tactic| first | exact mka_nil | (refine mka_cons rfl ?_; walk_at "mkas") | (refine mka_cons0 ?_; walk_at "mkas"))
theorem sc_law_caught : FnScope ["x", "e", "told", "plain"] ["x"] (defScope s_law_caught) := ⟨rfl, rfl, rfl, by decide +kernel, rfl, by decide +kernel, by decide +kernel⟩
section
variable {P : Program} {w : World} {K : PySem.W.Frag} {mg : Str → Option Value} {base : Heap} {f fK fO : Addr} {fd fdK fdO : FuncData} {ca : Nat → Addr}
/-- an own error is caught by its base's name -/
theorem exm_own (cl : Exs P w K mg base exA ca) {i : Nat} (hi : i < exA.length) (h1 : i ≠ 0) : PySem.W.exmOne K (.ref (ca i)) (.ref (ca 0)) = some true := by
  have h0 : 0 < exA.length := by decide +kernel
  have T := (cl.sh 0 h0).2
  refine PySem.W.exm_ref T.o.exC T.hd T.o.tyC ?_
  have z := kit_ix cl hi h0
  unfold PySem.W.kitOne PySem.W.kitCls at z
  rw [if_neg (by simpa using fun e => h1 (cl.inj i 0 hi h0 e))] at z
  have z2 : (if ((PySem.W.clsIn K (ca 0)).isSome && PySem.W.typeIn K (.ref (ca 0)) == some (.type "type")) = true then PySem.W.subIn K (.ref (ca i)) (.ref (ca 0)) else none) = some (decide (0 = i ∨ 0 = 0)) := z
  split at z2
  · exact z2.trans (by simp)
  · cases z2
theorem pss_ex {X : Cx} {ss : List Stmt} {α : Type} {r : α → TS} {φ : α → Prop} (h : ∀ x, φ x → PSs X ss (r x)) : PSs X ss (fun D σ H => ∃ x, φ x ∧ r x D σ H) := ⟨fun pl t0 σ H D I ⟨x, hx, z⟩ => (h x hx).run pl t0 σ H D I z⟩
theorem ok_caught (F : FnK K "_law_caught" s_law_caught f fd) (b : Bs mg) (cl : Exs P w K mg base exA ca)
    (F_law_kinds_of : FnK K "_law_kinds_of" s_law_kinds_of fK fdK) (gm_law_kinds_of : mg "_law_kinds_of" = some (.ref fK)) (G_law_kinds_of : FnOk P w K mg base CX0 1 fK fdK ["e"] (spKinds ca))
    (F_law_is_other : FnK K "_law_is_other" s_law_is_other fO fdO) (gm_law_is_other : mg "_law_is_other" = some (.ref fO)) (G_law_is_other : FnOk P w K mg base CX0 1 fO fdO ["e"] (spOther ca)) :
    FnOk P w K mg base CX0 4 f fd ["x"] spCaught := by
  have B_law_kinds_of : Binds K fdK ["e"] [] := F_law_kinds_of.bindsN fun _ _ _ _ _ _ us hl => match us, hl with | [_], _ => rfl
  have B_law_is_other : Binds K fdO ["e"] [] := F_law_is_other.bindsN fun _ _ _ _ _ _ us hl => match us, hl with | [_], _ => rfl
  have BL := cl.a1 17 "BadLinks" "index" rfl
  refine F.ok sc_law_caught (fun vs H Q E h => ?_) (fun cdv A outer s H vs Q E hr h => ?_)
  · obtain ⟨x, rfl, _⟩ := h
    rfl
  · obtain ⟨x, rfl, hq⟩ := h
    refine ⟨_, PSs.nox (pss_cons (L2N.ps_try_as (i := 1) (Wout := fun _ _ _ _ => False) (c := .ref (ca 0))
      (tb := fun W D σ G => tMkE (ca 17) "index" (tCons (tVar 0) tNil) σ G fun x H1 => ∃ a C d, x = .ref a ∧ OexC K C ∧ H1 a = some (exo a C (some d)) ∧ Fr0 H a ∧ W (.ref C) (some d) σ (delH H1 a)) (ts := fun a cls d D σ H => ∃ d', (cls = .ref (ca 17) ∧ d = some d') ∧ tAsg (tCallZ (spKindsZ 17 a d') (tCons (tVar 1) tNil)) (gName 2) D σ H) rfl rfl sc_law_caught.nd rfl rfl ⟨by rfl, by decide, .inl (cl.a0 0 "PoolError" rfl).1⟩ (fun u t z => z.elim fun _ z => z.elim fun _ z => z.elim fun _ z => z.elim fun _ z => z.elim fun _ z => z.elim fun _ z => z.elim fun _ z => z.elim fun _ z => z.2.2.2.2.2.2.2.2.elim)
        (fun W pn xe tk _ => by
          refine pss_one (L2N.ps_raise rfl tk (t := fun σ G Q => tMkE (ca 17) "index" (tCons (tVar 0) tNil) σ G fun x H1 => ∃ a C d, x = .ref a ∧ OexC K C ∧ H1 a = some (exo a C (some d)) ∧ Fr0 H a ∧ Q (.ref C) (some d) (delH H1 a)) ?_)
          exact pmk_exo (te := tMkE (ca 17) "index" (tCons (tVar 0) tNil)) rfl (pe_mkE BL.2 (hr.mono (by omega)) (by rfl) BL.1 (pa_cons (pv 0) pa_nil)))
        (fun a oe cls d pn hz hv => pss_ex fun d' hd => by
          obtain ⟨rfl, rfl⟩ := hd
          exact pss_one (ps_set (i := 2) sc_law_caught.nd rfl (.inl rfl) (pe_callZ (ok_kindsZ (P := P) (w := w) (base := base) (a := a) (d := d') F_law_kinds_of b cl (by decide)) (L2H.roomH_mark (hr.mono (by omega)) _) ⟨(a, oe), ⟨rfl, hv.elim fun vs z => ⟨vs, z, hz.2.2 vs z⟩⟩, ⟨rfl, hz.1, hz.2.1, hv⟩, List.mem_cons_self⟩ (by rfl) gm_law_kinds_of F_law_kinds_of.kp B_law_kinds_of (pa_cons (pv 1) pa_nil)))))
      (pss_cons (ps_set (i := 3) sc_law_caught.nd rfl (.inl rfl) (pe_mk0 (cl.a0 0 "PoolError" rfl).2 (by rfl) (cl.a0 0 "PoolError" rfl).1))
      (pss_one (ps_ret (pe_tup (pa_cons (pv 2) (pa_cons (pe_call G_law_kinds_of (hr.mono (by omega)) (by rfl) gm_law_kinds_of F_law_kinds_of.kp B_law_kinds_of .nil pass0 (pa_cons (pv 3) pa_nil)) (pa_cons (pe_call G_law_is_other (hr.mono (by omega)) (by rfl) gm_law_is_other F_law_is_other.kp B_law_is_other .nil pass0 (pa_cons (pv 3) pa_nil)) (pa_cons (pe_callB call_isY (by rfl) b.isinstance (by decide +kernel) (pa_cons (pv 3) (pa_cons (pe_bltn (v := .ty "ValueError") (by rfl) b.ValueError (by decide +kernel) rfl) pa_nil))) pa_nil))))))))), ?_⟩
    with_reducible refine u_seq ?_
    show tMkE (ca 17) "index" (tCons (tVar 0) tNil) _ _ _
    repeat walk_at "s1"
    intro a d na nd nda
    refine ⟨a, ca 17, d, rfl, BL.2.c.o, upd_same, fr0_none na, ?_⟩
    generalize hG : delH (upd (upd H d (exd d [("index", x)])) a (exo a (ca 17) (some d))) a = G
    have EG : Ext H G := fun c o h => by
      have c1 := ne_of_none h na
      rw [← hG, delH_ne c1, upd_ne c1, upd_ne (ne_of_none h nd)]
      exact h
    have gd : G d = some (exd d [("index", x)]) := by rw [← hG, delH_ne nda, upd_ne nda, upd_same]
    clear hG
    unfold wAs
    refine ⟨true, exm_own cl (by decide +kernel) (by decide), fun _ e ne => ⟨d, ⟨rfl, rfl⟩, ?_⟩, fun z => by cases z⟩
    with_reducible refine u_asg ?_
    unfold tCallZ
    repeat walk_at "s1"
    refine ⟨rfl, ⟨_, gd⟩, fun H2 t E2 nt et => ?_⟩
    rw [show kinds 17 = [.int 5] from kinds_own ⟨5, by decide⟩] at et
    repeat walk_at "s1"
    intro pl npl
    generalize hH3 : upd H2 pl (exo pl (ca 0) none) = H3
    have E3 : Ext H2 H3 := hH3 ▸ ext_new (fun _ _ z => z) npl
    have ip : IsEx H3 pl (ca 0) := .inr ((congrFun hH3 pl).symm.trans upd_same)
    clear hH3
    repeat walk_at "s1"
    refine ⟨pl, 0, rfl, by decide, ip, fun H4 u E4 nu eu => ?_⟩
    rw [show kinds 0 = [] from kinds_oth ⟨0, by decide⟩ (by decide)] at eu
    repeat walk_at "s1"
    refine ⟨pl, 0, rfl, by decide, ip.ext E4, fun H5 E5 => ?_⟩
    rw [show oth 0 = false by decide +kernel]
    repeat walk_at "s1"
    refine r_isEv cl (ip.ext fun c o h => E5 _ _ (E4 _ _ h)) (by decide +kernel) (by decide +kernel) (b := true) (by decide +kernel) ?_
    repeat walk_at "s1"
    intro q nq
    have E6 : Ext H5 (upd H5 q (.tup [.ref t, .ref u, .bl false, .bl true])) := ext_new (fun _ _ z => z) nq
    exact hq _ q t u (fun c o h => E6 _ _ (E5 _ _ (E4 _ _ (E3 _ _ (E2 _ _ (EG _ _ h)))))) upd_same (E6 _ _ (E5 _ _ (E4 _ _ (E3 _ _ et)))) (E6 _ _ (E5 _ _ eu))
end
end K95


namespace K95
open PySem PySem.Spec PyProof.Rows L2
theorem ini0 : ∀ p ∈ ns0, Ini p := by
  unfold ns0
  repeat (refine List.forall_mem_cons.mpr ⟨by first | exact .any | exact .fn | exact .exc0 | exact .exc rfl rfl rfl, ?_⟩)
  exact fun _ h => by cases h
theorem ini1 : ∀ p ∈ ns1, Ini p := by
  unfold ns1
  repeat (refine List.forall_mem_cons.mpr ⟨by first | exact .any | exact .fn | exact .exc0 | exact .exc rfl rfl rfl, ?_⟩)
  exact fun _ h => by cases h
theorem ini2 : ∀ p ∈ ns2, Ini p := by
  unfold ns2
  repeat (refine List.forall_mem_cons.mpr ⟨by first | exact .any | exact .fn | exact .exc0 | exact .exc rfl rfl rfl, ?_⟩)
  exact fun _ h => by cases h
theorem inis : ∀ p ∈ ns, Ini p := fun p h => by
  rcases List.mem_append.mp h with h | h
  · rcases List.mem_append.mp h with h | h
    · exact ini0 p h
    · exact ini1 p h
  · exact ini2 p h
theorem placedA : placed ns 9 exA = true := by decide +kernel
section
variable {h : Heap} {mg : Str → Option Value}
theorem def__law_start (T : Top0 9 ns h mg) : ∃ f fd, mg "_law_start" = some (.ref f) ∧ FnK T.K "_law_start" s_law_start f fd := T.def_ (x := "_law_start") (i := 69) (d := dF "_law_start" (top 64)) (by kernel_rfl)
theorem def__law_pick (T : Top0 9 ns h mg) : ∃ f fd, mg "_law_pick" = some (.ref f) ∧ FnK T.K "_law_pick" s_law_pick f fd := T.def_ (x := "_law_pick") (i := 70) (d := dF "_law_pick" (top 65)) (by kernel_rfl)
theorem def__law_between (T : Top0 9 ns h mg) : ∃ f fd, mg "_law_between" = some (.ref f) ∧ FnK T.K "_law_between" s_law_between f fd := T.def_ (x := "_law_between") (i := 71) (d := dF "_law_between" (top 66)) (by kernel_rfl)
theorem def__law_same (T : Top0 9 ns h mg) : ∃ f fd, mg "_law_same" = some (.ref f) ∧ FnK T.K "_law_same" s_law_same f fd := T.def_ (x := "_law_same") (i := 72) (d := dF "_law_same" (top 67)) (by kernel_rfl)
theorem def__law_kinds_of (T : Top0 9 ns h mg) : ∃ f fd, mg "_law_kinds_of" = some (.ref f) ∧ FnK T.K "_law_kinds_of" s_law_kinds_of f fd := T.def_ (x := "_law_kinds_of") (i := 73) (d := dF "_law_kinds_of" (top 68)) (by kernel_rfl)
theorem def__law_others (T : Top0 9 ns h mg) : ∃ f fd, mg "_law_others" = some (.ref f) ∧ FnK T.K "_law_others" s_law_others f fd := T.def_ (x := "_law_others") (i := 74) (d := dF "_law_others" (top 69)) (by kernel_rfl)
theorem def__law_is_other (T : Top0 9 ns h mg) : ∃ f fd, mg "_law_is_other" = some (.ref f) ∧ FnK T.K "_law_is_other" s_law_is_other f fd := T.def_ (x := "_law_is_other") (i := 75) (d := dF "_law_is_other" (top 70)) (by kernel_rfl)
theorem def__law_made_a (T : Top0 9 ns h mg) : ∃ f fd, mg "_law_made_a" = some (.ref f) ∧ FnK T.K "_law_made_a" s_law_made_a f fd := T.def_ (x := "_law_made_a") (i := 76) (d := dF "_law_made_a" (top 71)) (by kernel_rfl)
theorem def__law_made_b (T : Top0 9 ns h mg) : ∃ f fd, mg "_law_made_b" = some (.ref f) ∧ FnK T.K "_law_made_b" s_law_made_b f fd := T.def_ (x := "_law_made_b") (i := 77) (d := dF "_law_made_b" (top 72)) (by kernel_rfl)
theorem def__law_made_c (T : Top0 9 ns h mg) : ∃ f fd, mg "_law_made_c" = some (.ref f) ∧ FnK T.K "_law_made_c" s_law_made_c f fd := T.def_ (x := "_law_made_c") (i := 78) (d := dF "_law_made_c" (top 73)) (by kernel_rfl)
theorem def__law_made_at (T : Top0 9 ns h mg) : ∃ f fd, mg "_law_made_at" = some (.ref f) ∧ FnK T.K "_law_made_at" s_law_made_at f fd := T.def_ (x := "_law_made_at") (i := 79) (d := dF "_law_made_at" (top 74)) (by kernel_rfl)
theorem def__law_object (T : Top0 9 ns h mg) : ∃ f fd, mg "_law_object" = some (.ref f) ∧ FnK T.K "_law_object" s_law_object f fd := T.def_ (x := "_law_object") (i := 80) (d := dF "_law_object" (top 75)) (by kernel_rfl)
theorem def__law_very (T : Top0 9 ns h mg) : ∃ f fd, mg "_law_very" = some (.ref f) ∧ FnK T.K "_law_very" s_law_very f fd := T.def_ (x := "_law_very") (i := 81) (d := dF "_law_very" (top 76)) (by kernel_rfl)
theorem def__law_caught (T : Top0 9 ns h mg) : ∃ f fd, mg "_law_caught" = some (.ref f) ∧ FnK T.K "_law_caught" s_law_caught f fd := T.def_ (x := "_law_caught") (i := 82) (d := dF "_law_caught" (top 77)) (by kernel_rfl)
theorem def_law (T : Top0 9 ns h mg) : ∃ f fd, mg "law" = some (.ref f) ∧ FnK T.K "law" s_law f fd := T.def_ (x := "law") (i := 83) (d := dF "law" (top 78)) (by kernel_rfl)
theorem bs_of (T : Top0 9 ns h mg) : Bs mg := ⟨T.free (by kernel_rfl), T.free (by kernel_rfl), T.free (by kernel_rfl), T.free (by kernel_rfl), T.free (by kernel_rfl), T.free (by kernel_rfl), T.free (by kernel_rfl), T.free (by kernel_rfl), T.free (by kernel_rfl), T.free (by kernel_rfl), T.free (by kernel_rfl), T.free (by kernel_rfl), T.free (by kernel_rfl), T.free (by kernel_rfl), T.free (by kernel_rfl), T.free (by kernel_rfl), T.free (by kernel_rfl)⟩
end
theorem facts {P : Program} {w : World} {h : Heap} {mg : Str → Option Value} {f : Addr} (T : Top0 9 ns h mg) (hfa : mg ("law" : Str) = some (.ref f)) :
    ∃ fd : FuncData, (∀ (s : Shared) (v : Value), BindsTo s fd ⟨[v], []⟩ [("script", v)]) ∧ ∀ base : Heap, FnOk P w T.K mg base CX0 5 f fd ["script"] (spLaw T.K) := by
  have b := bs_of T
  obtain ⟨fSt, dSt, gSt, FSt⟩ := def__law_start T
  obtain ⟨fPi, dPi, gPi, FPi⟩ := def__law_pick T
  obtain ⟨fBe, dBe, gBe, FBe⟩ := def__law_between T
  obtain ⟨fSa, dSa, gSa, FSa⟩ := def__law_same T
  obtain ⟨fKi, dKi, gKi, FKi⟩ := def__law_kinds_of T
  obtain ⟨fOs, dOs, gOs, FOs⟩ := def__law_others T
  obtain ⟨fOt, dOt, gOt, FOt⟩ := def__law_is_other T
  obtain ⟨fM1, dM1, gM1, FM1⟩ := def__law_made_a T
  obtain ⟨fM2, dM2, gM2, FM2⟩ := def__law_made_b T
  obtain ⟨fM3, dM3, gM3, FM3⟩ := def__law_made_c T
  obtain ⟨fCa, dCa, gCa, FCa⟩ := def__law_caught T
  obtain ⟨fMa, dMa, gMa, FMa⟩ := def__law_made_at T
  obtain ⟨fOb, dOb, gOb, FOb⟩ := def__law_object T
  obtain ⟨fVe, dVe, gVe, FVe⟩ := def__law_very T
  obtain ⟨f', fd, gL, FL⟩ := def_law T
  obtain rfl : f = f' := by
    have e := hfa.symm.trans gL
    cases e
    rfl
  have bL := FunD.bindsA (ps := ["script"]) FL fun _ _ _ _ _ _ us hl => match us, hl with | [_], _ => rfl
  refine ⟨fd, fun s v => bL s [v] rfl, fun base => ?_⟩
  have cl : Exs P w T.K mg base exA fun i => refAt (entsG T.g) (9 + i) := exs_of T inis placedA
  have GPi := ok_pick (P := P) (w := w) (base := base) FPi b
  have GBe := ok_between FBe b GPi FPi gPi
  exact ok_law FL b cl {
    fSt := fSt, fOb := fOb, fMa := fMa, fKi := fKi, fOt := fOt, fVe := fVe, fOs := fOs, fPi := fPi, fCa := fCa
    dSt := dSt, dOb := dOb, dMa := dMa, dKi := dKi, dOt := dOt, dVe := dVe, dOs := dOs, dPi := dPi, dCa := dCa
    FSt := FSt, gSt := gSt, GSt := ok_start FSt b
    FOb := FOb, gOb := gOb, GOb := ok_object FOb b GPi FPi gPi GBe FBe gBe
    FMa := FMa, gMa := gMa, GMa := ok_made FMa b cl FM1 gM1 FM2 gM2 FM3 gM3
    FKi := FKi, gKi := gKi, GKi := ok_kinds FKi b cl
    FOt := FOt, gOt := gOt, GOt := ok_other FOt b cl
    FVe := FVe, gVe := gVe, GVe := ok_very FVe b FSa gSa
    FOs := FOs, gOs := gOs, GOs := ok_others FOs b cl
    FPi := FPi, gPi := gPi, GPi := GPi
    FCa := FCa, gCa := gCa, GCa := ok_caught FCa b cl FKi gKi (ok_kinds FKi b cl) FOt gOt (ok_other FOt b cl) }
end K95
open PySem PySem.W PySem.Calls PyProof.Rows
theorem PySem.Challenge.cw_poolshare_k95_errors_of_what_is_asked_holds : PySem.Challenge.rw_poolshare_k95_errors_of_what_is_asked.Holds := by
  w_on; o_law
  refine HandSHeadRun.head_any (r := K95.R) (q := view K95.R.prog [78]) (H := K95.hk) (ob := L2.obG 9 K95.ns) (M := 20000) (loose := K95.loose) (d := HandSHeadRun.topDef K95.R.prog 78) (kwd := []) (L2.obG_eq 9 K95.ns)
    (by kernel_rfl) (fun s => by kernel_rfl) K95.run (by kernel_rfl) (by kernel_rfl) (by kernel_rfl) (by rfl) (by first | assumption | decide +kernel) (by decide +kernel) ⟨rfl, rfl, rfl, rfl, rfl, by decide +kernel⟩ ?hw ?hc
  case hw => w_witness2
  case hc =>
    refine L2.walk_ofE (l := PySem.Challenge.rw_poolshare_k95_errors_of_what_is_asked) (n := 63) (k := 5) (x := "script") (CX := L2.CX0) rfl (by decide) (by kernel_rfl) ⟨rfl, by decide, by decide⟩ ?F (fun _ _ _ _ z => z)
    intro w mg fa h Y G hmg0
    obtain ⟨T⟩ := L2.top0_of (iP := 9) (ns := K95.ns) Y G (by decide +kernel)
    have hmg : mg ("law" : PySem.Str) = some (.ref fa) := by
      have e : (HandSHeadRun.topDef K95.R.prog 78).name = ("law" : PySem.Str) := by kernel_rfl
      rw [← e]
      exact hmg0
    obtain ⟨fd, hb, hF⟩ := K95.facts (P := (PySem.Challenge.rw_poolshare_k95_errors_of_what_is_asked).prog) (w := w) T hmg
    exact ⟨T.K, fd, K95.spLaw T.K, T.kin, hb, fun H a ns hl _ hS => ⟨a, ns, rfl, hS, hl, fun _ => rfl⟩, fun base _ _ => hF base⟩


