import PyProof.Rows.All
import Wide.All
import OpenK.AllK
import Wide.FinOn
import KE.KStateDown
import HandS.ForMost
import HandS.Exc
import HandS.ExcInit
import HandS.ExcField
import HandS.IsInst
import HandS.Defaults
import HandS.Walk
import HandS.Zip
import HandS.Flow
import HandS.ExcOwn
import HandS.ExcValue
import PySem.Challenge.RW_runorproof_k95_errors_of_what_is_asked
import KE.KExcIs
import HandS.HeadHook1
import HandS.More
import HandS.HotCalls
import HandS.ExcInitHot
import HandS.ExcCtx
import HandS.RaiseFrom
import HandS.Head0
import HandS.Head1
import HandS.Head2
import HandS.HeadEnd
import HandS.HeadHook2
set_option Elab.async false
set_option linter.all false
set_option maxRecDepth 100000
set_option maxHeartbeats 4000000
namespace ER
open PySem PySem.Spec PyProof.Rows L2
def top (i : Nat) : Stmt := PySem.Challenge.pw_runorproof_k95_errors_of_what_is_asked.main.body.getD i (.Pass ⟨0, 0, 0, 0⟩)
abbrev FnP (K : PySem.W.Frag) (x : Str) (st : Stmt) (f : Addr) (fd : FuncData) : Prop := FunD K x x (defArgs st) (defBody st) (defScope st) [] [] f fd
abbrev sStart : Stmt := top 45
abbrev sPick : Stmt := top 46
abbrev sBetw : Stmt := top 47
abbrev sSame : Stmt := top 48
abbrev sKinds : Stmt := top 49
end ER
set_option Elab.async false
set_option linter.all false
set_option maxRecDepth 100000
set_option maxHeartbeats 4000000
/-! own errors as values, made by position or by one name -/
namespace PySem
namespace XE
open PySem.W PySem.Calls PyProof.Rows PySem.HandSPX
section
variable {M : Model} {A : Around} {E : Value → Shared → Prop}
variable {h : Heap} {g : Array GenState} {d : Drawn} {t : Nat} {os : OsState}
variable {nm q : Str} {C N : Addr} {bs bm bmB : List Value} {hdct : Bool} {sn : List Str}
variable {sub : List Value} {ab : Bool} {col : Option Bool} {dd : Option Addr} {k0 k1 k2 k3 k5 : Option Value} {B newId initId : String}
/-- the class's maker may be asked with a name -/
theorem new_asked (F : ExcBaseFacts B newId initId bmB)
    (hT : ∀ X : String, bm.contains (.type X) = bmB.contains (.type X)) {rest : List Value} {kw : List (Str × Value)} {Q : Unit → Shared → Prop}
    (hC : h.get? C = some (excClassObj nm q C N bs bm hdct sn sub ab col dd k0 k1 k2 k3 k5 newId))
    (hq : Q () ⟨h, g, d, t, os⟩) :
    wpAny M A (checkBuiltinCall newId ⟨.ref C :: rest, kw⟩) Q E ⟨h, g, d, t, os⟩ := by
  have hcont : (Value.ref C :: bm).contains (.type B) = true := by
    rw [List.contains_cons, hT, F.hasB, Bool.or_true]
  have hstar := F.noStar
  simp only [checkBuiltinCall, F.newKind, F.newSplit, F.newRow]
  repeat (first
    | refine wpAny_loadPart_at hC ?_
    | (refine wpAny_isSubtype_exc hC ?_; rw [hcont])
    | refine wpAny_staticBase_exc hC ?_
    | refine wpAny_madeBy_exc hC ?_
    | simp only [bne_self_eq_false, Bool.false_eq_true, if_false]
    | wp_step)
  exact hq
end
section
variable {prog : Program} {w : World} {A : Around} {E : Value → Shared → Prop} {R : Result → Shared → Prop}
variable {h : Heap} {g : Array GenState} {d : Drawn} {t : Nat} {os : OsState}
variable {nm q : Str} {C N : Addr} {bs bm bmB : List Value} {hdct : Bool} {sn : List Str}
variable {sub : List Value} {ab : Bool} {col : Option Bool} {dd : Option Addr} {k0 k1 k2 k3 k5 : Option Value} {B newId initId : String}
theorem new_run (F : ExcBaseFacts B newId initId bmB)
    (hT : ∀ X : String, bm.contains (.type X) = bmB.contains (.type X)) {rest : List Value} {kw : List (Str × Value)}
    (hC : h.get? C = some (excClassObj nm q C N bs bm hdct sn sub ab col dd k0 k1 k2 k3 k5 newId))
    (hq : R (.ok (.ret (.ref (h.objs.size + 1)))) ⟨(h.push (W.kdv_tup rest)).push (excO C h.objs.size), g, d, t, os⟩)
    (hrest : rest.length ≤ sizeLine) :
    codeAny (model prog w) A (.builtin newId ⟨.ref C :: rest, kw⟩) R ⟨h, g, d, t, os⟩ := by
  have hends := F.ends
  have hcB : (Value.ref C :: bm).contains (.type B) = true := by
    rw [List.contains_cons, hT, F.hasB, Bool.or_true]
  have hcA : (Value.ref C :: bm).contains (.type "AttributeError") = false := by
    rw [List.contains_cons, hT, F.noAttr]; rfl
  have hcN : (Value.ref C :: bm).contains (.type "NameError") = false := by
    rw [List.contains_cons, hT, F.noName]; rfl
  refine codeAny_builtinAt F.entry ?_
  unfold Builtin.«BaseException.__new__»
  refine wpAt_bind ?_
  show wpAt _ _ _ (stack >>= _) _ _ _
  refine wpAt_bind (wpAt_stack fun p below => wpAt_of_wpAny ?_)
  wp_walk
  refine wpAt_of_wpAny ?_
  rw [F.owner]
  repeat (first
    | with_reducible refine wpAny_madeHere_exc F.canon hC ?_
    | with_reducible refine wpAny_loadPart_at hC ?_
    | (with_reducible refine wpAny_isSubtype_exc hC ?_; first | rw [hcB] | rw [hcA] | rw [hcN])
    | wp_step)
  show R _ _
  rw [Heap.size_push]
  exact hq
theorem type_run (F : ExcBaseFacts B newId initId bmB)
    (hT : ∀ X : String, bm.contains (.type X) = bmB.contains (.type X)) {rest : List Value} {kw : List (Str × Value)} {fI : Addr} {Q : Fin → Shared → Prop}
    (hC : h.get? C = some (excClassObj nm q C N bs bm hdct sn sub ab col dd k0 k1 k2 k3 k5 newId))
    (hi : W.Looks (model prog w) h (typeLookup (.ref C) "__init__") (some (.ref fI)))
    (hb : ∀ self, W.Looks (model prog w) h (bindSpecial (.ref fI) self) (.ref fI, [self])) (hrest : rest.length ≤ sizeLine)
    (hq : codeAny (model prog w) A (.call (.ref fI) ⟨.ref (h.objs.size + 1) :: rest, kw⟩)
      (fun r s' => match r with
        | .ok (.ret v) => v = .none ∧ Q (.done (.ret (.ref (h.objs.size + 1)))) s'
        | .ok _ => False
        | .error e => E e s')
      ⟨(h.push (W.kdv_tup rest)).push (excO C h.objs.size), g, d, t, os⟩) :
    wpAny (model prog w) A (Builtin.«type.__call__» ⟨.ref C :: rest, kw⟩) Q E ⟨h, g, d, t, os⟩ := by
  repeat (first
    | with_reducible refine wpAny_loadPart_at hC ?_
    | with_reducible refine wpAny_madeBy_exc hC ?_
    | wp_step)
  refine codeAny_call_builtin_code (Code.quiet_builtin _ F.quiet) (new_asked F hT hC ?_)
  refine new_run F hT hC ?_ hrest
  show wpAny _ _ _ _ _ _
  have k : ∀ b o, h.get? b = some o → ((h.push (W.kdv_tup rest)).push (excO C h.objs.size)).get? b = some o :=
    fun b o e => Heap.get?_push_of_some _ (Heap.get?_push_of_some _ e)
  have hC₁ := k _ _ hC
  have hget : ((h.push (W.kdv_tup rest)).push (excO C h.objs.size)).get? (h.objs.size + 1) = some (excO C h.objs.size) := by
    heap_get
  have hcC : (Value.ref C :: bm).contains (.ref C) = true := by simp
  have i1 := hi.keeps k
  have b1 := (hb (.ref (h.objs.size + 1))).keeps k
  unfold isInstance
  repeat (first
    | with_reducible refine wpAny_loadPart_at hget ?_
    | (with_reducible refine wpAny_isSubtype_exc hC₁ ?_; rw [hcC])
    | wp_step)
  show wpAny _ _ (typeLookup (.ref C) _) _ _ _
  refine i1.at ?_
  refine wpAny_holding (wpAny_bind (b1.at ?_))
  refine wpAny_bind (wpAny_call (codeAny_mono hq fun r s' z => ?_))
  rcases r with e | (v | _ | _ | _) <;> first | exact z | exact z.elim | skip
  obtain ⟨rfl, z⟩ := z
  first
    | exact wpAny_pure (wpAny_pure z)
    | (wp_walk; exact z)
theorem cls_run (F : ExcBaseFacts B newId initId bmB)
    (hT : ∀ X : String, bm.contains (.type X) = bmB.contains (.type X)) {rest : List Value} {kw : List (Str × Value)} {fI : Addr}
    (hC : h.get? C = some (excClassObj nm q C N bs bm hdct sn sub ab col dd k0 k1 k2 k3 k5 newId))
    (hi : W.Looks (model prog w) h (typeLookup (.ref C) "__init__") (some (.ref fI)))
    (hb : ∀ self, W.Looks (model prog w) h (bindSpecial (.ref fI) self) (.ref fI, [self])) (hrest : rest.length ≤ sizeLine)
    (hq : codeAny (model prog w) (A.under (.builtin "type.__call__" ⟨.ref C :: rest, kw⟩)) (.call (.ref fI) ⟨.ref (h.objs.size + 1) :: rest, kw⟩)
      (W.InitBack (h.objs.size + 1) R) ⟨(h.push (W.kdv_tup rest)).push (excO C h.objs.size), g, d, t, os⟩) :
    codeAny (model prog w) A (.call (.ref C) ⟨rest, kw⟩) R ⟨h, g, d, t, os⟩ := by
  have f1 := tc_lookup
  have f2 := tc_bind (.ref C)
  have hTy : (⟨h, g, d, t, os⟩ : Shared).TypeIs (.ref C) "type" := ⟨_, hC, rfl⟩
  refine codeAny_of_tree ?_
  show wpAny _ _ (callAny (.ref C) _) _ _ _
  repeat (any_goals (first
    | assumption
    | with_reducible refine wpAny_loadPart_at hC ?_
    | wp_step))
  refine ⟨rfl, ?_⟩
  refine codeAny_call_builtin_at (Code.quiet_builtin _ (by decide +kernel)) entry_typeCall
    (wpAny_check_type_call_sub hC (type_run F hT hC hi hb hrest ?_))
  refine codeAny_mono hq fun r s' z => ?_
  rcases r with e | (v | _ | _ | _) <;> exact z
end
end XE
end PySem
set_option Elab.async false
set_option linter.all false
set_option maxRecDepth 100000
set_option maxHeartbeats 4000000
/-! own errors as values: made, asked for a field, asked for their classes -/
namespace ER
open PySem PySem.Spec PyProof.Rows L2
/-- what the written part says of an own error class at C whose bases are bm -/
structure EC (K : PySem.W.Frag) (C : Addr) (bm : List Value) : Prop where
  ox : OexC K C
  ga : PySem.W.findIn K (.ref C) "__getattribute__" = some (some (.builtin "BaseException.__getattribute__"))
  gg : PySem.W.findIn K (.ref C) "__getattr__" = some none
  hd : PySem.W.hasDictIn K C = true
  ca : PySem.W.findIn K (.ref C) "__class__" = some (some (.builtin "object.__class__"))
  cg : PySem.W.specialIn K (.builtin "object.__class__") "__get__" = some (some (.builtin "getset_descriptor.__get__"))
  ct : PySem.W.takesIn K (.builtin "object.__class__") = some true
  mo : PySem.W.mroIn K C (.type "object") = some true
  mr : ∃ cd, PySem.W.clsIn K C = some cd ∧ cd.mro = .ref C :: bm
def ecB (K : PySem.W.Frag) (C : Addr) (bm : List Value) : Bool :=
  (match K.lookup C with
    | some ⟨.type "type", _, .cls cd, sl⟩ => (match sl.toList with
      | [_, _, _, _, some (.builtin n), _] => decide (n = "ValueError.__new__") && (!cd.hasDel && (cd.hasDict && (decide (cd.mro = .ref C :: bm) && PySem.HandSPX.refsVE bm)))
      | _ => false)
    | _ => false) &&
  (decide (PySem.W.findIn K (.ref C) "__setattr__" = some (some (.builtin "object.__setattr__"))) &&
  (decide (PySem.W.findIn K (.ref C) "__getattribute__" = some (some (.builtin "BaseException.__getattribute__"))) &&
  (decide (PySem.W.findIn K (.ref C) "__getattr__" = some none) &&
  (decide (PySem.W.findIn K (.ref C) "__class__" = some (some (.builtin "object.__class__"))) &&
  (decide (PySem.W.specialIn K (.builtin "object.__class__") "__get__" = some (some (.builtin "getset_descriptor.__get__"))) &&
  (decide (PySem.W.takesIn K (.builtin "object.__class__") = some true) && PySem.W.keepIn K (.ref C)))))))
theorem bb {a b : Bool} (h : (a && b) = true) : a = true ∧ b = true := Bool.and_eq_true_iff.mp h
theorem ecB_ok {K : PySem.W.Frag} {C : Addr} {bm : List Value} (h : ecB K C bm = true) : EC K C bm := by
  obtain ⟨h0, h⟩ := bb h
  obtain ⟨h1, h⟩ := bb h
  obtain ⟨h2, h⟩ := bb h
  obtain ⟨h3, h⟩ := bb h
  obtain ⟨h4, h⟩ := bb h
  obtain ⟨h5, h⟩ := bb h
  obtain ⟨h6, h7⟩ := bb h
  split at h0
  · rename_i dd cd sl ho
    split at h0
    · rename_i k0 k1 k2 k3 n k5 hs
      obtain ⟨g1, h0⟩ := bb h0
      obtain ⟨g2, h0⟩ := bb h0
      obtain ⟨g3, h0⟩ := bb h0
      obtain ⟨g4, g5⟩ := bb h0
      replace g1 := of_decide_eq_true g1
      replace g4 := of_decide_eq_true g4
      have hcl : PySem.W.clsIn K C = some cd := by unfold PySem.W.clsIn; rw [ho] <;> rfl
      obtain ⟨nm, bs, mro, ns, qn, hd, sn, sub, ab, col, del⟩ := cd
      dsimp only at g2 g3 g4
      subst g3 g4 g1
      have hdel : del = false := by
        cases del
        · rfl
        · cases g2
      subst hdel
      have hsl : sl = #[k0, k1, k2, k3, some (.builtin "ValueError.__new__"), k5] := by
        obtain ⟨l⟩ := sl
        simp only at hs
        rw [hs]
      subst hsl
      have hb : ∀ T : String, (bm.contains (.type T)) = PySem.HandSPX.veTail.contains (.type T) := fun T => PySem.HandSPX.refsVE_contains T bm g5
      have hm : ∀ T : String, PySem.W.mroIn K C (.type T) = some (PySem.HandSPX.veTail.contains (.type T)) := fun T => by
        unfold PySem.W.mroIn
        rw [hcl, Option.bind_some]
        show (if ((Value.ref C :: bm).isEmpty) = true then none else some ((Value.ref C :: bm).contains (.type T))) = _
        rw [if_neg (by simp), List.contains_cons, hb T]
        rfl
      refine ⟨⟨⟨nm, qn, ns, bs, bm, sn, sub, ab, col, dd, k0, k1, k2, k3, k5, ho, g5⟩, of_decide_eq_true h1, ?_, ?_, h7⟩, of_decide_eq_true h2, of_decide_eq_true h3, ?_, of_decide_eq_true h4, of_decide_eq_true h5, of_decide_eq_true h6, ?_, ⟨_, hcl, rfl⟩⟩
      · exact (hm "BaseException").trans (by decide +kernel)
      · show (K.lookup C).map (·.cls) = _
        rw [ho] <;> rfl
      · unfold PySem.W.hasDictIn
        rw [hcl] <;> rfl
      · exact (hm "object").trans (by decide +kernel)
    · cases h0
  · cases h0
section
variable {K : PySem.W.Frag} {C D : Addr} {bm : List Value}
theorem EC.ci (T : EC K C bm) : (PySem.W.clsIn K C).isSome = true := by
  obtain ⟨cd, h, _⟩ := T.mr
  rw [h]
  rfl
/-- is C one of D's kind -/
theorem EC.kit (T : EC K C bm) (S : EC K D bm') : PySem.W.kitOne K (.ref C) (.ref D) = some ((Value.ref C :: bm).contains (.ref D)) := by
  obtain ⟨cd, h, e⟩ := T.mr
  have k : PySem.W.kitCls K (.ref C) (.ref D) = some ((Value.ref C :: bm).contains (.ref D)) := by
    show (if ((PySem.W.clsIn K D).isSome && PySem.W.typeIn K (.ref D) == some (.type "type")) = true then PySem.W.mroIn K C (.ref D) else none) = _
    rw [S.ci, S.ox.tyC, if_pos (by decide +kernel)]
    unfold PySem.W.mroIn
    rw [h, Option.bind_some, e, if_neg (by simp)]
  unfold PySem.W.kitOne
  by_cases q : (Value.ref C == Value.ref D) = true
  · rw [if_pos q]
    have e2 : Value.ref C = Value.ref D := eq_of_beq q
    rw [e2, List.contains_cons]
    simp
  · rw [if_neg q]
    exact k
theorem EC.kitT (T : EC K C bm) {n : String} {b : Bool} (hm : PySem.W.kitMeta n = true) (hb : PySem.HandSPX.veTail.contains (.type n) = b) : PySem.W.kitOne K (.ref C) (.type n) = some b := by
  obtain ⟨nm, q, N, bs, bm2, sn, sub, ab, col, dd, k0, k1, k2, k3, k5, hC, g5⟩ := T.ox.cls
  have hcl : PySem.W.clsIn K C = some { name := nm, bases := bs, mro := .ref C :: bm2, ns := N, qualname := q, hasDict := true, slotNames := sn, subclasses := sub, abstract := ab, collection := col, hasDel := false } := by unfold PySem.W.clsIn; rw [hC] <;> rfl
  unfold PySem.W.kitOne
  rw [if_neg (by intro z; cases eq_of_beq z)]
  show (if PySem.W.kitMeta n = true then PySem.W.mroIn K C (.type n) else none) = _
  rw [if_pos hm]
  unfold PySem.W.mroIn
  rw [hcl, Option.bind_some]
  show (if ((Value.ref C :: bm2).isEmpty) = true then none else some ((Value.ref C :: bm2).contains (.type n))) = _
  rw [if_neg (by simp), List.contains_cons, PySem.HandSPX.refsVE_contains n bm2 g5, hb]
  rfl
end
/-- an error of the class at C stands at a -/
def Er (H : Hp) (a C : Addr) : Prop := ∃ d, H a = some (exo a C d) ∧ ∀ dx, d = some dx → ∃ fs, H dx = some (exd dx fs)
section
variable {X : Cx} {pins : List (Addr × Obj)} {σ : L2.St} {H : Hp} {s : Shared} {a C : Addr} {bm : List Value} {d : Option Addr} {fs : List (Str × V)}
theorem inst_of (I : Inv X pins σ H s) (e : Er H a C) : ∃ ox od, PySem.W.InstAt s.heap a ox C od := by
  obtain ⟨d, e, hd⟩ := e
  obtain ⟨t1, ho⟩ := exo_at I.hok e
  cases d with
  | none => exact ⟨_, none, ho, rfl, rfl, True.intro⟩
  | some dx =>
    obtain ⟨fs, q⟩ := hd dx rfl
    obtain ⟨mA, hns, _⟩ := exd_at I.hok q
    obtain ⟨od, ho2, _⟩ := lookIn_ns hns
    exact ⟨_, some od, ho, rfl, rfl, ho2⟩
/-- isinstance(e, c) of an own error -/
def rIsE (K : PySem.W.Frag) : List V → Hp → VK → Prop := fun xs H Q => ∃ (a C : Addr) (bm : List Value) (c : V) (u : Value) (b : Bool), xs = [.ref a, c] ∧ Er H a C ∧ EC K C bm ∧ ClsV c u ∧ PySem.W.kitOne K (.ref C) u = some b ∧ Q (.bl b) H
theorem call_isE : CallR X (.builtin "isinstance") (rIsE X.K) := by
  intro pins s σ H xs us Q I r h
  obtain ⟨a, C, bm, c, u, b, rfl, e, T, k, ee, q⟩ := h
  obtain ⟨u1, u2, rfl, r1, r2⟩ := vals2 r
  cases (show u1 = Value.ref a from r1)
  have e2 := k.eq r2
  subst e2
  obtain ⟨ox, od, J⟩ := inst_of I e
  exact PySem.W.kia_one (PySem.W.kitx_exc (od := od) (ox := ox) T.ci T.ga T.gg T.ox.exC T.ca T.cg T.ct T.mo) I.kIn J ee (fun z => nomatch z) fun tk => ⟨.bl b, H, I.tok tk, rfl, q⟩
/-- isinstance(e, (c1, c2, ..)) -/
def rIsET (K : PySem.W.Frag) : List V → Hp → VK → Prop := fun xs H Q => ∃ (a C : Addr) (bm : List Value) (tp : Addr) (cs : List V) (us : List Value) (b : Bool), xs = [.ref a, .ref tp] ∧ Er H a C ∧ EC K C bm ∧ H tp = some (.tup cs) ∧ Paired ClsV cs us ∧ PySem.W.kitAny K (.ref C) us = some b ∧ Q (.bl b) H
theorem call_isET : CallR X (.builtin "isinstance") (rIsET X.K) := by
  intro pins s σ H xs us Q I r h
  obtain ⟨a, C, bm, tp, cs, ws, b, rfl, e, T, hT, k, ee, q⟩ := h
  obtain ⟨u1, u2, rfl, r1, r2⟩ := vals2 r
  cases (show u1 = Value.ref a from r1)
  cases (show u2 = Value.ref tp from r2)
  obtain ⟨ox, od, J⟩ := inst_of I e
  obtain ⟨_, its, rv, o, h1, h2, n, h3⟩ := (show ObjOk X.prog X.w H s.heap tp (.tup cs) from I.hok tp _ hT)
  have e3 := ClsV.all k rv
  subst e3
  obtain ⟨oc, od', dt, sl⟩ := o
  simp only at h2 h3
  subst h2 h3
  exact PySem.W.kia_tup (PySem.W.kitx_exc (od := od) (ox := ox) T.ci T.ga T.gg T.ox.exC T.ca T.cg T.ct T.mo) I.kIn J h1 ee (fun z => nomatch z) fun tk => ⟨.bl b, H, I.tok tk, rfl, q⟩
/-- e.f of an own error -/
def tEf (K : PySem.W.Frag) (n : Str) (te : TE) : TE := fun σ H Q => te σ H fun x H1 => ∃ (a C dx : Addr) (bm : List Value) (fs : List (Str × V)) (v : V), x = .ref a ∧ EC K C bm ∧ PySem.W.findIn K (.ref C) n = some none ∧ H1 a = some (exo a C (some dx)) ∧ H1 dx = some (exd dx fs) ∧ fs.lookup n = some v ∧ Q v H1
theorem pe_ef {e : Expr} {te : TE} {pos : Pos} {n : Str} (he : PE X e te) (hb : attributeBase e n X.env (eval e X.env) = eval e X.env := by rfl) : PE X (.Attribute e n pos) (tEf X.K n te) := by
  refine ⟨fun pins s σ H Q I h => ?_⟩
  refine attr_of hb (thn (he.run pins s σ H _ I h) fun u s1 hh => ?_)
  obtain ⟨x, H1, I1, rx, a, C, dx, bm, fs, v, ex, T, hno, ea, ed, l, q⟩ := hh
  subst ex
  obtain rfl : u = Value.ref a := rx
  obtain ⟨t1, ho⟩ := exo_at I1.hok ea
  obtain ⟨mA, hns, hr⟩ := exd_at I1.hok ed
  obtain ⟨od, ho2, hl⟩ := lookIn_ns hns
  obtain ⟨u, hu, ru⟩ := RelO.some_of (v := v) (o := mA n) (by rw [← l]; exact hr n)
  have J : PySem.W.InstAt s1.heap a _ C (some od) := ⟨ho, rfl, rfl, ho2⟩
  exact HandSPX.exc_get I1.kIn J T.ga T.gg T.ox.exC (PySem.W.findObj_own T.hd hno rfl (by rw [hl, hu])) (handed_of ru) ⟨v, H1, I1.tok _, ru, q⟩
end
/-! ### made -/
/-- what __init__ promises: one field -/
def spI (C : Addr) (f : Str) : Sp := fun vs H Q _ => ∃ (a : Addr) (y : V), vs = [.ref a, y] ∧ H a = some (exo a C none) ∧ ∀ dx, H dx = none → dx ≠ a → Q .non (upd (upd H dx (exd dx [(f, y)])) a (exo a C (some dx)))
/-- C(e): the new error, as its __init__ leaves it -/
def tMkE (C : Addr) (sp : Sp) (ta : TA) : TE := fun σ H Q => ta σ H fun vs H1 => vs.length ≤ 1000 ∧ ∀ a, H1 a = none → sp (.ref a :: vs) (upd H1 a (exo a C none)) (fun v H2 => v = .non ∧ Q (.ref a) H2) (fun _ _ _ => False)
section
variable {X : Cx} {CX : CXT} {x : Str} {C fI : Addr} {k : Nat} {fd : FuncData} {ps ks : List Str} {sp : Sp} {e : Expr} {es : List Expr} {kws : List Keyword} {ta : TA} {p pos : Pos}
theorem mkE_core {pins : List (Addr × Obj)} {σ : L2.St} {H1 : Hp} {s1 : Shared} {Q : VK} {us : List Value} {kw : List (Str × Value)} {ws : List Value} {vs : List V} (T : OexC X.K C) (iC : PySem.W.findIn X.K (.ref C) "__init__" = some (some (.ref fI))) (tI : PySem.W.typeIn X.K (.ref fI) = some (.type "function"))
    (F1 : FnOk X.prog X.w X.K X.mg X.base CX k fI fd ps sp) (hr : Room (k + 1) X.A) (hx : Passes CX X (fun _ _ _ => False)) (I1 : Inv X pins σ H1 s1) (r1 : Vals vs ws) (hus : us.length ≤ sizeLine)
    (hb : ∀ s self, X.K.In s.heap → ws.length + 1 = ps.length → BindsTo s fd ⟨self :: us, kw⟩ (ps.zip (self :: ws)))
    (h : ∀ a, H1 a = none → sp (.ref a :: vs) (upd H1 a (exo a C none)) (fun v H2 => v = .non ∧ Q (.ref a) H2) (fun _ _ _ => False)) :
    wpAny (model X.prog X.w) X.A (call (.ref C) us kw) (EP X pins σ Q) X.xe s1 := by
  obtain ⟨nm, q, N, bs, bm, sn, sub, ab, col, dd, k0, k1, k2, k3, k5, hC, hbm⟩ := T.cls
  obtain ⟨hp, g, dr, tk, os⟩ := s1
  have hsz : hp.objs.size ≤ hp.objs.size + 1 := Nat.le_succ _
  have hn : H1 (hp.objs.size + 1) = none := I1.hok.fresh hsz
  have hq := h (hp.objs.size + 1) hn
  have kk : ∀ b o, hp.get? b = some o → ((hp.push (PySem.W.kdv_tup us)).push (PySem.HandSPX.excO C hp.objs.size)).get? b = some o := fun b o e => Heap.get?_push_of_some _ (Heap.get?_push_of_some _ e)
  have hget : ((hp.push (PySem.W.kdv_tup us)).push (PySem.HandSPX.excO C hp.objs.size)).get? (hp.objs.size + 1) = some (PySem.HandSPX.excO C hp.objs.size) := by heap_get
  have I2 : Inv X pins σ (upd H1 (hp.objs.size + 1) (exo (hp.objs.size + 1) C none)) ⟨(hp.push (PySem.W.kdv_tup us)).push (PySem.HandSPX.excO C hp.objs.size), g, dr, tk, os⟩ :=
    I1.laid (t' := tk) (a := hp.objs.size + 1) (o := exo (hp.objs.size + 1) C none) (h' := (hp.push (PySem.W.kdv_tup us)).push (PySem.HandSPX.excO C hp.objs.size)) kk hsz (exo_ok hget)
  have r2 : Vals (V.ref (hp.objs.size + 1) :: vs) (Value.ref (hp.objs.size + 1) :: ws) := .cons rfl r1
  have hl : ws.length + 1 = ps.length := by
    have e := r2.length
    rw [F1.len _ _ _ _ hq] at e
    exact e.symm
  refine wpAny_call (PySem.XE.cls_run F.excBase_ValueError (fun Y => PySem.HandSPX.refsVE_contains Y bm hbm) (I1.kIn _ _ hC) (PySem.W.looks_findIn I1.kIn iC) (fun self => PySem.W.bind_fn I1.kIn self tI) hus
    (codeAny_mono (F1.run _ X.stack _ _ ⟨Value.ref (hp.objs.size + 1) :: us, kw⟩ (Value.ref (hp.objs.size + 1) :: ws) _ _ (fun _ _ _ => False) (hr.make C us kw) (I2.env0.make C us kw) (hb _ _ I2.kIn hl) r2 hq) fun r s' hq' => ?_))
  cases r with
  | error er => exact hx pins σ _ _ er s' I2 hq'
  | ok fl =>
    cases fl with
    | ret u =>
      obtain ⟨v, H', J, rv, ev, q2⟩ := I2.after hq'
      subst ev
      exact ⟨rv, ⟨.ref (hp.objs.size + 1), H', J, rfl, q2⟩⟩
    | next => exact False.elim hq'
    | brk => exact False.elim hq'
    | cont => exact False.elim hq'
theorem pe_mkE (T : OexC X.K C) (iC : PySem.W.findIn X.K (.ref C) "__init__" = some (some (.ref fI))) (tI : PySem.W.typeIn X.K (.ref fI) = some (.type "function"))
    (F1 : FnOk X.prog X.w X.K X.mg X.base CX k fI fd ps sp) (hr : Room (k + 1) X.A) (hb : Binds X.K fd ps []) (hx : Passes CX X (fun _ _ _ => False)) (hg : Gl X x) (hm : X.mg x = some (.ref C)) (ha : PA X (e :: es) ta)
    (hdb : (x == ("__debug__" : Str)) = false := by decide) (he : starEach (e :: es) X.env = (false, eval e X.env) :: starEach es X.env := by rfl) (hpl : (backTo pos (starEach es X.env)).any (·.1) = false := by rfl) :
    PE X (.Call (.Name x p) (e :: es) [] pos) (tMkE C sp ta) := by
  refine ⟨fun pins s σ H Q I h => ?_⟩
  refine wpAny_Call_Name_kw (ld_glob I hg hm ?_ hdb)
  refine PySem.W.callWith_K (h₀ := X.base) I.ok.mod.kin T.kC (thn (ha.run pos pins s σ H _ I h) fun us s1 ⟨vs, H1, I1, r1, hz, q1⟩ => ⟨I1.kIn, ?_⟩) he hpl
  show wpAny _ _ (call (.ref C) us) _ _ _
  refine mkE_core (ws := us) (kw := []) T iC tI F1 hr hx I1 r1 ?_ (fun s self X hl => ?_) q1
  · rw [← Paired.length r1, sizeLine_eq]
    omega
  · have b := hb s (self :: us) X (by rw [List.length_append]; exact hl)
    rw [List.append_nil] at b
    exact b
/-- C(f=e) -/
theorem pe_mkEk (T : OexC X.K C) (iC : PySem.W.findIn X.K (.ref C) "__init__" = some (some (.ref fI))) (tI : PySem.W.typeIn X.K (.ref fI) = some (.type "function"))
    (F1 : FnOk X.prog X.w X.K X.mg X.base CX k fI fd ps sp) (hr : Room (k + 1) X.A) (hb : ∀ s self ws, X.K.In s.heap → ws.length + 1 = ps.length → BindsTo s fd ⟨[self], ks.zip ws⟩ (ps.zip (self :: ws))) (hx : Passes CX X (fun _ _ _ => False)) (hg : Gl X x) (hm : X.mg x = some (.ref C)) (hk : PK X kws ta)
    (hall : (backToKw pos (keywordEach kws X.env)).all (·.1.isSome) = true := by rfl) (hks : (backToKw pos (keywordEach kws X.env)).filterMap (·.1) = ks := by rfl)
    (hdb : (x == ("__debug__" : Str)) = false := by decide) (hpl : ((backTo pos (starEach [] X.env)).any (·.1) || (backToKw pos (keywordEach kws X.env)).any (·.1.isNone)) = false := by rfl) :
    PE X (.Call (.Name x p) [] kws pos) (tMkE C sp ta) := by
  refine ⟨fun pins s σ H Q I h => ?_⟩
  refine wpAny_Call_Name_kw (ld_glob I hg hm ?_ hdb)
  refine PySem.W.callWith_KW0 (h₀ := X.base) I.ok.mod.kin T.kC hall (thn (hk.run pos pins s σ H _ I h) fun ws s1 ⟨vs, H1, I1, r1, hz, q1⟩ => ⟨I1.kIn, ?_⟩) hpl
  rw [hks]
  show wpAny _ _ (call (.ref C) [] (ks.zip ws)) _ _ _
  exact mkE_core (us := []) T iC tI F1 hr hx I1 r1 (Nat.zero_le _) (fun s self X hl => hb s self ws X hl) q1
/-- C(): a class without __init__ -/
theorem pe_mkE0 (T : OexC X.K C) (q : PySem.W.excIn X.K C He.veBase "ValueError.__new__" = true) (hg : Gl X x) (hm : X.mg x = some (.ref C)) (hdb : (x == ("__debug__" : Str)) = false := by decide) :
    PE X (.Call (.Name x p) [] [] pos) (fun _ H Q => ∀ a, H a = none → Q (.ref a) (upd H a (exo a C none))) := by
  refine ⟨fun pins s σ H1 Q I1 q1 => ?_⟩
  refine wpAny_Call_Name_kw (ld_glob I1 hg hm ?_ hdb)
  refine PySem.W.callWith_K0 I1.kIn T.kC ?_
  show wpAny _ _ (call (.ref C) []) _ _ _
  obtain ⟨bm, N, nm, qn, bs, hdct, sn, sub, ab, col, dd, k0, k1, k2, k3, k5, mN, hC, hN, hni, T⟩ := exc_obj I1.kIn q
  refine wpAny_call_exc_subT F.excBase_ValueError T hC hN hni (fun h' a hm => ?_) (Nat.zero_le _)
  have hn : H1 a = none := I1.hok.gone hm.new
  obtain ⟨t, ht, _, _⟩ := hm.there
  exact ⟨.ref a, upd H1 a (exo a C none), I1.laidN hm.keeps hm.new hn (exo_ok ht), rfl, q1 a hn⟩
end
end ER
set_option Elab.async false
set_option linter.all false
set_option maxRecDepth 100000
set_option maxHeartbeats 4000000
/-! the error classes of the text: printed by genx3.py -/
namespace ER
open PySem PySem.Spec PyProof.Rows L2

def errs : List Str := (["RunError", "BadOther", "BadFacts", "BadEntry", "BadHeld", "BadPapers", "BadResult", "BadMany", "BadWay", "CannotPutIn", "BadEdit", "BadSession", "BadSessionText", "BadRoad", "NothingToUndo", "NothingToRedo", "BadExpression", "BadValues", "BadProcs", "BadName"] : List Str) ++ (["BadProcedure", "BadProgram", "BadExpressionText", "BadProgramText", "BadLine", "BadPoint", "BadInputs", "BadStanding", "BadChoice", "BadChoices", "BadMost", "BadArgs", "BadAnswer", "BadPaperText", "BadTold", "BadOrder", "BadPlace", "BadSpot", "BadLineNumber", "BadRuns"] : List Str) ++ (["Ended"] : List Str)
def bare : List Str := (["RunError", "NothingToUndo", "NothingToRedo"] : List Str)
def flds : List (Str × Str) := ([("BadOther", "other"), ("BadFacts", "facts"), ("BadEntry", "entry"), ("BadHeld", "held"), ("BadPapers", "index"), ("BadResult", "number"), ("BadMany", "many"), ("BadWay", "way"), ("CannotPutIn", "f"), ("BadEdit", "edit"), ("BadSession", "session"), ("BadSessionText", "line"), ("BadRoad", "index"), ("BadExpression", "expression"), ("BadValues", "given"), ("BadProcs", "index"), ("BadName", "f"), ("BadProcedure", "procedure"), ("BadProgram", "program"), ("BadExpressionText", "text")] : List (Str × Str)) ++ ([("BadProgramText", "line"), ("BadLine", "line"), ("BadPoint", "point"), ("BadInputs", "inputs"), ("BadStanding", "standing"), ("BadChoice", "choice"), ("BadChoices", "index"), ("BadMost", "most"), ("BadArgs", "given"), ("BadAnswer", "answer"), ("BadPaperText", "line"), ("BadTold", "told"), ("BadOrder", "index"), ("BadPlace", "place"), ("BadLineNumber", "line"), ("BadRuns", "index"), ("Ended", "outcome")] : List (Str × Str))
/-- all that stood stands -/
def Ext (H H' : Hp) : Prop := ∀ b o, H b = some o → H' b = some o
theorem Ext.refl {H : Hp} : Ext H H := fun _ _ e => e
theorem Ext.trans {H1 H2 H3 : Hp} (a : Ext H1 H2) (b : Ext H2 H3) : Ext H1 H3 := fun p o e => b p o (a p o e)
theorem Ext.new {H : Hp} {p : Addr} {o : HO} (n : H p = none) : Ext H (upd H p o) := fun b u e => by rw [upd_ne (ne_of_none e n)]; exact e
theorem Er.ext {H H' : Hp} {a C : Addr} (e : Er H a C) (x : Ext H H') : Er H' a C := by
  obtain ⟨d, h1, h2⟩ := e
  refine ⟨d, x _ _ h1, fun dx q => ?_⟩
  obtain ⟨fs, h3⟩ := h2 dx q
  exact ⟨fs, x _ _ h3⟩
/-- an error with one field -/
def Ef (H : Hp) (a C : Addr) (f : Str) (y : V) : Prop := ∃ dx, H a = some (exo a C (some dx)) ∧ H dx = some (exd dx [(f, y)])
theorem Ef.ext {H H' : Hp} {a C : Addr} {f : Str} {y : V} (e : Ef H a C f y) (x : Ext H H') : Ef H' a C f y := by
  obtain ⟨dx, h1, h2⟩ := e
  exact ⟨dx, x _ _ h1, x _ _ h2⟩
theorem Ef.er {H : Hp} {a C : Addr} {f : Str} {y : V} (e : Ef H a C f y) : Er H a C := by
  obtain ⟨dx, h1, h2⟩ := e
  exact ⟨some dx, h1, fun d q => by cases q; exact ⟨_, h2⟩⟩
def bmOf (K : PySem.W.Frag) (x : Str) : List Value := if x = "RunError" then PySem.HandSPX.veTail else .ref (He.ga K "RunError") :: PySem.HandSPX.veTail
abbrev iAd (K : PySem.W.Frag) (x : Str) : Addr := He.ma K (He.ga K x) "__init__"
/-- one class with one field, and its __init__ -/
structure CR (P : Program) (w : World) (K : PySem.W.Frag) (mg : Str → Option Value) (base : Heap) (x f : Str) : Prop where
  no : PySem.W.findIn K (.ref (He.ga K x)) f = some none
  iC : PySem.W.findIn K (.ref (He.ga K x)) "__init__" = some (some (.ref (iAd K x)))
  tI : PySem.W.typeIn K (.ref (iAd K x)) = some (.type "function")
  ok : ∃ fd, FnOk P w K mg base CX0 1 (iAd K x) fd ["self", f] (spI (He.ga K x) f) ∧ Binds K fd ["self", f] [] ∧ (∀ (s : Shared) (self : Value) (ws : List Value), K.In s.heap → ws.length + 1 = 2 → BindsTo s fd ⟨[self], [f].zip ws⟩ ([("self" : Str), f].zip (self :: ws)))
def spI2 (C : Addr) (f g : Str) : Sp := fun vs H Q _ => ∃ (a : Addr) (y z : V), vs = [.ref a, y, z] ∧ H a = some (exo a C none) ∧ ∀ dx, H dx = none → dx ≠ a → Q .non (upd (upd (upd H dx (exd dx [(f, y)])) a (exo a C (some dx))) dx (exd dx [(g, z), (f, y)]))
structure CR2 (P : Program) (w : World) (K : PySem.W.Frag) (mg : Str → Option Value) (base : Heap) (x f g : Str) : Prop where
  iC : PySem.W.findIn K (.ref (He.ga K x)) "__init__" = some (some (.ref (iAd K x)))
  tI : PySem.W.typeIn K (.ref (iAd K x)) = some (.type "function")
  ok : ∃ fd, FnOk P w K mg base CX0 1 (iAd K x) fd ["self", f, g] (spI2 (He.ga K x) f g) ∧ Binds K fd ["self", f, g] []
/-- what the top has left of the classes -/
structure Wd (P : Program) (w : World) (K : PySem.W.Frag) (mg : Str → Option Value) (base : Heap) : Prop where
  gl : ∀ x ∈ errs, mg x = some (.ref (He.ga K x))
  ec : ∀ x ∈ errs, EC K (He.ga K x) (bmOf K x)
  inj : ∀ x ∈ errs, ∀ y ∈ errs, He.ga K x = He.ga K y → x = y
  cr : ∀ q ∈ flds, CR P w K mg base q.1 q.2
  sp : CR2 P w K mg base "BadSpot" "part" "place"
  ex : ∀ x ∈ bare, PySem.W.excIn K (He.ga K x) He.veBase "ValueError.__new__" = true
/-- C(e), C(f=e): a new error that holds e -/
def tMk1 (C : Addr) (f : Str) (te : TE) : TE := fun σ H Q => te σ H fun y H1 => ∀ H2 a, Ext H1 H2 → H1 a = none → Ef H2 a C f y → Q (.ref a) H2
theorem pure_mk1 {C : Addr} {f : Str} {te : TE} (hm : ∀ σ H Q Q', (∀ v H', Q v H' → Q' v H') → te σ H Q → te σ H Q') {σ : L2.St} {H : Hp} {Q : VK} (h : tMk1 C f te σ H Q) : tMkE C (spI C f) (tCons te tNil) σ H Q := by
  refine hm σ H _ _ (fun y H1 k => ?_) h
  refine ⟨(by show 1 ≤ 1000; decide), fun a na => ⟨a, y, rfl, upd_same, fun dx ndx ne => ⟨rfl, k _ a ?_ na ⟨dx, upd_same, ?_⟩⟩⟩⟩
  · intro b o e
    have hd : H1 dx = none := by
      rw [upd_ne ne] at ndx
      exact ndx
    have h1 := ne_of_none e na
    rw [upd_ne h1, upd_ne (ne_of_none e hd), upd_ne h1]
    exact e
  · rw [upd_ne ne]
    exact upd_same
def TMono (te : TE) : Prop := ∀ σ H Q Q', (∀ v H', Q v H' → Q' v H') → te σ H Q → te σ H Q'
theorem mono_var {i : Nat} : TMono (tVar i) := fun σ H Q Q' h z => by
  obtain ⟨v, e, q⟩ := z
  exact ⟨v, e, h _ _ q⟩
section
variable {X : Cx} {x f : Str} {e : Expr} {te : TE} {p pos kpos : Pos}
theorem Wd.pe1 (W : Wd X.prog X.w X.K X.mg X.base) (hq : (x, f) ∈ flds) (hx : x ∈ errs) (hr : Room 2 X.A) (hg : Gl X x) (ha : PE X e te) (hm : TMono te) (hdb : (x == ("__debug__" : Str)) = false := by decide)
    (he : starEach [e] X.env = (false, eval e X.env) :: starEach [] X.env := by rfl) : PE X (.Call (.Name x p) [e] [] pos) (tMk1 (He.ga X.K x) f te) := by
  have c := W.cr _ hq
  obtain ⟨fd, F1, hb, _⟩ := c.ok
  have r := pe_mkE (p := p) (pos := pos) (W.ec x hx).ox c.iC c.tI F1 hr hb pass0 hg (W.gl x hx) (pa_cons (hs := he) ha pa_nil) hdb he (by rfl)
  exact ⟨fun pins s σ H Q I h => r.run pins s σ H Q I (pure_mk1 hm h)⟩
theorem Wd.pe1k (W : Wd X.prog X.w X.K X.mg X.base) (hq : (x, f) ∈ flds) (hx : x ∈ errs) (hr : Room 2 X.A) (hg : Gl X x) (ha : PE X e te) (hm : TMono te)
    (hdb : (x == ("__debug__" : Str)) = false := by decide) : PE X (.Call (.Name x p) [] [⟨some f, e, kpos⟩] pos) (tMk1 (He.ga X.K x) f te) := by
  have c := W.cr _ hq
  obtain ⟨fd, F1, _, hb⟩ := c.ok
  have r := pe_mkEk (p := p) (pos := pos) (ks := [f]) (W.ec x hx).ox c.iC c.tI F1 hr (fun s self ws X hl => hb s self ws X (by simpa using hl)) pass0 hg (W.gl x hx) (pk_cons (kpos := kpos) (nm := some f) ha pk_nil) (by rfl) (by rfl) hdb (by rfl)
  exact ⟨fun pins s σ H Q I h => r.run pins s σ H Q I (pure_mk1 hm h)⟩
def tMk0 (C : Addr) : TE := fun _ H Q => ∀ H2 a, Ext H H2 → H a = none → Er H2 a C → Q (.ref a) H2
theorem Wd.pe0 (W : Wd X.prog X.w X.K X.mg X.base) (hq : x ∈ bare) (hx : x ∈ errs) (hg : Gl X x) (hdb : (x == ("__debug__" : Str)) = false := by decide) : PE X (.Call (.Name x p) [] [] pos) (tMk0 (He.ga X.K x)) := by
  have r := pe_mkE0 (p := p) (pos := pos) (W.ec x hx).ox (W.ex x hq) hg (W.gl x hx) hdb
  exact ⟨fun pins s σ H Q I h => r.run pins s σ H Q I fun a na => h _ a (Ext.new na) na ⟨none, upd_same, fun dx q => nomatch q⟩⟩
def tMk2 (C : Addr) (te ts : TE) : TE := fun σ H Q => te σ H fun _ H0 => ts σ H0 fun _ H1 => ∀ H2 a, Ext H1 H2 → H1 a = none → Er H2 a C → Q (.ref a) H2
theorem pe2 {g : Str} {e' : Expr} {ts : TE} (c : CR2 X.prog X.w X.K X.mg X.base x f g) (T : EC X.K (He.ga X.K x) bm) (hx : X.mg x = some (.ref (He.ga X.K x))) (hr : Room 2 X.A) (hg : Gl X x) (ha : PE X e te) (hs : PE X e' ts) (hm : TMono te) (hm' : TMono ts) (hdb : (x == ("__debug__" : Str)) = false := by decide)
    (he : starEach [e, e'] X.env = (false, eval e X.env) :: starEach [e'] X.env := by rfl) (hpl : (backTo pos (starEach [e'] X.env)).any (·.1) = false := by rfl) (hs2 : starEach [e'] X.env = (false, eval e' X.env) :: starEach [] X.env := by rfl) : PE X (.Call (.Name x p) [e, e'] [] pos) (tMk2 (He.ga X.K x) te ts) := by
  obtain ⟨fd, F1, hb⟩ := c.ok
  have r := pe_mkE (p := p) (pos := pos) T.ox c.iC c.tI F1 hr hb pass0 hg hx (pa_cons (hs := he) ha (pa_cons (hs := hs2) hs pa_nil)) hdb he hpl
  refine ⟨fun pins s σ H Q I h => r.run pins s σ H Q I ?_⟩
  refine hm σ H _ _ (fun y H0 h => ?_) h
  refine hm' σ H0 _ _ (fun z H1 k => ?_) h
  refine ⟨(by show 2 ≤ 1000; decide), fun a na => ⟨a, y, z, rfl, upd_same, fun dx ndx ne => ⟨rfl, k _ a ?_ na ⟨some dx, ?_, fun d q => ?_⟩⟩⟩⟩
  · intro b o e
    have hd : H1 dx = none := by
      rw [upd_ne ne] at ndx
      exact ndx
    have h1 := ne_of_none e na
    have h2 := ne_of_none e hd
    rw [upd_ne h2, upd_ne h1, upd_ne h2, upd_ne h1]
    exact e
  · rw [upd_ne (Ne.symm ne)]
    exact upd_same
  · cases q
    exact ⟨_, upd_same⟩
end
/-! ### isinstance by names -/
def isN (x y : Str) : Bool := decide (x = y) || decide (y = "RunError")
section
variable {P : Program} {w : World} {K : PySem.W.Frag} {mg : Str → Option Value} {base : Heap}
theorem Wd.kit (W : Wd P w K mg base) {x y : Str} (hx : x ∈ errs) (hy : y ∈ errs) : PySem.W.kitOne K (.ref (He.ga K x)) (.ref (He.ga K y)) = some (isN x y) := by
  have hR : ("RunError" : Str) ∈ errs := by decide +kernel
  have e1 : (Value.ref (He.ga K y) == Value.ref (He.ga K x)) = decide (x = y) := by
    by_cases h : x = y
    · rw [h]
      simp
    · rw [decide_eq_false h]
      refine Bool.eq_false_iff.mpr fun z => h ?_
      exact (W.inj y hy x hx (Value.ref.inj (eq_of_beq z))).symm
  have e2 : (Value.ref (He.ga K y) == Value.ref (He.ga K "RunError")) = decide (y = "RunError") := by
    by_cases h : y = "RunError"
    · rw [h]
      simp
    · rw [decide_eq_false h]
      refine Bool.eq_false_iff.mpr fun z => h ?_
      exact W.inj y hy _ hR (Value.ref.inj (eq_of_beq z))
  have e3 : PySem.HandSPX.veTail.contains (Value.ref (He.ga K y)) = false := by
    simp [PySem.HandSPX.veTail]
  rw [(W.ec x hx).kit (W.ec y hy), List.contains_cons, e1]
  unfold bmOf isN
  by_cases h : x = "RunError"
  · rw [if_pos h, e3, h]
    congr 1
    by_cases h2 : y = "RunError"
    · rw [h2]
      simp
    · simp [h2]
  · rw [if_neg h, List.contains_cons, e2, e3, Bool.or_false]
theorem Wd.kitA (W : Wd P w K mg base) {x : Str} (hx : x ∈ errs) : ∀ ys : List Str, (∀ y ∈ ys, y ∈ errs) → PySem.W.kitAny K (.ref (He.ga K x)) (ys.map fun y => .ref (He.ga K y)) = some (ys.any (isN x))
  | [], _ => rfl
  | y :: ys, h => kitAny_cons (W.kit hx (h y List.mem_cons_self)) (fun e => by
      rw [List.any_cons, e, Bool.false_or]
      exact W.kitA hx ys fun z hz => h z (List.mem_cons_of_mem _ hz)) (fun e => by rw [List.any_cons, e, Bool.true_or])
theorem pairedCls (K : PySem.W.Frag) : ∀ ys : List Str, Paired ClsV (ys.map fun y => V.ref (He.ga K y)) (ys.map fun y => Value.ref (He.ga K y))
  | [] => .nil
  | y :: ys => .cons (.own _) (pairedCls K ys)
end
section
variable {P : Program} {w : World} {K : PySem.W.Frag} {mg : Str → Option Value} {base : Heap} {C fI : Addr} {fd : FuncData}
/-! ### each __init__ -/
abbrev sBadOther : Stmt := inClass (top 2) 0
theorem scBadOther : FnScope ["self", "other"] ["self", "other"] (defScope sBadOther) := ⟨rfl, rfl, rfl, by decide +kernel, rfl, by decide +kernel, by decide +kernel⟩
theorem inBadOther (F : FunD K "__init__" "BadOther.__init__" (defArgs sBadOther) (defBody sBadOther) (defScope sBadOther) [] [] fI fd) (T : OexC K C) (no : PySem.W.findIn K (.ref C) "other" = some none) : FnOk P w K mg base CX0 1 fI fd ["self", "other"] (spI C "other") := by
  refine F.ok scBadOther (fun vs H Q E h => ?_) (fun cdv A outer s H vs Q E hr h => ⟨_, PSs.nox (pss_one (ps_ost (pv 0) (pv 1))), ?_⟩)
  · obtain ⟨a, y, rfl, _⟩ := h
    rfl
  · obtain ⟨a, y, rfl, e, k⟩ := h
    exact ⟨_, rfl, _, rfl, a, C, rfl, T, no, .inl ⟨e, k⟩⟩
theorem bnBadOther (F : FunD K "__init__" "BadOther.__init__" (defArgs sBadOther) (defBody sBadOther) (defScope sBadOther) [] [] fI fd) : Binds K fd ["self", "other"] [] ∧ (∀ (s : Shared) (self : Value) (ws : List Value), K.In s.heap → ws.length + 1 = 2 → BindsTo s fd ⟨[self], [("other" : Str)].zip ws⟩ ([("self" : Str), "other"].zip (self :: ws))) := by
  refine ⟨F.bindsN fun _ _ _ _ _ _ us hl => match us, hl with | [_, _], _ => rfl, fun s self ws X hl => ?_⟩
  obtain ⟨oc, od, dV, kV, doc, pm, an, cdv, ct, osl, rfl, lk, hcd, hD, hK⟩ := F.ex
  match ws, hl with
  | [u], _ =>
    rcases hD with ⟨_, rfl⟩ | ⟨e, _⟩
    · exact .of_eq rfl
    · exact absurd rfl e
abbrev sBadFacts : Stmt := inClass (top 3) 0
theorem scBadFacts : FnScope ["self", "facts"] ["self", "facts"] (defScope sBadFacts) := ⟨rfl, rfl, rfl, by decide +kernel, rfl, by decide +kernel, by decide +kernel⟩
theorem inBadFacts (F : FunD K "__init__" "BadFacts.__init__" (defArgs sBadFacts) (defBody sBadFacts) (defScope sBadFacts) [] [] fI fd) (T : OexC K C) (no : PySem.W.findIn K (.ref C) "facts" = some none) : FnOk P w K mg base CX0 1 fI fd ["self", "facts"] (spI C "facts") := by
  refine F.ok scBadFacts (fun vs H Q E h => ?_) (fun cdv A outer s H vs Q E hr h => ⟨_, PSs.nox (pss_one (ps_ost (pv 0) (pv 1))), ?_⟩)
  · obtain ⟨a, y, rfl, _⟩ := h
    rfl
  · obtain ⟨a, y, rfl, e, k⟩ := h
    exact ⟨_, rfl, _, rfl, a, C, rfl, T, no, .inl ⟨e, k⟩⟩
theorem bnBadFacts (F : FunD K "__init__" "BadFacts.__init__" (defArgs sBadFacts) (defBody sBadFacts) (defScope sBadFacts) [] [] fI fd) : Binds K fd ["self", "facts"] [] ∧ (∀ (s : Shared) (self : Value) (ws : List Value), K.In s.heap → ws.length + 1 = 2 → BindsTo s fd ⟨[self], [("facts" : Str)].zip ws⟩ ([("self" : Str), "facts"].zip (self :: ws))) := by
  refine ⟨F.bindsN fun _ _ _ _ _ _ us hl => match us, hl with | [_, _], _ => rfl, fun s self ws X hl => ?_⟩
  obtain ⟨oc, od, dV, kV, doc, pm, an, cdv, ct, osl, rfl, lk, hcd, hD, hK⟩ := F.ex
  match ws, hl with
  | [u], _ =>
    rcases hD with ⟨_, rfl⟩ | ⟨e, _⟩
    · exact .of_eq rfl
    · exact absurd rfl e
abbrev sBadEntry : Stmt := inClass (top 4) 0
theorem scBadEntry : FnScope ["self", "entry"] ["self", "entry"] (defScope sBadEntry) := ⟨rfl, rfl, rfl, by decide +kernel, rfl, by decide +kernel, by decide +kernel⟩
theorem inBadEntry (F : FunD K "__init__" "BadEntry.__init__" (defArgs sBadEntry) (defBody sBadEntry) (defScope sBadEntry) [] [] fI fd) (T : OexC K C) (no : PySem.W.findIn K (.ref C) "entry" = some none) : FnOk P w K mg base CX0 1 fI fd ["self", "entry"] (spI C "entry") := by
  refine F.ok scBadEntry (fun vs H Q E h => ?_) (fun cdv A outer s H vs Q E hr h => ⟨_, PSs.nox (pss_one (ps_ost (pv 0) (pv 1))), ?_⟩)
  · obtain ⟨a, y, rfl, _⟩ := h
    rfl
  · obtain ⟨a, y, rfl, e, k⟩ := h
    exact ⟨_, rfl, _, rfl, a, C, rfl, T, no, .inl ⟨e, k⟩⟩
theorem bnBadEntry (F : FunD K "__init__" "BadEntry.__init__" (defArgs sBadEntry) (defBody sBadEntry) (defScope sBadEntry) [] [] fI fd) : Binds K fd ["self", "entry"] [] ∧ (∀ (s : Shared) (self : Value) (ws : List Value), K.In s.heap → ws.length + 1 = 2 → BindsTo s fd ⟨[self], [("entry" : Str)].zip ws⟩ ([("self" : Str), "entry"].zip (self :: ws))) := by
  refine ⟨F.bindsN fun _ _ _ _ _ _ us hl => match us, hl with | [_, _], _ => rfl, fun s self ws X hl => ?_⟩
  obtain ⟨oc, od, dV, kV, doc, pm, an, cdv, ct, osl, rfl, lk, hcd, hD, hK⟩ := F.ex
  match ws, hl with
  | [u], _ =>
    rcases hD with ⟨_, rfl⟩ | ⟨e, _⟩
    · exact .of_eq rfl
    · exact absurd rfl e
abbrev sBadHeld : Stmt := inClass (top 5) 0
theorem scBadHeld : FnScope ["self", "held"] ["self", "held"] (defScope sBadHeld) := ⟨rfl, rfl, rfl, by decide +kernel, rfl, by decide +kernel, by decide +kernel⟩
theorem inBadHeld (F : FunD K "__init__" "BadHeld.__init__" (defArgs sBadHeld) (defBody sBadHeld) (defScope sBadHeld) [] [] fI fd) (T : OexC K C) (no : PySem.W.findIn K (.ref C) "held" = some none) : FnOk P w K mg base CX0 1 fI fd ["self", "held"] (spI C "held") := by
  refine F.ok scBadHeld (fun vs H Q E h => ?_) (fun cdv A outer s H vs Q E hr h => ⟨_, PSs.nox (pss_one (ps_ost (pv 0) (pv 1))), ?_⟩)
  · obtain ⟨a, y, rfl, _⟩ := h
    rfl
  · obtain ⟨a, y, rfl, e, k⟩ := h
    exact ⟨_, rfl, _, rfl, a, C, rfl, T, no, .inl ⟨e, k⟩⟩
theorem bnBadHeld (F : FunD K "__init__" "BadHeld.__init__" (defArgs sBadHeld) (defBody sBadHeld) (defScope sBadHeld) [] [] fI fd) : Binds K fd ["self", "held"] [] ∧ (∀ (s : Shared) (self : Value) (ws : List Value), K.In s.heap → ws.length + 1 = 2 → BindsTo s fd ⟨[self], [("held" : Str)].zip ws⟩ ([("self" : Str), "held"].zip (self :: ws))) := by
  refine ⟨F.bindsN fun _ _ _ _ _ _ us hl => match us, hl with | [_, _], _ => rfl, fun s self ws X hl => ?_⟩
  obtain ⟨oc, od, dV, kV, doc, pm, an, cdv, ct, osl, rfl, lk, hcd, hD, hK⟩ := F.ex
  match ws, hl with
  | [u], _ =>
    rcases hD with ⟨_, rfl⟩ | ⟨e, _⟩
    · exact .of_eq rfl
    · exact absurd rfl e
abbrev sBadPapers : Stmt := inClass (top 6) 0
theorem scBadPapers : FnScope ["self", "index"] ["self", "index"] (defScope sBadPapers) := ⟨rfl, rfl, rfl, by decide +kernel, rfl, by decide +kernel, by decide +kernel⟩
theorem inBadPapers (F : FunD K "__init__" "BadPapers.__init__" (defArgs sBadPapers) (defBody sBadPapers) (defScope sBadPapers) [] [] fI fd) (T : OexC K C) (no : PySem.W.findIn K (.ref C) "index" = some none) : FnOk P w K mg base CX0 1 fI fd ["self", "index"] (spI C "index") := by
  refine F.ok scBadPapers (fun vs H Q E h => ?_) (fun cdv A outer s H vs Q E hr h => ⟨_, PSs.nox (pss_one (ps_ost (pv 0) (pv 1))), ?_⟩)
  · obtain ⟨a, y, rfl, _⟩ := h
    rfl
  · obtain ⟨a, y, rfl, e, k⟩ := h
    exact ⟨_, rfl, _, rfl, a, C, rfl, T, no, .inl ⟨e, k⟩⟩
theorem bnBadPapers (F : FunD K "__init__" "BadPapers.__init__" (defArgs sBadPapers) (defBody sBadPapers) (defScope sBadPapers) [] [] fI fd) : Binds K fd ["self", "index"] [] ∧ (∀ (s : Shared) (self : Value) (ws : List Value), K.In s.heap → ws.length + 1 = 2 → BindsTo s fd ⟨[self], [("index" : Str)].zip ws⟩ ([("self" : Str), "index"].zip (self :: ws))) := by
  refine ⟨F.bindsN fun _ _ _ _ _ _ us hl => match us, hl with | [_, _], _ => rfl, fun s self ws X hl => ?_⟩
  obtain ⟨oc, od, dV, kV, doc, pm, an, cdv, ct, osl, rfl, lk, hcd, hD, hK⟩ := F.ex
  match ws, hl with
  | [u], _ =>
    rcases hD with ⟨_, rfl⟩ | ⟨e, _⟩
    · exact .of_eq rfl
    · exact absurd rfl e
abbrev sBadResult : Stmt := inClass (top 7) 0
theorem scBadResult : FnScope ["self", "number"] ["self", "number"] (defScope sBadResult) := ⟨rfl, rfl, rfl, by decide +kernel, rfl, by decide +kernel, by decide +kernel⟩
theorem inBadResult (F : FunD K "__init__" "BadResult.__init__" (defArgs sBadResult) (defBody sBadResult) (defScope sBadResult) [] [] fI fd) (T : OexC K C) (no : PySem.W.findIn K (.ref C) "number" = some none) : FnOk P w K mg base CX0 1 fI fd ["self", "number"] (spI C "number") := by
  refine F.ok scBadResult (fun vs H Q E h => ?_) (fun cdv A outer s H vs Q E hr h => ⟨_, PSs.nox (pss_one (ps_ost (pv 0) (pv 1))), ?_⟩)
  · obtain ⟨a, y, rfl, _⟩ := h
    rfl
  · obtain ⟨a, y, rfl, e, k⟩ := h
    exact ⟨_, rfl, _, rfl, a, C, rfl, T, no, .inl ⟨e, k⟩⟩
theorem bnBadResult (F : FunD K "__init__" "BadResult.__init__" (defArgs sBadResult) (defBody sBadResult) (defScope sBadResult) [] [] fI fd) : Binds K fd ["self", "number"] [] ∧ (∀ (s : Shared) (self : Value) (ws : List Value), K.In s.heap → ws.length + 1 = 2 → BindsTo s fd ⟨[self], [("number" : Str)].zip ws⟩ ([("self" : Str), "number"].zip (self :: ws))) := by
  refine ⟨F.bindsN fun _ _ _ _ _ _ us hl => match us, hl with | [_, _], _ => rfl, fun s self ws X hl => ?_⟩
  obtain ⟨oc, od, dV, kV, doc, pm, an, cdv, ct, osl, rfl, lk, hcd, hD, hK⟩ := F.ex
  match ws, hl with
  | [u], _ =>
    rcases hD with ⟨_, rfl⟩ | ⟨e, _⟩
    · exact .of_eq rfl
    · exact absurd rfl e
abbrev sBadMany : Stmt := inClass (top 8) 0
theorem scBadMany : FnScope ["self", "many"] ["self", "many"] (defScope sBadMany) := ⟨rfl, rfl, rfl, by decide +kernel, rfl, by decide +kernel, by decide +kernel⟩
theorem inBadMany (F : FunD K "__init__" "BadMany.__init__" (defArgs sBadMany) (defBody sBadMany) (defScope sBadMany) [] [] fI fd) (T : OexC K C) (no : PySem.W.findIn K (.ref C) "many" = some none) : FnOk P w K mg base CX0 1 fI fd ["self", "many"] (spI C "many") := by
  refine F.ok scBadMany (fun vs H Q E h => ?_) (fun cdv A outer s H vs Q E hr h => ⟨_, PSs.nox (pss_one (ps_ost (pv 0) (pv 1))), ?_⟩)
  · obtain ⟨a, y, rfl, _⟩ := h
    rfl
  · obtain ⟨a, y, rfl, e, k⟩ := h
    exact ⟨_, rfl, _, rfl, a, C, rfl, T, no, .inl ⟨e, k⟩⟩
theorem bnBadMany (F : FunD K "__init__" "BadMany.__init__" (defArgs sBadMany) (defBody sBadMany) (defScope sBadMany) [] [] fI fd) : Binds K fd ["self", "many"] [] ∧ (∀ (s : Shared) (self : Value) (ws : List Value), K.In s.heap → ws.length + 1 = 2 → BindsTo s fd ⟨[self], [("many" : Str)].zip ws⟩ ([("self" : Str), "many"].zip (self :: ws))) := by
  refine ⟨F.bindsN fun _ _ _ _ _ _ us hl => match us, hl with | [_, _], _ => rfl, fun s self ws X hl => ?_⟩
  obtain ⟨oc, od, dV, kV, doc, pm, an, cdv, ct, osl, rfl, lk, hcd, hD, hK⟩ := F.ex
  match ws, hl with
  | [u], _ =>
    rcases hD with ⟨_, rfl⟩ | ⟨e, _⟩
    · exact .of_eq rfl
    · exact absurd rfl e
abbrev sBadWay : Stmt := inClass (top 10) 0
theorem scBadWay : FnScope ["self", "way"] ["self", "way"] (defScope sBadWay) := ⟨rfl, rfl, rfl, by decide +kernel, rfl, by decide +kernel, by decide +kernel⟩
theorem inBadWay (F : FunD K "__init__" "BadWay.__init__" (defArgs sBadWay) (defBody sBadWay) (defScope sBadWay) [] [] fI fd) (T : OexC K C) (no : PySem.W.findIn K (.ref C) "way" = some none) : FnOk P w K mg base CX0 1 fI fd ["self", "way"] (spI C "way") := by
  refine F.ok scBadWay (fun vs H Q E h => ?_) (fun cdv A outer s H vs Q E hr h => ⟨_, PSs.nox (pss_one (ps_ost (pv 0) (pv 1))), ?_⟩)
  · obtain ⟨a, y, rfl, _⟩ := h
    rfl
  · obtain ⟨a, y, rfl, e, k⟩ := h
    exact ⟨_, rfl, _, rfl, a, C, rfl, T, no, .inl ⟨e, k⟩⟩
theorem bnBadWay (F : FunD K "__init__" "BadWay.__init__" (defArgs sBadWay) (defBody sBadWay) (defScope sBadWay) [] [] fI fd) : Binds K fd ["self", "way"] [] ∧ (∀ (s : Shared) (self : Value) (ws : List Value), K.In s.heap → ws.length + 1 = 2 → BindsTo s fd ⟨[self], [("way" : Str)].zip ws⟩ ([("self" : Str), "way"].zip (self :: ws))) := by
  refine ⟨F.bindsN fun _ _ _ _ _ _ us hl => match us, hl with | [_, _], _ => rfl, fun s self ws X hl => ?_⟩
  obtain ⟨oc, od, dV, kV, doc, pm, an, cdv, ct, osl, rfl, lk, hcd, hD, hK⟩ := F.ex
  match ws, hl with
  | [u], _ =>
    rcases hD with ⟨_, rfl⟩ | ⟨e, _⟩
    · exact .of_eq rfl
    · exact absurd rfl e
abbrev sCannotPutIn : Stmt := inClass (top 11) 0
theorem scCannotPutIn : FnScope ["self", "f"] ["self", "f"] (defScope sCannotPutIn) := ⟨rfl, rfl, rfl, by decide +kernel, rfl, by decide +kernel, by decide +kernel⟩
theorem inCannotPutIn (F : FunD K "__init__" "CannotPutIn.__init__" (defArgs sCannotPutIn) (defBody sCannotPutIn) (defScope sCannotPutIn) [] [] fI fd) (T : OexC K C) (no : PySem.W.findIn K (.ref C) "f" = some none) : FnOk P w K mg base CX0 1 fI fd ["self", "f"] (spI C "f") := by
  refine F.ok scCannotPutIn (fun vs H Q E h => ?_) (fun cdv A outer s H vs Q E hr h => ⟨_, PSs.nox (pss_one (ps_ost (pv 0) (pv 1))), ?_⟩)
  · obtain ⟨a, y, rfl, _⟩ := h
    rfl
  · obtain ⟨a, y, rfl, e, k⟩ := h
    exact ⟨_, rfl, _, rfl, a, C, rfl, T, no, .inl ⟨e, k⟩⟩
theorem bnCannotPutIn (F : FunD K "__init__" "CannotPutIn.__init__" (defArgs sCannotPutIn) (defBody sCannotPutIn) (defScope sCannotPutIn) [] [] fI fd) : Binds K fd ["self", "f"] [] ∧ (∀ (s : Shared) (self : Value) (ws : List Value), K.In s.heap → ws.length + 1 = 2 → BindsTo s fd ⟨[self], [("f" : Str)].zip ws⟩ ([("self" : Str), "f"].zip (self :: ws))) := by
  refine ⟨F.bindsN fun _ _ _ _ _ _ us hl => match us, hl with | [_, _], _ => rfl, fun s self ws X hl => ?_⟩
  obtain ⟨oc, od, dV, kV, doc, pm, an, cdv, ct, osl, rfl, lk, hcd, hD, hK⟩ := F.ex
  match ws, hl with
  | [u], _ =>
    rcases hD with ⟨_, rfl⟩ | ⟨e, _⟩
    · exact .of_eq rfl
    · exact absurd rfl e
abbrev sBadEdit : Stmt := inClass (top 12) 0
theorem scBadEdit : FnScope ["self", "edit"] ["self", "edit"] (defScope sBadEdit) := ⟨rfl, rfl, rfl, by decide +kernel, rfl, by decide +kernel, by decide +kernel⟩
theorem inBadEdit (F : FunD K "__init__" "BadEdit.__init__" (defArgs sBadEdit) (defBody sBadEdit) (defScope sBadEdit) [] [] fI fd) (T : OexC K C) (no : PySem.W.findIn K (.ref C) "edit" = some none) : FnOk P w K mg base CX0 1 fI fd ["self", "edit"] (spI C "edit") := by
  refine F.ok scBadEdit (fun vs H Q E h => ?_) (fun cdv A outer s H vs Q E hr h => ⟨_, PSs.nox (pss_one (ps_ost (pv 0) (pv 1))), ?_⟩)
  · obtain ⟨a, y, rfl, _⟩ := h
    rfl
  · obtain ⟨a, y, rfl, e, k⟩ := h
    exact ⟨_, rfl, _, rfl, a, C, rfl, T, no, .inl ⟨e, k⟩⟩
theorem bnBadEdit (F : FunD K "__init__" "BadEdit.__init__" (defArgs sBadEdit) (defBody sBadEdit) (defScope sBadEdit) [] [] fI fd) : Binds K fd ["self", "edit"] [] ∧ (∀ (s : Shared) (self : Value) (ws : List Value), K.In s.heap → ws.length + 1 = 2 → BindsTo s fd ⟨[self], [("edit" : Str)].zip ws⟩ ([("self" : Str), "edit"].zip (self :: ws))) := by
  refine ⟨F.bindsN fun _ _ _ _ _ _ us hl => match us, hl with | [_, _], _ => rfl, fun s self ws X hl => ?_⟩
  obtain ⟨oc, od, dV, kV, doc, pm, an, cdv, ct, osl, rfl, lk, hcd, hD, hK⟩ := F.ex
  match ws, hl with
  | [u], _ =>
    rcases hD with ⟨_, rfl⟩ | ⟨e, _⟩
    · exact .of_eq rfl
    · exact absurd rfl e
abbrev sBadSession : Stmt := inClass (top 13) 0
theorem scBadSession : FnScope ["self", "session"] ["self", "session"] (defScope sBadSession) := ⟨rfl, rfl, rfl, by decide +kernel, rfl, by decide +kernel, by decide +kernel⟩
theorem inBadSession (F : FunD K "__init__" "BadSession.__init__" (defArgs sBadSession) (defBody sBadSession) (defScope sBadSession) [] [] fI fd) (T : OexC K C) (no : PySem.W.findIn K (.ref C) "session" = some none) : FnOk P w K mg base CX0 1 fI fd ["self", "session"] (spI C "session") := by
  refine F.ok scBadSession (fun vs H Q E h => ?_) (fun cdv A outer s H vs Q E hr h => ⟨_, PSs.nox (pss_one (ps_ost (pv 0) (pv 1))), ?_⟩)
  · obtain ⟨a, y, rfl, _⟩ := h
    rfl
  · obtain ⟨a, y, rfl, e, k⟩ := h
    exact ⟨_, rfl, _, rfl, a, C, rfl, T, no, .inl ⟨e, k⟩⟩
theorem bnBadSession (F : FunD K "__init__" "BadSession.__init__" (defArgs sBadSession) (defBody sBadSession) (defScope sBadSession) [] [] fI fd) : Binds K fd ["self", "session"] [] ∧ (∀ (s : Shared) (self : Value) (ws : List Value), K.In s.heap → ws.length + 1 = 2 → BindsTo s fd ⟨[self], [("session" : Str)].zip ws⟩ ([("self" : Str), "session"].zip (self :: ws))) := by
  refine ⟨F.bindsN fun _ _ _ _ _ _ us hl => match us, hl with | [_, _], _ => rfl, fun s self ws X hl => ?_⟩
  obtain ⟨oc, od, dV, kV, doc, pm, an, cdv, ct, osl, rfl, lk, hcd, hD, hK⟩ := F.ex
  match ws, hl with
  | [u], _ =>
    rcases hD with ⟨_, rfl⟩ | ⟨e, _⟩
    · exact .of_eq rfl
    · exact absurd rfl e
abbrev sBadSessionText : Stmt := inClass (top 14) 0
theorem scBadSessionText : FnScope ["self", "line"] ["self", "line"] (defScope sBadSessionText) := ⟨rfl, rfl, rfl, by decide +kernel, rfl, by decide +kernel, by decide +kernel⟩
theorem inBadSessionText (F : FunD K "__init__" "BadSessionText.__init__" (defArgs sBadSessionText) (defBody sBadSessionText) (defScope sBadSessionText) [] [] fI fd) (T : OexC K C) (no : PySem.W.findIn K (.ref C) "line" = some none) : FnOk P w K mg base CX0 1 fI fd ["self", "line"] (spI C "line") := by
  refine F.ok scBadSessionText (fun vs H Q E h => ?_) (fun cdv A outer s H vs Q E hr h => ⟨_, PSs.nox (pss_one (ps_ost (pv 0) (pv 1))), ?_⟩)
  · obtain ⟨a, y, rfl, _⟩ := h
    rfl
  · obtain ⟨a, y, rfl, e, k⟩ := h
    exact ⟨_, rfl, _, rfl, a, C, rfl, T, no, .inl ⟨e, k⟩⟩
theorem bnBadSessionText (F : FunD K "__init__" "BadSessionText.__init__" (defArgs sBadSessionText) (defBody sBadSessionText) (defScope sBadSessionText) [] [] fI fd) : Binds K fd ["self", "line"] [] ∧ (∀ (s : Shared) (self : Value) (ws : List Value), K.In s.heap → ws.length + 1 = 2 → BindsTo s fd ⟨[self], [("line" : Str)].zip ws⟩ ([("self" : Str), "line"].zip (self :: ws))) := by
  refine ⟨F.bindsN fun _ _ _ _ _ _ us hl => match us, hl with | [_, _], _ => rfl, fun s self ws X hl => ?_⟩
  obtain ⟨oc, od, dV, kV, doc, pm, an, cdv, ct, osl, rfl, lk, hcd, hD, hK⟩ := F.ex
  match ws, hl with
  | [u], _ =>
    rcases hD with ⟨_, rfl⟩ | ⟨e, _⟩
    · exact .of_eq rfl
    · exact absurd rfl e
abbrev sBadRoad : Stmt := inClass (top 15) 0
theorem scBadRoad : FnScope ["self", "index"] ["self", "index"] (defScope sBadRoad) := ⟨rfl, rfl, rfl, by decide +kernel, rfl, by decide +kernel, by decide +kernel⟩
theorem inBadRoad (F : FunD K "__init__" "BadRoad.__init__" (defArgs sBadRoad) (defBody sBadRoad) (defScope sBadRoad) [] [] fI fd) (T : OexC K C) (no : PySem.W.findIn K (.ref C) "index" = some none) : FnOk P w K mg base CX0 1 fI fd ["self", "index"] (spI C "index") := by
  refine F.ok scBadRoad (fun vs H Q E h => ?_) (fun cdv A outer s H vs Q E hr h => ⟨_, PSs.nox (pss_one (ps_ost (pv 0) (pv 1))), ?_⟩)
  · obtain ⟨a, y, rfl, _⟩ := h
    rfl
  · obtain ⟨a, y, rfl, e, k⟩ := h
    exact ⟨_, rfl, _, rfl, a, C, rfl, T, no, .inl ⟨e, k⟩⟩
theorem bnBadRoad (F : FunD K "__init__" "BadRoad.__init__" (defArgs sBadRoad) (defBody sBadRoad) (defScope sBadRoad) [] [] fI fd) : Binds K fd ["self", "index"] [] ∧ (∀ (s : Shared) (self : Value) (ws : List Value), K.In s.heap → ws.length + 1 = 2 → BindsTo s fd ⟨[self], [("index" : Str)].zip ws⟩ ([("self" : Str), "index"].zip (self :: ws))) := by
  refine ⟨F.bindsN fun _ _ _ _ _ _ us hl => match us, hl with | [_, _], _ => rfl, fun s self ws X hl => ?_⟩
  obtain ⟨oc, od, dV, kV, doc, pm, an, cdv, ct, osl, rfl, lk, hcd, hD, hK⟩ := F.ex
  match ws, hl with
  | [u], _ =>
    rcases hD with ⟨_, rfl⟩ | ⟨e, _⟩
    · exact .of_eq rfl
    · exact absurd rfl e
abbrev sBadExpression : Stmt := inClass (top 19) 0
theorem scBadExpression : FnScope ["self", "expression"] ["self", "expression"] (defScope sBadExpression) := ⟨rfl, rfl, rfl, by decide +kernel, rfl, by decide +kernel, by decide +kernel⟩
theorem inBadExpression (F : FunD K "__init__" "BadExpression.__init__" (defArgs sBadExpression) (defBody sBadExpression) (defScope sBadExpression) [] [] fI fd) (T : OexC K C) (no : PySem.W.findIn K (.ref C) "expression" = some none) : FnOk P w K mg base CX0 1 fI fd ["self", "expression"] (spI C "expression") := by
  refine F.ok scBadExpression (fun vs H Q E h => ?_) (fun cdv A outer s H vs Q E hr h => ⟨_, PSs.nox (pss_one (ps_ost (pv 0) (pv 1))), ?_⟩)
  · obtain ⟨a, y, rfl, _⟩ := h
    rfl
  · obtain ⟨a, y, rfl, e, k⟩ := h
    exact ⟨_, rfl, _, rfl, a, C, rfl, T, no, .inl ⟨e, k⟩⟩
theorem bnBadExpression (F : FunD K "__init__" "BadExpression.__init__" (defArgs sBadExpression) (defBody sBadExpression) (defScope sBadExpression) [] [] fI fd) : Binds K fd ["self", "expression"] [] ∧ (∀ (s : Shared) (self : Value) (ws : List Value), K.In s.heap → ws.length + 1 = 2 → BindsTo s fd ⟨[self], [("expression" : Str)].zip ws⟩ ([("self" : Str), "expression"].zip (self :: ws))) := by
  refine ⟨F.bindsN fun _ _ _ _ _ _ us hl => match us, hl with | [_, _], _ => rfl, fun s self ws X hl => ?_⟩
  obtain ⟨oc, od, dV, kV, doc, pm, an, cdv, ct, osl, rfl, lk, hcd, hD, hK⟩ := F.ex
  match ws, hl with
  | [u], _ =>
    rcases hD with ⟨_, rfl⟩ | ⟨e, _⟩
    · exact .of_eq rfl
    · exact absurd rfl e
abbrev sBadValues : Stmt := inClass (top 20) 0
theorem scBadValues : FnScope ["self", "given"] ["self", "given"] (defScope sBadValues) := ⟨rfl, rfl, rfl, by decide +kernel, rfl, by decide +kernel, by decide +kernel⟩
theorem inBadValues (F : FunD K "__init__" "BadValues.__init__" (defArgs sBadValues) (defBody sBadValues) (defScope sBadValues) [] [] fI fd) (T : OexC K C) (no : PySem.W.findIn K (.ref C) "given" = some none) : FnOk P w K mg base CX0 1 fI fd ["self", "given"] (spI C "given") := by
  refine F.ok scBadValues (fun vs H Q E h => ?_) (fun cdv A outer s H vs Q E hr h => ⟨_, PSs.nox (pss_one (ps_ost (pv 0) (pv 1))), ?_⟩)
  · obtain ⟨a, y, rfl, _⟩ := h
    rfl
  · obtain ⟨a, y, rfl, e, k⟩ := h
    exact ⟨_, rfl, _, rfl, a, C, rfl, T, no, .inl ⟨e, k⟩⟩
theorem bnBadValues (F : FunD K "__init__" "BadValues.__init__" (defArgs sBadValues) (defBody sBadValues) (defScope sBadValues) [] [] fI fd) : Binds K fd ["self", "given"] [] ∧ (∀ (s : Shared) (self : Value) (ws : List Value), K.In s.heap → ws.length + 1 = 2 → BindsTo s fd ⟨[self], [("given" : Str)].zip ws⟩ ([("self" : Str), "given"].zip (self :: ws))) := by
  refine ⟨F.bindsN fun _ _ _ _ _ _ us hl => match us, hl with | [_, _], _ => rfl, fun s self ws X hl => ?_⟩
  obtain ⟨oc, od, dV, kV, doc, pm, an, cdv, ct, osl, rfl, lk, hcd, hD, hK⟩ := F.ex
  match ws, hl with
  | [u], _ =>
    rcases hD with ⟨_, rfl⟩ | ⟨e, _⟩
    · exact .of_eq rfl
    · exact absurd rfl e
abbrev sBadProcs : Stmt := inClass (top 21) 0
theorem scBadProcs : FnScope ["self", "index"] ["self", "index"] (defScope sBadProcs) := ⟨rfl, rfl, rfl, by decide +kernel, rfl, by decide +kernel, by decide +kernel⟩
theorem inBadProcs (F : FunD K "__init__" "BadProcs.__init__" (defArgs sBadProcs) (defBody sBadProcs) (defScope sBadProcs) [] [] fI fd) (T : OexC K C) (no : PySem.W.findIn K (.ref C) "index" = some none) : FnOk P w K mg base CX0 1 fI fd ["self", "index"] (spI C "index") := by
  refine F.ok scBadProcs (fun vs H Q E h => ?_) (fun cdv A outer s H vs Q E hr h => ⟨_, PSs.nox (pss_one (ps_ost (pv 0) (pv 1))), ?_⟩)
  · obtain ⟨a, y, rfl, _⟩ := h
    rfl
  · obtain ⟨a, y, rfl, e, k⟩ := h
    exact ⟨_, rfl, _, rfl, a, C, rfl, T, no, .inl ⟨e, k⟩⟩
theorem bnBadProcs (F : FunD K "__init__" "BadProcs.__init__" (defArgs sBadProcs) (defBody sBadProcs) (defScope sBadProcs) [] [] fI fd) : Binds K fd ["self", "index"] [] ∧ (∀ (s : Shared) (self : Value) (ws : List Value), K.In s.heap → ws.length + 1 = 2 → BindsTo s fd ⟨[self], [("index" : Str)].zip ws⟩ ([("self" : Str), "index"].zip (self :: ws))) := by
  refine ⟨F.bindsN fun _ _ _ _ _ _ us hl => match us, hl with | [_, _], _ => rfl, fun s self ws X hl => ?_⟩
  obtain ⟨oc, od, dV, kV, doc, pm, an, cdv, ct, osl, rfl, lk, hcd, hD, hK⟩ := F.ex
  match ws, hl with
  | [u], _ =>
    rcases hD with ⟨_, rfl⟩ | ⟨e, _⟩
    · exact .of_eq rfl
    · exact absurd rfl e
abbrev sBadName : Stmt := inClass (top 22) 0
theorem scBadName : FnScope ["self", "f"] ["self", "f"] (defScope sBadName) := ⟨rfl, rfl, rfl, by decide +kernel, rfl, by decide +kernel, by decide +kernel⟩
theorem inBadName (F : FunD K "__init__" "BadName.__init__" (defArgs sBadName) (defBody sBadName) (defScope sBadName) [] [] fI fd) (T : OexC K C) (no : PySem.W.findIn K (.ref C) "f" = some none) : FnOk P w K mg base CX0 1 fI fd ["self", "f"] (spI C "f") := by
  refine F.ok scBadName (fun vs H Q E h => ?_) (fun cdv A outer s H vs Q E hr h => ⟨_, PSs.nox (pss_one (ps_ost (pv 0) (pv 1))), ?_⟩)
  · obtain ⟨a, y, rfl, _⟩ := h
    rfl
  · obtain ⟨a, y, rfl, e, k⟩ := h
    exact ⟨_, rfl, _, rfl, a, C, rfl, T, no, .inl ⟨e, k⟩⟩
theorem bnBadName (F : FunD K "__init__" "BadName.__init__" (defArgs sBadName) (defBody sBadName) (defScope sBadName) [] [] fI fd) : Binds K fd ["self", "f"] [] ∧ (∀ (s : Shared) (self : Value) (ws : List Value), K.In s.heap → ws.length + 1 = 2 → BindsTo s fd ⟨[self], [("f" : Str)].zip ws⟩ ([("self" : Str), "f"].zip (self :: ws))) := by
  refine ⟨F.bindsN fun _ _ _ _ _ _ us hl => match us, hl with | [_, _], _ => rfl, fun s self ws X hl => ?_⟩
  obtain ⟨oc, od, dV, kV, doc, pm, an, cdv, ct, osl, rfl, lk, hcd, hD, hK⟩ := F.ex
  match ws, hl with
  | [u], _ =>
    rcases hD with ⟨_, rfl⟩ | ⟨e, _⟩
    · exact .of_eq rfl
    · exact absurd rfl e
abbrev sBadProcedure : Stmt := inClass (top 23) 0
theorem scBadProcedure : FnScope ["self", "procedure"] ["self", "procedure"] (defScope sBadProcedure) := ⟨rfl, rfl, rfl, by decide +kernel, rfl, by decide +kernel, by decide +kernel⟩
theorem inBadProcedure (F : FunD K "__init__" "BadProcedure.__init__" (defArgs sBadProcedure) (defBody sBadProcedure) (defScope sBadProcedure) [] [] fI fd) (T : OexC K C) (no : PySem.W.findIn K (.ref C) "procedure" = some none) : FnOk P w K mg base CX0 1 fI fd ["self", "procedure"] (spI C "procedure") := by
  refine F.ok scBadProcedure (fun vs H Q E h => ?_) (fun cdv A outer s H vs Q E hr h => ⟨_, PSs.nox (pss_one (ps_ost (pv 0) (pv 1))), ?_⟩)
  · obtain ⟨a, y, rfl, _⟩ := h
    rfl
  · obtain ⟨a, y, rfl, e, k⟩ := h
    exact ⟨_, rfl, _, rfl, a, C, rfl, T, no, .inl ⟨e, k⟩⟩
theorem bnBadProcedure (F : FunD K "__init__" "BadProcedure.__init__" (defArgs sBadProcedure) (defBody sBadProcedure) (defScope sBadProcedure) [] [] fI fd) : Binds K fd ["self", "procedure"] [] ∧ (∀ (s : Shared) (self : Value) (ws : List Value), K.In s.heap → ws.length + 1 = 2 → BindsTo s fd ⟨[self], [("procedure" : Str)].zip ws⟩ ([("self" : Str), "procedure"].zip (self :: ws))) := by
  refine ⟨F.bindsN fun _ _ _ _ _ _ us hl => match us, hl with | [_, _], _ => rfl, fun s self ws X hl => ?_⟩
  obtain ⟨oc, od, dV, kV, doc, pm, an, cdv, ct, osl, rfl, lk, hcd, hD, hK⟩ := F.ex
  match ws, hl with
  | [u], _ =>
    rcases hD with ⟨_, rfl⟩ | ⟨e, _⟩
    · exact .of_eq rfl
    · exact absurd rfl e
abbrev sBadProgram : Stmt := inClass (top 24) 0
theorem scBadProgram : FnScope ["self", "program"] ["self", "program"] (defScope sBadProgram) := ⟨rfl, rfl, rfl, by decide +kernel, rfl, by decide +kernel, by decide +kernel⟩
theorem inBadProgram (F : FunD K "__init__" "BadProgram.__init__" (defArgs sBadProgram) (defBody sBadProgram) (defScope sBadProgram) [] [] fI fd) (T : OexC K C) (no : PySem.W.findIn K (.ref C) "program" = some none) : FnOk P w K mg base CX0 1 fI fd ["self", "program"] (spI C "program") := by
  refine F.ok scBadProgram (fun vs H Q E h => ?_) (fun cdv A outer s H vs Q E hr h => ⟨_, PSs.nox (pss_one (ps_ost (pv 0) (pv 1))), ?_⟩)
  · obtain ⟨a, y, rfl, _⟩ := h
    rfl
  · obtain ⟨a, y, rfl, e, k⟩ := h
    exact ⟨_, rfl, _, rfl, a, C, rfl, T, no, .inl ⟨e, k⟩⟩
theorem bnBadProgram (F : FunD K "__init__" "BadProgram.__init__" (defArgs sBadProgram) (defBody sBadProgram) (defScope sBadProgram) [] [] fI fd) : Binds K fd ["self", "program"] [] ∧ (∀ (s : Shared) (self : Value) (ws : List Value), K.In s.heap → ws.length + 1 = 2 → BindsTo s fd ⟨[self], [("program" : Str)].zip ws⟩ ([("self" : Str), "program"].zip (self :: ws))) := by
  refine ⟨F.bindsN fun _ _ _ _ _ _ us hl => match us, hl with | [_, _], _ => rfl, fun s self ws X hl => ?_⟩
  obtain ⟨oc, od, dV, kV, doc, pm, an, cdv, ct, osl, rfl, lk, hcd, hD, hK⟩ := F.ex
  match ws, hl with
  | [u], _ =>
    rcases hD with ⟨_, rfl⟩ | ⟨e, _⟩
    · exact .of_eq rfl
    · exact absurd rfl e
abbrev sBadExpressionText : Stmt := inClass (top 25) 0
theorem scBadExpressionText : FnScope ["self", "text"] ["self", "text"] (defScope sBadExpressionText) := ⟨rfl, rfl, rfl, by decide +kernel, rfl, by decide +kernel, by decide +kernel⟩
theorem inBadExpressionText (F : FunD K "__init__" "BadExpressionText.__init__" (defArgs sBadExpressionText) (defBody sBadExpressionText) (defScope sBadExpressionText) [] [] fI fd) (T : OexC K C) (no : PySem.W.findIn K (.ref C) "text" = some none) : FnOk P w K mg base CX0 1 fI fd ["self", "text"] (spI C "text") := by
  refine F.ok scBadExpressionText (fun vs H Q E h => ?_) (fun cdv A outer s H vs Q E hr h => ⟨_, PSs.nox (pss_one (ps_ost (pv 0) (pv 1))), ?_⟩)
  · obtain ⟨a, y, rfl, _⟩ := h
    rfl
  · obtain ⟨a, y, rfl, e, k⟩ := h
    exact ⟨_, rfl, _, rfl, a, C, rfl, T, no, .inl ⟨e, k⟩⟩
theorem bnBadExpressionText (F : FunD K "__init__" "BadExpressionText.__init__" (defArgs sBadExpressionText) (defBody sBadExpressionText) (defScope sBadExpressionText) [] [] fI fd) : Binds K fd ["self", "text"] [] ∧ (∀ (s : Shared) (self : Value) (ws : List Value), K.In s.heap → ws.length + 1 = 2 → BindsTo s fd ⟨[self], [("text" : Str)].zip ws⟩ ([("self" : Str), "text"].zip (self :: ws))) := by
  refine ⟨F.bindsN fun _ _ _ _ _ _ us hl => match us, hl with | [_, _], _ => rfl, fun s self ws X hl => ?_⟩
  obtain ⟨oc, od, dV, kV, doc, pm, an, cdv, ct, osl, rfl, lk, hcd, hD, hK⟩ := F.ex
  match ws, hl with
  | [u], _ =>
    rcases hD with ⟨_, rfl⟩ | ⟨e, _⟩
    · exact .of_eq rfl
    · exact absurd rfl e
abbrev sBadProgramText : Stmt := inClass (top 26) 0
theorem scBadProgramText : FnScope ["self", "line"] ["self", "line"] (defScope sBadProgramText) := ⟨rfl, rfl, rfl, by decide +kernel, rfl, by decide +kernel, by decide +kernel⟩
theorem inBadProgramText (F : FunD K "__init__" "BadProgramText.__init__" (defArgs sBadProgramText) (defBody sBadProgramText) (defScope sBadProgramText) [] [] fI fd) (T : OexC K C) (no : PySem.W.findIn K (.ref C) "line" = some none) : FnOk P w K mg base CX0 1 fI fd ["self", "line"] (spI C "line") := by
  refine F.ok scBadProgramText (fun vs H Q E h => ?_) (fun cdv A outer s H vs Q E hr h => ⟨_, PSs.nox (pss_one (ps_ost (pv 0) (pv 1))), ?_⟩)
  · obtain ⟨a, y, rfl, _⟩ := h
    rfl
  · obtain ⟨a, y, rfl, e, k⟩ := h
    exact ⟨_, rfl, _, rfl, a, C, rfl, T, no, .inl ⟨e, k⟩⟩
theorem bnBadProgramText (F : FunD K "__init__" "BadProgramText.__init__" (defArgs sBadProgramText) (defBody sBadProgramText) (defScope sBadProgramText) [] [] fI fd) : Binds K fd ["self", "line"] [] ∧ (∀ (s : Shared) (self : Value) (ws : List Value), K.In s.heap → ws.length + 1 = 2 → BindsTo s fd ⟨[self], [("line" : Str)].zip ws⟩ ([("self" : Str), "line"].zip (self :: ws))) := by
  refine ⟨F.bindsN fun _ _ _ _ _ _ us hl => match us, hl with | [_, _], _ => rfl, fun s self ws X hl => ?_⟩
  obtain ⟨oc, od, dV, kV, doc, pm, an, cdv, ct, osl, rfl, lk, hcd, hD, hK⟩ := F.ex
  match ws, hl with
  | [u], _ =>
    rcases hD with ⟨_, rfl⟩ | ⟨e, _⟩
    · exact .of_eq rfl
    · exact absurd rfl e
abbrev sBadLine : Stmt := inClass (top 27) 0
theorem scBadLine : FnScope ["self", "line"] ["self", "line"] (defScope sBadLine) := ⟨rfl, rfl, rfl, by decide +kernel, rfl, by decide +kernel, by decide +kernel⟩
theorem inBadLine (F : FunD K "__init__" "BadLine.__init__" (defArgs sBadLine) (defBody sBadLine) (defScope sBadLine) [] [] fI fd) (T : OexC K C) (no : PySem.W.findIn K (.ref C) "line" = some none) : FnOk P w K mg base CX0 1 fI fd ["self", "line"] (spI C "line") := by
  refine F.ok scBadLine (fun vs H Q E h => ?_) (fun cdv A outer s H vs Q E hr h => ⟨_, PSs.nox (pss_one (ps_ost (pv 0) (pv 1))), ?_⟩)
  · obtain ⟨a, y, rfl, _⟩ := h
    rfl
  · obtain ⟨a, y, rfl, e, k⟩ := h
    exact ⟨_, rfl, _, rfl, a, C, rfl, T, no, .inl ⟨e, k⟩⟩
theorem bnBadLine (F : FunD K "__init__" "BadLine.__init__" (defArgs sBadLine) (defBody sBadLine) (defScope sBadLine) [] [] fI fd) : Binds K fd ["self", "line"] [] ∧ (∀ (s : Shared) (self : Value) (ws : List Value), K.In s.heap → ws.length + 1 = 2 → BindsTo s fd ⟨[self], [("line" : Str)].zip ws⟩ ([("self" : Str), "line"].zip (self :: ws))) := by
  refine ⟨F.bindsN fun _ _ _ _ _ _ us hl => match us, hl with | [_, _], _ => rfl, fun s self ws X hl => ?_⟩
  obtain ⟨oc, od, dV, kV, doc, pm, an, cdv, ct, osl, rfl, lk, hcd, hD, hK⟩ := F.ex
  match ws, hl with
  | [u], _ =>
    rcases hD with ⟨_, rfl⟩ | ⟨e, _⟩
    · exact .of_eq rfl
    · exact absurd rfl e
abbrev sBadPoint : Stmt := inClass (top 28) 0
theorem scBadPoint : FnScope ["self", "point"] ["self", "point"] (defScope sBadPoint) := ⟨rfl, rfl, rfl, by decide +kernel, rfl, by decide +kernel, by decide +kernel⟩
theorem inBadPoint (F : FunD K "__init__" "BadPoint.__init__" (defArgs sBadPoint) (defBody sBadPoint) (defScope sBadPoint) [] [] fI fd) (T : OexC K C) (no : PySem.W.findIn K (.ref C) "point" = some none) : FnOk P w K mg base CX0 1 fI fd ["self", "point"] (spI C "point") := by
  refine F.ok scBadPoint (fun vs H Q E h => ?_) (fun cdv A outer s H vs Q E hr h => ⟨_, PSs.nox (pss_one (ps_ost (pv 0) (pv 1))), ?_⟩)
  · obtain ⟨a, y, rfl, _⟩ := h
    rfl
  · obtain ⟨a, y, rfl, e, k⟩ := h
    exact ⟨_, rfl, _, rfl, a, C, rfl, T, no, .inl ⟨e, k⟩⟩
theorem bnBadPoint (F : FunD K "__init__" "BadPoint.__init__" (defArgs sBadPoint) (defBody sBadPoint) (defScope sBadPoint) [] [] fI fd) : Binds K fd ["self", "point"] [] ∧ (∀ (s : Shared) (self : Value) (ws : List Value), K.In s.heap → ws.length + 1 = 2 → BindsTo s fd ⟨[self], [("point" : Str)].zip ws⟩ ([("self" : Str), "point"].zip (self :: ws))) := by
  refine ⟨F.bindsN fun _ _ _ _ _ _ us hl => match us, hl with | [_, _], _ => rfl, fun s self ws X hl => ?_⟩
  obtain ⟨oc, od, dV, kV, doc, pm, an, cdv, ct, osl, rfl, lk, hcd, hD, hK⟩ := F.ex
  match ws, hl with
  | [u], _ =>
    rcases hD with ⟨_, rfl⟩ | ⟨e, _⟩
    · exact .of_eq rfl
    · exact absurd rfl e
abbrev sBadInputs : Stmt := inClass (top 29) 0
theorem scBadInputs : FnScope ["self", "inputs"] ["self", "inputs"] (defScope sBadInputs) := ⟨rfl, rfl, rfl, by decide +kernel, rfl, by decide +kernel, by decide +kernel⟩
theorem inBadInputs (F : FunD K "__init__" "BadInputs.__init__" (defArgs sBadInputs) (defBody sBadInputs) (defScope sBadInputs) [] [] fI fd) (T : OexC K C) (no : PySem.W.findIn K (.ref C) "inputs" = some none) : FnOk P w K mg base CX0 1 fI fd ["self", "inputs"] (spI C "inputs") := by
  refine F.ok scBadInputs (fun vs H Q E h => ?_) (fun cdv A outer s H vs Q E hr h => ⟨_, PSs.nox (pss_one (ps_ost (pv 0) (pv 1))), ?_⟩)
  · obtain ⟨a, y, rfl, _⟩ := h
    rfl
  · obtain ⟨a, y, rfl, e, k⟩ := h
    exact ⟨_, rfl, _, rfl, a, C, rfl, T, no, .inl ⟨e, k⟩⟩
theorem bnBadInputs (F : FunD K "__init__" "BadInputs.__init__" (defArgs sBadInputs) (defBody sBadInputs) (defScope sBadInputs) [] [] fI fd) : Binds K fd ["self", "inputs"] [] ∧ (∀ (s : Shared) (self : Value) (ws : List Value), K.In s.heap → ws.length + 1 = 2 → BindsTo s fd ⟨[self], [("inputs" : Str)].zip ws⟩ ([("self" : Str), "inputs"].zip (self :: ws))) := by
  refine ⟨F.bindsN fun _ _ _ _ _ _ us hl => match us, hl with | [_, _], _ => rfl, fun s self ws X hl => ?_⟩
  obtain ⟨oc, od, dV, kV, doc, pm, an, cdv, ct, osl, rfl, lk, hcd, hD, hK⟩ := F.ex
  match ws, hl with
  | [u], _ =>
    rcases hD with ⟨_, rfl⟩ | ⟨e, _⟩
    · exact .of_eq rfl
    · exact absurd rfl e
abbrev sBadStanding : Stmt := inClass (top 30) 0
theorem scBadStanding : FnScope ["self", "standing"] ["self", "standing"] (defScope sBadStanding) := ⟨rfl, rfl, rfl, by decide +kernel, rfl, by decide +kernel, by decide +kernel⟩
theorem inBadStanding (F : FunD K "__init__" "BadStanding.__init__" (defArgs sBadStanding) (defBody sBadStanding) (defScope sBadStanding) [] [] fI fd) (T : OexC K C) (no : PySem.W.findIn K (.ref C) "standing" = some none) : FnOk P w K mg base CX0 1 fI fd ["self", "standing"] (spI C "standing") := by
  refine F.ok scBadStanding (fun vs H Q E h => ?_) (fun cdv A outer s H vs Q E hr h => ⟨_, PSs.nox (pss_one (ps_ost (pv 0) (pv 1))), ?_⟩)
  · obtain ⟨a, y, rfl, _⟩ := h
    rfl
  · obtain ⟨a, y, rfl, e, k⟩ := h
    exact ⟨_, rfl, _, rfl, a, C, rfl, T, no, .inl ⟨e, k⟩⟩
theorem bnBadStanding (F : FunD K "__init__" "BadStanding.__init__" (defArgs sBadStanding) (defBody sBadStanding) (defScope sBadStanding) [] [] fI fd) : Binds K fd ["self", "standing"] [] ∧ (∀ (s : Shared) (self : Value) (ws : List Value), K.In s.heap → ws.length + 1 = 2 → BindsTo s fd ⟨[self], [("standing" : Str)].zip ws⟩ ([("self" : Str), "standing"].zip (self :: ws))) := by
  refine ⟨F.bindsN fun _ _ _ _ _ _ us hl => match us, hl with | [_, _], _ => rfl, fun s self ws X hl => ?_⟩
  obtain ⟨oc, od, dV, kV, doc, pm, an, cdv, ct, osl, rfl, lk, hcd, hD, hK⟩ := F.ex
  match ws, hl with
  | [u], _ =>
    rcases hD with ⟨_, rfl⟩ | ⟨e, _⟩
    · exact .of_eq rfl
    · exact absurd rfl e
abbrev sBadChoice : Stmt := inClass (top 31) 0
theorem scBadChoice : FnScope ["self", "choice"] ["self", "choice"] (defScope sBadChoice) := ⟨rfl, rfl, rfl, by decide +kernel, rfl, by decide +kernel, by decide +kernel⟩
theorem inBadChoice (F : FunD K "__init__" "BadChoice.__init__" (defArgs sBadChoice) (defBody sBadChoice) (defScope sBadChoice) [] [] fI fd) (T : OexC K C) (no : PySem.W.findIn K (.ref C) "choice" = some none) : FnOk P w K mg base CX0 1 fI fd ["self", "choice"] (spI C "choice") := by
  refine F.ok scBadChoice (fun vs H Q E h => ?_) (fun cdv A outer s H vs Q E hr h => ⟨_, PSs.nox (pss_one (ps_ost (pv 0) (pv 1))), ?_⟩)
  · obtain ⟨a, y, rfl, _⟩ := h
    rfl
  · obtain ⟨a, y, rfl, e, k⟩ := h
    exact ⟨_, rfl, _, rfl, a, C, rfl, T, no, .inl ⟨e, k⟩⟩
theorem bnBadChoice (F : FunD K "__init__" "BadChoice.__init__" (defArgs sBadChoice) (defBody sBadChoice) (defScope sBadChoice) [] [] fI fd) : Binds K fd ["self", "choice"] [] ∧ (∀ (s : Shared) (self : Value) (ws : List Value), K.In s.heap → ws.length + 1 = 2 → BindsTo s fd ⟨[self], [("choice" : Str)].zip ws⟩ ([("self" : Str), "choice"].zip (self :: ws))) := by
  refine ⟨F.bindsN fun _ _ _ _ _ _ us hl => match us, hl with | [_, _], _ => rfl, fun s self ws X hl => ?_⟩
  obtain ⟨oc, od, dV, kV, doc, pm, an, cdv, ct, osl, rfl, lk, hcd, hD, hK⟩ := F.ex
  match ws, hl with
  | [u], _ =>
    rcases hD with ⟨_, rfl⟩ | ⟨e, _⟩
    · exact .of_eq rfl
    · exact absurd rfl e
abbrev sBadChoices : Stmt := inClass (top 32) 0
theorem scBadChoices : FnScope ["self", "index"] ["self", "index"] (defScope sBadChoices) := ⟨rfl, rfl, rfl, by decide +kernel, rfl, by decide +kernel, by decide +kernel⟩
theorem inBadChoices (F : FunD K "__init__" "BadChoices.__init__" (defArgs sBadChoices) (defBody sBadChoices) (defScope sBadChoices) [] [] fI fd) (T : OexC K C) (no : PySem.W.findIn K (.ref C) "index" = some none) : FnOk P w K mg base CX0 1 fI fd ["self", "index"] (spI C "index") := by
  refine F.ok scBadChoices (fun vs H Q E h => ?_) (fun cdv A outer s H vs Q E hr h => ⟨_, PSs.nox (pss_one (ps_ost (pv 0) (pv 1))), ?_⟩)
  · obtain ⟨a, y, rfl, _⟩ := h
    rfl
  · obtain ⟨a, y, rfl, e, k⟩ := h
    exact ⟨_, rfl, _, rfl, a, C, rfl, T, no, .inl ⟨e, k⟩⟩
theorem bnBadChoices (F : FunD K "__init__" "BadChoices.__init__" (defArgs sBadChoices) (defBody sBadChoices) (defScope sBadChoices) [] [] fI fd) : Binds K fd ["self", "index"] [] ∧ (∀ (s : Shared) (self : Value) (ws : List Value), K.In s.heap → ws.length + 1 = 2 → BindsTo s fd ⟨[self], [("index" : Str)].zip ws⟩ ([("self" : Str), "index"].zip (self :: ws))) := by
  refine ⟨F.bindsN fun _ _ _ _ _ _ us hl => match us, hl with | [_, _], _ => rfl, fun s self ws X hl => ?_⟩
  obtain ⟨oc, od, dV, kV, doc, pm, an, cdv, ct, osl, rfl, lk, hcd, hD, hK⟩ := F.ex
  match ws, hl with
  | [u], _ =>
    rcases hD with ⟨_, rfl⟩ | ⟨e, _⟩
    · exact .of_eq rfl
    · exact absurd rfl e
abbrev sBadMost : Stmt := inClass (top 33) 0
theorem scBadMost : FnScope ["self", "most"] ["self", "most"] (defScope sBadMost) := ⟨rfl, rfl, rfl, by decide +kernel, rfl, by decide +kernel, by decide +kernel⟩
theorem inBadMost (F : FunD K "__init__" "BadMost.__init__" (defArgs sBadMost) (defBody sBadMost) (defScope sBadMost) [] [] fI fd) (T : OexC K C) (no : PySem.W.findIn K (.ref C) "most" = some none) : FnOk P w K mg base CX0 1 fI fd ["self", "most"] (spI C "most") := by
  refine F.ok scBadMost (fun vs H Q E h => ?_) (fun cdv A outer s H vs Q E hr h => ⟨_, PSs.nox (pss_one (ps_ost (pv 0) (pv 1))), ?_⟩)
  · obtain ⟨a, y, rfl, _⟩ := h
    rfl
  · obtain ⟨a, y, rfl, e, k⟩ := h
    exact ⟨_, rfl, _, rfl, a, C, rfl, T, no, .inl ⟨e, k⟩⟩
theorem bnBadMost (F : FunD K "__init__" "BadMost.__init__" (defArgs sBadMost) (defBody sBadMost) (defScope sBadMost) [] [] fI fd) : Binds K fd ["self", "most"] [] ∧ (∀ (s : Shared) (self : Value) (ws : List Value), K.In s.heap → ws.length + 1 = 2 → BindsTo s fd ⟨[self], [("most" : Str)].zip ws⟩ ([("self" : Str), "most"].zip (self :: ws))) := by
  refine ⟨F.bindsN fun _ _ _ _ _ _ us hl => match us, hl with | [_, _], _ => rfl, fun s self ws X hl => ?_⟩
  obtain ⟨oc, od, dV, kV, doc, pm, an, cdv, ct, osl, rfl, lk, hcd, hD, hK⟩ := F.ex
  match ws, hl with
  | [u], _ =>
    rcases hD with ⟨_, rfl⟩ | ⟨e, _⟩
    · exact .of_eq rfl
    · exact absurd rfl e
abbrev sBadArgs : Stmt := inClass (top 34) 0
theorem scBadArgs : FnScope ["self", "given"] ["self", "given"] (defScope sBadArgs) := ⟨rfl, rfl, rfl, by decide +kernel, rfl, by decide +kernel, by decide +kernel⟩
theorem inBadArgs (F : FunD K "__init__" "BadArgs.__init__" (defArgs sBadArgs) (defBody sBadArgs) (defScope sBadArgs) [] [] fI fd) (T : OexC K C) (no : PySem.W.findIn K (.ref C) "given" = some none) : FnOk P w K mg base CX0 1 fI fd ["self", "given"] (spI C "given") := by
  refine F.ok scBadArgs (fun vs H Q E h => ?_) (fun cdv A outer s H vs Q E hr h => ⟨_, PSs.nox (pss_one (ps_ost (pv 0) (pv 1))), ?_⟩)
  · obtain ⟨a, y, rfl, _⟩ := h
    rfl
  · obtain ⟨a, y, rfl, e, k⟩ := h
    exact ⟨_, rfl, _, rfl, a, C, rfl, T, no, .inl ⟨e, k⟩⟩
theorem bnBadArgs (F : FunD K "__init__" "BadArgs.__init__" (defArgs sBadArgs) (defBody sBadArgs) (defScope sBadArgs) [] [] fI fd) : Binds K fd ["self", "given"] [] ∧ (∀ (s : Shared) (self : Value) (ws : List Value), K.In s.heap → ws.length + 1 = 2 → BindsTo s fd ⟨[self], [("given" : Str)].zip ws⟩ ([("self" : Str), "given"].zip (self :: ws))) := by
  refine ⟨F.bindsN fun _ _ _ _ _ _ us hl => match us, hl with | [_, _], _ => rfl, fun s self ws X hl => ?_⟩
  obtain ⟨oc, od, dV, kV, doc, pm, an, cdv, ct, osl, rfl, lk, hcd, hD, hK⟩ := F.ex
  match ws, hl with
  | [u], _ =>
    rcases hD with ⟨_, rfl⟩ | ⟨e, _⟩
    · exact .of_eq rfl
    · exact absurd rfl e
abbrev sBadAnswer : Stmt := inClass (top 35) 0
theorem scBadAnswer : FnScope ["self", "answer"] ["self", "answer"] (defScope sBadAnswer) := ⟨rfl, rfl, rfl, by decide +kernel, rfl, by decide +kernel, by decide +kernel⟩
theorem inBadAnswer (F : FunD K "__init__" "BadAnswer.__init__" (defArgs sBadAnswer) (defBody sBadAnswer) (defScope sBadAnswer) [] [] fI fd) (T : OexC K C) (no : PySem.W.findIn K (.ref C) "answer" = some none) : FnOk P w K mg base CX0 1 fI fd ["self", "answer"] (spI C "answer") := by
  refine F.ok scBadAnswer (fun vs H Q E h => ?_) (fun cdv A outer s H vs Q E hr h => ⟨_, PSs.nox (pss_one (ps_ost (pv 0) (pv 1))), ?_⟩)
  · obtain ⟨a, y, rfl, _⟩ := h
    rfl
  · obtain ⟨a, y, rfl, e, k⟩ := h
    exact ⟨_, rfl, _, rfl, a, C, rfl, T, no, .inl ⟨e, k⟩⟩
theorem bnBadAnswer (F : FunD K "__init__" "BadAnswer.__init__" (defArgs sBadAnswer) (defBody sBadAnswer) (defScope sBadAnswer) [] [] fI fd) : Binds K fd ["self", "answer"] [] ∧ (∀ (s : Shared) (self : Value) (ws : List Value), K.In s.heap → ws.length + 1 = 2 → BindsTo s fd ⟨[self], [("answer" : Str)].zip ws⟩ ([("self" : Str), "answer"].zip (self :: ws))) := by
  refine ⟨F.bindsN fun _ _ _ _ _ _ us hl => match us, hl with | [_, _], _ => rfl, fun s self ws X hl => ?_⟩
  obtain ⟨oc, od, dV, kV, doc, pm, an, cdv, ct, osl, rfl, lk, hcd, hD, hK⟩ := F.ex
  match ws, hl with
  | [u], _ =>
    rcases hD with ⟨_, rfl⟩ | ⟨e, _⟩
    · exact .of_eq rfl
    · exact absurd rfl e
abbrev sBadPaperText : Stmt := inClass (top 36) 0
theorem scBadPaperText : FnScope ["self", "line"] ["self", "line"] (defScope sBadPaperText) := ⟨rfl, rfl, rfl, by decide +kernel, rfl, by decide +kernel, by decide +kernel⟩
theorem inBadPaperText (F : FunD K "__init__" "BadPaperText.__init__" (defArgs sBadPaperText) (defBody sBadPaperText) (defScope sBadPaperText) [] [] fI fd) (T : OexC K C) (no : PySem.W.findIn K (.ref C) "line" = some none) : FnOk P w K mg base CX0 1 fI fd ["self", "line"] (spI C "line") := by
  refine F.ok scBadPaperText (fun vs H Q E h => ?_) (fun cdv A outer s H vs Q E hr h => ⟨_, PSs.nox (pss_one (ps_ost (pv 0) (pv 1))), ?_⟩)
  · obtain ⟨a, y, rfl, _⟩ := h
    rfl
  · obtain ⟨a, y, rfl, e, k⟩ := h
    exact ⟨_, rfl, _, rfl, a, C, rfl, T, no, .inl ⟨e, k⟩⟩
theorem bnBadPaperText (F : FunD K "__init__" "BadPaperText.__init__" (defArgs sBadPaperText) (defBody sBadPaperText) (defScope sBadPaperText) [] [] fI fd) : Binds K fd ["self", "line"] [] ∧ (∀ (s : Shared) (self : Value) (ws : List Value), K.In s.heap → ws.length + 1 = 2 → BindsTo s fd ⟨[self], [("line" : Str)].zip ws⟩ ([("self" : Str), "line"].zip (self :: ws))) := by
  refine ⟨F.bindsN fun _ _ _ _ _ _ us hl => match us, hl with | [_, _], _ => rfl, fun s self ws X hl => ?_⟩
  obtain ⟨oc, od, dV, kV, doc, pm, an, cdv, ct, osl, rfl, lk, hcd, hD, hK⟩ := F.ex
  match ws, hl with
  | [u], _ =>
    rcases hD with ⟨_, rfl⟩ | ⟨e, _⟩
    · exact .of_eq rfl
    · exact absurd rfl e
abbrev sBadTold : Stmt := inClass (top 37) 0
theorem scBadTold : FnScope ["self", "told"] ["self", "told"] (defScope sBadTold) := ⟨rfl, rfl, rfl, by decide +kernel, rfl, by decide +kernel, by decide +kernel⟩
theorem inBadTold (F : FunD K "__init__" "BadTold.__init__" (defArgs sBadTold) (defBody sBadTold) (defScope sBadTold) [] [] fI fd) (T : OexC K C) (no : PySem.W.findIn K (.ref C) "told" = some none) : FnOk P w K mg base CX0 1 fI fd ["self", "told"] (spI C "told") := by
  refine F.ok scBadTold (fun vs H Q E h => ?_) (fun cdv A outer s H vs Q E hr h => ⟨_, PSs.nox (pss_one (ps_ost (pv 0) (pv 1))), ?_⟩)
  · obtain ⟨a, y, rfl, _⟩ := h
    rfl
  · obtain ⟨a, y, rfl, e, k⟩ := h
    exact ⟨_, rfl, _, rfl, a, C, rfl, T, no, .inl ⟨e, k⟩⟩
theorem bnBadTold (F : FunD K "__init__" "BadTold.__init__" (defArgs sBadTold) (defBody sBadTold) (defScope sBadTold) [] [] fI fd) : Binds K fd ["self", "told"] [] ∧ (∀ (s : Shared) (self : Value) (ws : List Value), K.In s.heap → ws.length + 1 = 2 → BindsTo s fd ⟨[self], [("told" : Str)].zip ws⟩ ([("self" : Str), "told"].zip (self :: ws))) := by
  refine ⟨F.bindsN fun _ _ _ _ _ _ us hl => match us, hl with | [_, _], _ => rfl, fun s self ws X hl => ?_⟩
  obtain ⟨oc, od, dV, kV, doc, pm, an, cdv, ct, osl, rfl, lk, hcd, hD, hK⟩ := F.ex
  match ws, hl with
  | [u], _ =>
    rcases hD with ⟨_, rfl⟩ | ⟨e, _⟩
    · exact .of_eq rfl
    · exact absurd rfl e
abbrev sBadOrder : Stmt := inClass (top 38) 0
theorem scBadOrder : FnScope ["self", "index"] ["self", "index"] (defScope sBadOrder) := ⟨rfl, rfl, rfl, by decide +kernel, rfl, by decide +kernel, by decide +kernel⟩
theorem inBadOrder (F : FunD K "__init__" "BadOrder.__init__" (defArgs sBadOrder) (defBody sBadOrder) (defScope sBadOrder) [] [] fI fd) (T : OexC K C) (no : PySem.W.findIn K (.ref C) "index" = some none) : FnOk P w K mg base CX0 1 fI fd ["self", "index"] (spI C "index") := by
  refine F.ok scBadOrder (fun vs H Q E h => ?_) (fun cdv A outer s H vs Q E hr h => ⟨_, PSs.nox (pss_one (ps_ost (pv 0) (pv 1))), ?_⟩)
  · obtain ⟨a, y, rfl, _⟩ := h
    rfl
  · obtain ⟨a, y, rfl, e, k⟩ := h
    exact ⟨_, rfl, _, rfl, a, C, rfl, T, no, .inl ⟨e, k⟩⟩
theorem bnBadOrder (F : FunD K "__init__" "BadOrder.__init__" (defArgs sBadOrder) (defBody sBadOrder) (defScope sBadOrder) [] [] fI fd) : Binds K fd ["self", "index"] [] ∧ (∀ (s : Shared) (self : Value) (ws : List Value), K.In s.heap → ws.length + 1 = 2 → BindsTo s fd ⟨[self], [("index" : Str)].zip ws⟩ ([("self" : Str), "index"].zip (self :: ws))) := by
  refine ⟨F.bindsN fun _ _ _ _ _ _ us hl => match us, hl with | [_, _], _ => rfl, fun s self ws X hl => ?_⟩
  obtain ⟨oc, od, dV, kV, doc, pm, an, cdv, ct, osl, rfl, lk, hcd, hD, hK⟩ := F.ex
  match ws, hl with
  | [u], _ =>
    rcases hD with ⟨_, rfl⟩ | ⟨e, _⟩
    · exact .of_eq rfl
    · exact absurd rfl e
abbrev sBadPlace : Stmt := inClass (top 39) 0
theorem scBadPlace : FnScope ["self", "place"] ["self", "place"] (defScope sBadPlace) := ⟨rfl, rfl, rfl, by decide +kernel, rfl, by decide +kernel, by decide +kernel⟩
theorem inBadPlace (F : FunD K "__init__" "BadPlace.__init__" (defArgs sBadPlace) (defBody sBadPlace) (defScope sBadPlace) [] [] fI fd) (T : OexC K C) (no : PySem.W.findIn K (.ref C) "place" = some none) : FnOk P w K mg base CX0 1 fI fd ["self", "place"] (spI C "place") := by
  refine F.ok scBadPlace (fun vs H Q E h => ?_) (fun cdv A outer s H vs Q E hr h => ⟨_, PSs.nox (pss_one (ps_ost (pv 0) (pv 1))), ?_⟩)
  · obtain ⟨a, y, rfl, _⟩ := h
    rfl
  · obtain ⟨a, y, rfl, e, k⟩ := h
    exact ⟨_, rfl, _, rfl, a, C, rfl, T, no, .inl ⟨e, k⟩⟩
theorem bnBadPlace (F : FunD K "__init__" "BadPlace.__init__" (defArgs sBadPlace) (defBody sBadPlace) (defScope sBadPlace) [] [] fI fd) : Binds K fd ["self", "place"] [] ∧ (∀ (s : Shared) (self : Value) (ws : List Value), K.In s.heap → ws.length + 1 = 2 → BindsTo s fd ⟨[self], [("place" : Str)].zip ws⟩ ([("self" : Str), "place"].zip (self :: ws))) := by
  refine ⟨F.bindsN fun _ _ _ _ _ _ us hl => match us, hl with | [_, _], _ => rfl, fun s self ws X hl => ?_⟩
  obtain ⟨oc, od, dV, kV, doc, pm, an, cdv, ct, osl, rfl, lk, hcd, hD, hK⟩ := F.ex
  match ws, hl with
  | [u], _ =>
    rcases hD with ⟨_, rfl⟩ | ⟨e, _⟩
    · exact .of_eq rfl
    · exact absurd rfl e
abbrev sBadLineNumber : Stmt := inClass (top 41) 0
theorem scBadLineNumber : FnScope ["self", "line"] ["self", "line"] (defScope sBadLineNumber) := ⟨rfl, rfl, rfl, by decide +kernel, rfl, by decide +kernel, by decide +kernel⟩
theorem inBadLineNumber (F : FunD K "__init__" "BadLineNumber.__init__" (defArgs sBadLineNumber) (defBody sBadLineNumber) (defScope sBadLineNumber) [] [] fI fd) (T : OexC K C) (no : PySem.W.findIn K (.ref C) "line" = some none) : FnOk P w K mg base CX0 1 fI fd ["self", "line"] (spI C "line") := by
  refine F.ok scBadLineNumber (fun vs H Q E h => ?_) (fun cdv A outer s H vs Q E hr h => ⟨_, PSs.nox (pss_one (ps_ost (pv 0) (pv 1))), ?_⟩)
  · obtain ⟨a, y, rfl, _⟩ := h
    rfl
  · obtain ⟨a, y, rfl, e, k⟩ := h
    exact ⟨_, rfl, _, rfl, a, C, rfl, T, no, .inl ⟨e, k⟩⟩
theorem bnBadLineNumber (F : FunD K "__init__" "BadLineNumber.__init__" (defArgs sBadLineNumber) (defBody sBadLineNumber) (defScope sBadLineNumber) [] [] fI fd) : Binds K fd ["self", "line"] [] ∧ (∀ (s : Shared) (self : Value) (ws : List Value), K.In s.heap → ws.length + 1 = 2 → BindsTo s fd ⟨[self], [("line" : Str)].zip ws⟩ ([("self" : Str), "line"].zip (self :: ws))) := by
  refine ⟨F.bindsN fun _ _ _ _ _ _ us hl => match us, hl with | [_, _], _ => rfl, fun s self ws X hl => ?_⟩
  obtain ⟨oc, od, dV, kV, doc, pm, an, cdv, ct, osl, rfl, lk, hcd, hD, hK⟩ := F.ex
  match ws, hl with
  | [u], _ =>
    rcases hD with ⟨_, rfl⟩ | ⟨e, _⟩
    · exact .of_eq rfl
    · exact absurd rfl e
abbrev sBadRuns : Stmt := inClass (top 42) 0
theorem scBadRuns : FnScope ["self", "index"] ["self", "index"] (defScope sBadRuns) := ⟨rfl, rfl, rfl, by decide +kernel, rfl, by decide +kernel, by decide +kernel⟩
theorem inBadRuns (F : FunD K "__init__" "BadRuns.__init__" (defArgs sBadRuns) (defBody sBadRuns) (defScope sBadRuns) [] [] fI fd) (T : OexC K C) (no : PySem.W.findIn K (.ref C) "index" = some none) : FnOk P w K mg base CX0 1 fI fd ["self", "index"] (spI C "index") := by
  refine F.ok scBadRuns (fun vs H Q E h => ?_) (fun cdv A outer s H vs Q E hr h => ⟨_, PSs.nox (pss_one (ps_ost (pv 0) (pv 1))), ?_⟩)
  · obtain ⟨a, y, rfl, _⟩ := h
    rfl
  · obtain ⟨a, y, rfl, e, k⟩ := h
    exact ⟨_, rfl, _, rfl, a, C, rfl, T, no, .inl ⟨e, k⟩⟩
theorem bnBadRuns (F : FunD K "__init__" "BadRuns.__init__" (defArgs sBadRuns) (defBody sBadRuns) (defScope sBadRuns) [] [] fI fd) : Binds K fd ["self", "index"] [] ∧ (∀ (s : Shared) (self : Value) (ws : List Value), K.In s.heap → ws.length + 1 = 2 → BindsTo s fd ⟨[self], [("index" : Str)].zip ws⟩ ([("self" : Str), "index"].zip (self :: ws))) := by
  refine ⟨F.bindsN fun _ _ _ _ _ _ us hl => match us, hl with | [_, _], _ => rfl, fun s self ws X hl => ?_⟩
  obtain ⟨oc, od, dV, kV, doc, pm, an, cdv, ct, osl, rfl, lk, hcd, hD, hK⟩ := F.ex
  match ws, hl with
  | [u], _ =>
    rcases hD with ⟨_, rfl⟩ | ⟨e, _⟩
    · exact .of_eq rfl
    · exact absurd rfl e
abbrev sEnded : Stmt := inClass (top 43) 0
theorem scEnded : FnScope ["self", "outcome"] ["self", "outcome"] (defScope sEnded) := ⟨rfl, rfl, rfl, by decide +kernel, rfl, by decide +kernel, by decide +kernel⟩
theorem inEnded (F : FunD K "__init__" "Ended.__init__" (defArgs sEnded) (defBody sEnded) (defScope sEnded) [] [] fI fd) (T : OexC K C) (no : PySem.W.findIn K (.ref C) "outcome" = some none) : FnOk P w K mg base CX0 1 fI fd ["self", "outcome"] (spI C "outcome") := by
  refine F.ok scEnded (fun vs H Q E h => ?_) (fun cdv A outer s H vs Q E hr h => ⟨_, PSs.nox (pss_one (ps_ost (pv 0) (pv 1))), ?_⟩)
  · obtain ⟨a, y, rfl, _⟩ := h
    rfl
  · obtain ⟨a, y, rfl, e, k⟩ := h
    exact ⟨_, rfl, _, rfl, a, C, rfl, T, no, .inl ⟨e, k⟩⟩
theorem bnEnded (F : FunD K "__init__" "Ended.__init__" (defArgs sEnded) (defBody sEnded) (defScope sEnded) [] [] fI fd) : Binds K fd ["self", "outcome"] [] ∧ (∀ (s : Shared) (self : Value) (ws : List Value), K.In s.heap → ws.length + 1 = 2 → BindsTo s fd ⟨[self], [("outcome" : Str)].zip ws⟩ ([("self" : Str), "outcome"].zip (self :: ws))) := by
  refine ⟨F.bindsN fun _ _ _ _ _ _ us hl => match us, hl with | [_, _], _ => rfl, fun s self ws X hl => ?_⟩
  obtain ⟨oc, od, dV, kV, doc, pm, an, cdv, ct, osl, rfl, lk, hcd, hD, hK⟩ := F.ex
  match ws, hl with
  | [u], _ =>
    rcases hD with ⟨_, rfl⟩ | ⟨e, _⟩
    · exact .of_eq rfl
    · exact absurd rfl e
abbrev sBadSpot : Stmt := inClass (top 40) 0
theorem scBadSpot : FnScope ["self", "part", "place"] ["self", "part", "place"] (defScope sBadSpot) := ⟨rfl, rfl, rfl, by decide +kernel, rfl, by decide +kernel, by decide +kernel⟩
theorem inBadSpot (F : FunD K "__init__" "BadSpot.__init__" (defArgs sBadSpot) (defBody sBadSpot) (defScope sBadSpot) [] [] fI fd) (T : OexC K C) (no : PySem.W.findIn K (.ref C) "part" = some none) (no2 : PySem.W.findIn K (.ref C) "place" = some none) : FnOk P w K mg base CX0 1 fI fd ["self", "part", "place"] (spI2 C "part" "place") := by
  refine F.ok scBadSpot (fun vs H Q E h => ?_) (fun cdv A outer s H vs Q E hr h => ⟨_, PSs.nox (pss_cons (ps_ost (pv 0) (pv 1)) (pss_one (ps_ost (pv 0) (pv 2)))), ?_⟩)
  · obtain ⟨a, y, z, rfl, _⟩ := h
    rfl
  · obtain ⟨a, y, z, rfl, e, k⟩ := h
    refine ⟨_, rfl, _, rfl, a, C, rfl, T, no, .inl ⟨e, fun dx nd ne => ?_⟩⟩
    exact ⟨_, rfl, _, rfl, a, C, rfl, T, no2, .inr ⟨dx, _, upd_same, (upd_ne ne).trans upd_same, (by show 1 ≤ 900; decide), k dx nd ne⟩⟩
end
end ER
set_option Elab.async false
set_option linter.all false
set_option maxRecDepth 100000
set_option maxHeartbeats 4000000
namespace ER
open PySem PySem.Spec PyProof.Rows L2
/-- the drawing state at s, its cells' list at l, n numbers drawn so far -/
def St (H : Hp) (s l : Addr) (n : Nat) : Prop := s ≠ l ∧ ∃ (cs : List Int) (c m : Int), H s = some (.lst [.ref l, .int c, .int n, .int m]) ∧ H l = some (.lst (cs.map V.int)) ∧ 0 ≤ c ∧ 0 ≤ m ∧ m < 2147483647
/-- all but the state stands as before -/
def Kp (s l : Addr) (H H' : Hp) : Prop := ∀ b o, H b = some o → b ≠ s → b ≠ l → H' b = some o
theorem Kp.refl {s l : Addr} {H : Hp} : Kp s l H H := fun _ _ e _ _ => e
theorem Kp.trans {s l : Addr} {H1 H2 H3 : Hp} (a : Kp s l H1 H2) (b : Kp s l H2 H3) : Kp s l H1 H3 := fun p o e x y => b p o (a p o e x y) x y
theorem Kp.ups {s l : Addr} {H : Hp} {o : HO} : Kp s l H (upd H s o) := fun b u e x _ => by rw [upd_ne x]; exact e
theorem Kp.upl {s l : Addr} {H : Hp} {o : HO} : Kp s l H (upd H l o) := fun b u e _ y => by rw [upd_ne y]; exact e
theorem Kp.new {s l p : Addr} {H : Hp} {o : HO} (n : H p = none) : Kp s l H (upd H p o) := fun b u e _ _ => by rw [upd_ne (ne_of_none e n)]; exact e
theorem shapedI (cs : List Int) : SeqAt.shaped (.list (cs.map PyData.int)) = true := by
  have h1 : ∀ cs : List Int, PyData.canLayAll0 (cs.map PyData.int) = true := by
    intro cs
    induction cs with
    | nil => rfl
    | cons c r ih => simp [PyData.canLayAll0, PyData.canLay0, ih]
  have h2 : ∀ cs : List Int, PyData.depthAll (cs.map PyData.int) = 0 := by
    intro cs
    induction cs with
    | nil => rfl
    | cons c r ih => simp [PyData.depthAll, PyData.depth, ih]
  simp [SeqAt.shaped, PyData.canLay0, PyData.depth, h1, h2]
theorem dpI {K : PySem.W.Frag} {H : Hp} : ∀ cs : List Int, DpAll K H (cs.map V.int) (cs.map PyData.int)
  | [] => .nil
  | c :: r => .cons (.int c) (dpI r)
theorem fmod_lt {a b : Int} (h : 0 < b) : 0 ≤ a.fmod b ∧ a.fmod b < b := ⟨Int.fmod_nonneg_of_pos a h, Int.fmod_lt_of_pos a h⟩
theorem if_pos_of {c : Bool} {A B : Prop} (hc : c = true) (h : A) : if c = true then A else B := by
  rw [if_pos hc]
  exact h
theorem if_neg_of {c : Bool} {A B : Prop} (hc : c = false) (h : B) : if c = true then A else B := by
  rw [hc, if_neg Bool.false_ne_true]
  exact h
def spPick : Sp := fun vs H Q _ => ∃ (s l : Addr) (n : Nat) (many : Int), vs = [.ref s, .int many] ∧ St H s l n ∧ n < 1000000 ∧ 1 ≤ many ∧ many ≤ 1000000 ∧ ∀ H' (r : Int), 0 ≤ r → r < many → St H' s l (n + 1) → Kp s l H H' → Q (.int r) H'
theorem scPick : FnScope ["state", "many", "cell", "digit", "mixed"] ["state", "many"] (defScope sPick) := ⟨rfl, rfl, rfl, by decide +kernel, rfl, by decide +kernel, by decide +kernel⟩
section
variable {P : Program} {w : World} {K : PySem.W.Frag} {mg : Str → Option Value} {base : Heap} {f : Addr} {fd : FuncData}
theorem ok_pick (F : FnP K "_law_pick" sPick f fd) (gA : mg "abs" = none) (gI : mg "int" = none) : FnOk P w K mg base CX0 1 f fd ["state", "many"] spPick := by
  refine F.ok scPick (fun vs H Q E h => ?_) (fun cdv A outer s H vs Q E hr h => ⟨_, PSs.nox (pss_cons
      (ps_asg (pe_op op_add (pe_ix ix_list (pv 0) pe_int (fun _ _ => rfl)) pe_int) (pg_sub (pv 0) pe_int set_list))
      (pss_cons (ps_while PassesOwn.never (PW.pt (pw_and (pt_cmpR op_eq (pe_ix ix_list (pv 0) pe_int (fun _ _ => rfl)) pe_int (nomark _)) (pw_and1 (pt_cmpR (op_neD hr.units) (pe_ix ix_list (pv 0) pe_int (fun _ _ => rfl)) (pe_lst pa_nil) (nomark _)))))
        (pss_cons (ps_set (i := 2) scPick.nd rfl (.inl rfl) (pe_callB call_abs (by rfl) gA (by decide +kernel) (pa_cons (pe_bm PySem.F.plainAttrs_list PySem.F.slot_list_pop PySem.F.type_list_pop mt_popAt (pe_ix ix_list (pv 0) pe_int (fun _ _ => rfl)) (pa_cons pe_int pa_nil)) pa_nil)))
        (pss_cons (ps_asg (pe_op op_modN (pe_callTy call_int1 (by rfl) gI (by decide +kernel) (pa_cons (pe_op op_add (pe_op op_add (pe_op op_mul (pe_ix ix_list (pv 0) pe_int (fun _ _ => rfl)) pe_int) (pv 2)) pe_int) pa_nil)) pe_int) (pg_sub (pv 0) pe_int set_list))
        (pss_one (ps_asg (pe_ifExp (pt_cmpR op_ge (pv 2) (pe_op op_pow pe_int pe_int) (nomark _)) (pv 2) pe_int) (pg_sub (pv 0) pe_int set_list))))))
      (pss_cons (ps_if (pt_cmpR op_gt (pe_ix ix_list (pv 0) pe_int (fun _ _ => rfl)) pe_int (nomark _))
        (pss_cons (ps_set (i := 3) scPick.nd rfl (.inl rfl) (pe_op op_modN (pe_callTy call_int1 (by rfl) gI (by decide +kernel) (pa_cons (pe_ix ix_list (pv 0) pe_int (fun _ _ => rfl)) pa_nil)) (pv 1)))
        (pss_cons (ps_asg (pe_op op_fdivN (pe_ix ix_list (pv 0) pe_int (fun _ _ => rfl)) (pv 1)) (pg_sub (pv 0) pe_int set_list))
        (pss_one (ps_ret (pv 3))))) pss_nil)
      (pss_cons (ps_set (i := 4) scPick.nd rfl (.inl rfl) (pe_op op_modN (pe_callTy call_int1 (by rfl) gI (by decide +kernel) (pa_cons (pe_op op_pow (pe_op op_add (pe_op op_add (pe_ix ix_list (pv 0) pe_int (fun _ _ => rfl)) (pe_op op_mul pe_int (pe_ix ix_list (pv 0) pe_int (fun _ _ => rfl)))) pe_int) pe_int) pa_nil)) pe_int))
      (pss_one (ps_ret (pe_op op_modN (pe_op op_modN (pe_callTy call_int1 (by rfl) gI (by decide +kernel) (pa_cons (pe_op op_pow (pe_op op_add (pe_op op_add (pe_op op_mul (pv 4) pe_int) (pe_op op_mul pe_int (pe_ix ix_list (pv 0) pe_int (fun _ _ => rfl)))) pe_int) pe_int) pa_nil)) pe_int) (pv 1)))))))), ?_⟩)
  · obtain ⟨s, l, n, many, rfl, _⟩ := h
    rfl
  · obtain ⟨s, l, n, many, rfl, ⟨hne, cs, c, m, hs, hl, hc0, hm0, hm1⟩, hn, h1, h2, k⟩ := h
    have eN : (((n + 1 : Nat) : Int)) = (n : Int) + 1 := rfl
    refine ⟨_, rfl, s, _, 2, _, rfl, rfl, SqL.of hs, rfl, _, _, rfl, rfl, ?_⟩
    refine ⟨_, rfl, s, _, 2, 2, rfl, rfl, hs, rfl, ?_⟩
    refine while_by (fun σ H' => ∃ v, σ = [some (.ref s), some (.int many), v, none, none] ∧ ∃ (cs : List Int) (c m : Int), H' s = some (.lst [.ref l, .int c, .int ((n : Int) + 1), .int m]) ∧ H' l = some (.lst (cs.map V.int)) ∧ 0 ≤ c ∧ 0 ≤ m ∧ m < 2147483647 ∧ Kp s l H H')
      (fun σ H' => match H' l with | some (.lst xs) => xs.length | _ => 0) ⟨none, rfl, cs, c, m, upd_same, by rw [upd_ne (Ne.symm hne)]; exact hl, hc0, hm0, hm1, Kp.ups⟩ ?_ ?_
    · rintro σ H1 ⟨v, rfl, cs, c, m, hs1, hl1, hc0, hm0, hm1, kp⟩
      have done : ∀ H2, H2 s = some (.lst [.ref l, .int c, .int ((n : Int) + 1), .int m]) → H2 l = some (.lst (cs.map V.int)) → Kp s l H H2 → (c = 0 → cs = []) →
        tSeq (tIfS (tTest (tOp (rI0 fun i j => .bl (decide (j < i))) (tOp (rIxL K) (tVar 0) (tC (.int 1))) (tC (.int 0))))
          (tSeq (tAsg (tOp (rI (fun _ j => j ≠ 0) fun i j => .int (i.fmod j)) (tCB (fun xs H Q => (∃ i, xs = [.int i] ∧ Q (.int i) H) ∨ ∃ k, xs = [.bl k] ∧ Q (.int (if k = true then 1 else 0)) H) (tCons (tOp (rIxL K) (tVar 0) (tC (.int 1))) tNil)) (tVar 1)) (gName 3))
          (tSeq (tAsg (tOp (rI CDivN fun i j => .int (i.fdiv j)) (tOp (rIxL K) (tVar 0) (tC (.int 1))) (tVar 1)) (gSub (tVar 0) (tC (.int 1)) rSetL)) (tRet (tVar 3)))) tNext)
          (tSeq (tAsg (tOp (rI (fun _ j => j ≠ 0) fun i j => .int (i.fmod j)) (tCB (fun xs H Q => (∃ i, xs = [.int i] ∧ Q (.int i) H) ∨ ∃ k, xs = [.bl k] ∧ Q (.int (if k = true then 1 else 0)) H) (tCons (tOp (rI CPow fun i j => .int (i ^ j.toNat)) (tOp (rI0 fun i j => .int (i + j)) (tOp (rI0 fun i j => .int (i + j)) (tOp (rIxL K) (tVar 0) (tC (.int 3))) (tOp (rI CMul fun i j => .int (i * j)) (tC (.int 7907)) (tOp (rIxL K) (tVar 0) (tC (.int 2))))) (tC (.int 104723))) (tC (.int 5))) tNil)) (tC (.int 2147483629))) (gName 4))
          (tRet (tOp (rI (fun _ j => j ≠ 0) fun i j => .int (i.fmod j)) (tOp (rI (fun _ j => j ≠ 0) fun i j => .int (i.fmod j)) (tCB (fun xs H Q => (∃ i, xs = [.int i] ∧ Q (.int i) H) ∨ ∃ k, xs = [.bl k] ∧ Q (.int (if k = true then 1 else 0)) H) (tCons (tOp (rI CPow fun i j => .int (i ^ j.toNat)) (tOp (rI0 fun i j => .int (i + j)) (tOp (rI0 fun i j => .int (i + j)) (tOp (rI CMul fun i j => .int (i * j)) (tVar 4) (tC (.int 48271))) (tOp (rI CMul fun i j => .int (i * j)) (tC (.int 30011)) (tOp (rIxL K) (tVar 0) (tC (.int 2))))) (tC (.int 31))) (tC (.int 3))) tNil)) (tC (.int 1000000007))) (tVar 1))))
          { nx := fun _ H' => Q .non H', rt := Q } [some (.ref s), some (.int many), v, none, none] H2 := by
        intro H2 hs2 hl2 kp2 hz
        refine ⟨_, rfl, s, _, 1, _, rfl, rfl, SqL.of hs2, rfl, _, _, rfl, rfl, _, rfl, ?_⟩
        by_cases c0 : 0 < c
        · refine if_pos_of (decide_eq_true c0) ?_
          refine ⟨_, rfl, s, _, 1, _, rfl, rfl, SqL.of hs2, rfl, .inl ⟨_, rfl, _, rfl, _, _, rfl, rfl, (by omega), ?_⟩⟩
          refine ⟨_, rfl, s, _, 1, _, rfl, rfl, SqL.of hs2, rfl, _, rfl, _, _, rfl, rfl, ⟨(by omega), (by omega)⟩, ?_⟩
          refine ⟨_, rfl, s, _, 1, 1, rfl, rfl, hs2, rfl, ?_⟩
          refine ⟨_, rfl, ?_⟩
          exact k _ _ (fmod_lt (by omega)).1 (fmod_lt (by omega)).2 ⟨hne, cs, c.fdiv many, m, upd_same, by rw [upd_ne (Ne.symm hne)]; exact hl2, Int.fdiv_nonneg hc0 (by omega), hm0, hm1⟩ (kp2.trans Kp.ups)
        · refine if_neg_of (decide_eq_false c0) ?_
          refine ⟨_, rfl, s, _, 3, _, rfl, rfl, SqL.of hs2, rfl, _, rfl, s, _, 2, _, rfl, rfl, SqL.of hs2, rfl, _, _, rfl, rfl, .inl ⟨by decide, by decide⟩, _, _, rfl, rfl, _, _, rfl, rfl, _, _, rfl, rfl, ⟨by decide, by decide, ?_⟩, .inl ⟨_, rfl, _, _, rfl, rfl, (by show (2147483629 : Int) ≠ 0; decide), ?_⟩⟩
          · omega
          obtain ⟨x, e, x0, x1⟩ : ∃ x : Int, ((m + 7907 * ((n : Int) + 1) + 104723) ^ (5 : Int).toNat).fmod 2147483629 = x ∧ 0 ≤ x ∧ x < 2147483629 := ⟨_, rfl, fmod_lt (by decide)⟩
          dsimp only
          rw [e]
          refine ⟨_, rfl, _, _, rfl, rfl, .inr ⟨by decide, by decide⟩, _, rfl, s, _, 2, _, rfl, rfl, SqL.of hs2, rfl, _, _, rfl, rfl, .inl ⟨by decide, by decide⟩, _, _, rfl, rfl, _, _, rfl, rfl, _, _, rfl, rfl, ⟨by decide, by decide, ?_⟩, .inl ⟨_, rfl, _, _, rfl, rfl, (by show (1000000007 : Int) ≠ 0; decide), _, rfl, _, _, rfl, rfl, (by show many ≠ 0; omega), ?_⟩⟩
          · omega
          exact k _ _ (fmod_lt (by omega)).1 (fmod_lt (by omega)).2 ⟨hne, cs, c, m, hs2, hl2, hc0, hm0, hm1⟩ kp2
      refine ⟨_, rfl, s, _, 1, _, rfl, rfl, SqL.of hs1, rfl, rfl, _, rfl, ?_⟩
      by_cases c0 : c = 0
      · refine if_pos_of (decide_eq_true (by rw [c0])) ?_
        refine ⟨_, rfl, s, _, 0, _, rfl, rfl, SqL.of hs1, rfl, (by show 0 ≤ sizeLine; exact Nat.zero_le _), fun z nz => ?_⟩
        have zs : z ≠ s := fun e => by rw [e, hs1] at nz; cases nz
        have zl : z ≠ l := fun e => by rw [e, hl1] at nz; cases nz
        have kz : Kp s l H (upd H1 z (.lst [])) := kp.trans (Kp.new nz)
        have hs2 : upd H1 z (.lst []) s = _ := (upd_ne (Ne.symm zs)).trans hs1
        have hl2 : upd H1 z (.lst []) l = _ := (upd_ne (Ne.symm zl)).trans hl1
        refine ⟨_, _, .lst (SqL.of hl2) (dpI cs), .lst (SqL.of upd_same) .nil, shapedI cs, rfl, _, rfl, ?_⟩
        cases cs with
        | nil => exact done _ hs2 hl2 kz fun _ => rfl
        | cons a r =>
          refine if_pos_of rfl ?_
          refine ⟨_, rfl, s, _, 0, _, rfl, rfl, SqL.of hs2, rfl, .inl ⟨rfl, _, SqL.of hl2⟩, l, _, 0, 0, _, rfl, rfl, hl2, by decide, by decide, ?_, rfl, _, rfl, ?_⟩
          · simp [seqIndex?]
          have ha : ∃ b : Int, (if a < 0 then -a else a) = b ∧ 0 ≤ b := ⟨_, rfl, by split <;> omega⟩
          obtain ⟨b, eb, b0⟩ := ha
          rw [eb]
          have hl3 : upd (upd H1 z (.lst [])) l (.lst (((a :: r).map V.int).eraseIdx 0)) l = some (.lst (r.map V.int)) := upd_same
          have hs3 : upd (upd H1 z (.lst [])) l (.lst (((a :: r).map V.int).eraseIdx 0)) s = _ := (upd_ne hne).trans hs2
          have k3 : Kp s l H (upd (upd H1 z (.lst [])) l (.lst (((a :: r).map V.int).eraseIdx 0))) := kz.trans Kp.upl
          have hm3 : (match (upd (upd H1 z (.lst [])) l (.lst (((a :: r).map V.int).eraseIdx 0))) l with | some (.lst xs) => xs.length | _ => 0) < (match H1 l with | some (.lst xs) => xs.length | _ => 0) := by
            rw [hl3, hl1]
            simp
          generalize upd (upd H1 z (.lst [])) l (.lst (((a :: r).map V.int).eraseIdx 0)) = H3 at hl3 hs3 k3 hm3 ⊢
          refine ⟨_, rfl, s, _, 3, _, rfl, rfl, SqL.of hs3, rfl, _, _, rfl, rfl, .inr ⟨by decide, by decide⟩, _, rfl, _, _, rfl, rfl, _, _, rfl, rfl, .inl ⟨_, rfl, _, _, rfl, rfl, (by show (2147483647 : Int) ≠ 0; decide), ?_⟩⟩
          refine ⟨_, rfl, s, _, 3, 3, rfl, rfl, hs3, rfl, ?_⟩
          obtain ⟨y, ey, y0, y1⟩ : ∃ y : Int, (m * 6151 + b + 5).fmod 2147483647 = y ∧ 0 ≤ y ∧ y < 2147483647 := ⟨_, rfl, fmod_lt (by decide)⟩
          dsimp only
          rw [ey]
          refine ⟨_, rfl, _, _, rfl, rfl, ⟨by decide, by decide, by decide⟩, _, _, rfl, rfl, _, rfl, ?_⟩
          have fin : ∀ c' : Int, 0 ≤ c' → ∀ v', (gSub (tVar 0) (tC (.int 1)) rSetL) (.int c') [some (.ref s), some (.int many), v', none, none] (upd H3 s (.lst [.ref l, .int c, .int ((n : Int) + 1), .int y])) fun σ' H' => (∃ v, σ' = [some (.ref s), some (.int many), v, none, none] ∧ ∃ (cs : List Int) (c m : Int), H' s = some (.lst [.ref l, .int c, .int ((n : Int) + 1), .int m]) ∧ H' l = some (.lst (cs.map V.int)) ∧ 0 ≤ c ∧ 0 ≤ m ∧ m < 2147483647 ∧ Kp s l H H') ∧ (match H' l with | some (.lst xs) => xs.length | _ => 0) < (match H1 l with | some (.lst xs) => xs.length | _ => 0) := by
            intro c' hc' v'
            refine ⟨_, rfl, s, _, 1, 1, rfl, rfl, upd_same, rfl, ?_⟩
            have hl4 : upd (upd H3 s (.lst [.ref l, .int c, .int ((n : Int) + 1), .int y])) s (.lst [.ref l, .int c', .int ((n : Int) + 1), .int y]) l = some (.lst (r.map V.int)) := by
              rw [upd_ne (Ne.symm hne), upd_ne (Ne.symm hne)]
              exact hl3
            refine ⟨⟨v', rfl, r, c', y, upd_same, hl4, hc', y0, y1, (k3.trans Kp.ups).trans Kp.ups⟩, ?_⟩
            have e4 : ∀ o o' : HO, upd (upd H3 s o) s o' l = H3 l := fun o o' => by rw [upd_ne (Ne.symm hne), upd_ne (Ne.symm hne)]
            rw [e4]
            exact hm3
          by_cases cb : (10 : Int) ^ (18 : Int).toNat ≤ b
          · refine if_pos_of (decide_eq_true cb) ⟨_, rfl, fin b b0 _⟩
          · refine if_neg_of (decide_eq_false cb) (fin 0 (by decide) _)
      · refine if_neg_of (decide_eq_false (by intro e; cases e; exact c0 rfl)) ?_
        exact done _ hs1 hl1 kp fun e => absurd e c0
    · intro σ H Q Q' hq h
      obtain ⟨x1, x2, p, xs, i, v, x3, x4, x5, x6, x7, kk, e, h⟩ := h
      refine ⟨x1, x2, p, xs, i, v, x3, x4, x5, x6, x7, kk, e, ?_⟩
      cases kk with
      | false => exact hq _ _ h
      | true =>
        obtain ⟨x1, x2, p, xs, i, v, x3, x4, x5, x6, x8, h⟩ := h
        refine ⟨x1, x2, p, xs, i, v, x3, x4, x5, x6, x8, fun z nz => ?_⟩
        obtain ⟨d1, d2, y1, y2, y3, y4, kk, e, h⟩ := h z nz
        exact ⟨d1, d2, y1, y2, y3, y4, kk, e, hq _ _ h⟩
end
end ER
set_option Elab.async false
set_option linter.all false
set_option maxRecDepth 100000
set_option maxHeartbeats 4000000
namespace ER
open PySem PySem.Spec PyProof.Rows L2
abbrev sObj : Stmt := top 54
theorem St.ne {H : Hp} {s l p : Addr} {n : Nat} (h : St H s l n) (q : H p = none) : p ≠ s ∧ p ≠ l := by
  obtain ⟨_, cs, c, m, hs, hl, _⟩ := h
  exact ⟨fun e => (by rw [e, hs] at q; cases q), fun e => (by rw [e, hl] at q; cases q)⟩
theorem St.keep {H H' : Hp} {s l : Addr} {n : Nat} (h : St H s l n) (a : H' s = H s) (b : H' l = H l) : St H' s l n := by
  obtain ⟨e, cs, c, m, hs, hl, r⟩ := h
  exact ⟨e, cs, c, m, a.trans hs, b.trans hl, r⟩
theorem St.upd {H : Hp} {s l p : Addr} {n : Nat} {o : HO} (h : St H s l n) (q : p ≠ s ∧ p ≠ l) : St (upd H p o) s l n := h.keep (upd_ne (Ne.symm q.1)) (upd_ne (Ne.symm q.2))
def spStart (K : PySem.W.Frag) : Sp := fun vs H Q _ => ∃ (a : Addr) (ns : List Int), vs = [.ref a] ∧ SqL K H a (ns.map V.int) ∧ ∀ H' s l, (∀ b o, H b = some o → H' b = some o) → St H' s l 0 → Q (.ref s) H'
def spBetw : Sp := fun vs H Q _ => ∃ (s l : Addr) (n : Nat) (lo hi : Int), vs = [.ref s, .int lo, .int hi] ∧ St H s l n ∧ n < 1000000 ∧ lo ≤ hi ∧ hi - lo ≤ 900000 ∧ ∀ H' (r : Int), lo ≤ r → r ≤ hi → St H' s l (n + 1) → Kp s l H H' → Q (.int r) H'
/-- a drawn object -/
inductive Obj (H : Hp) : V → Prop where
  | int (i : Int) : Obj H (.int i)
  | str (z : Str) : Obj H (.str z)
  | non : Obj H .non
  | bl (b : Bool) : Obj H (.bl b)
  | tup {p : Addr} {r : Int} (h : H p = some (.tup [.int 1, .int r])) : Obj H (.ref p)
  | lst {p q : Addr} {r : Int} (h : H p = some (.lst [.int r, .ref q])) (h2 : H q = some (.lst [.int 1])) (ne : p ≠ q) : Obj H (.ref p)
  | dct {p : Addr} {r : Int} (h : H p = some (.dK [(Sum.inr "a", .int r)])) : Obj H (.ref p)
def spObj : Sp := fun vs H Q _ => ∃ (s l : Addr) (n : Nat), vs = [.ref s] ∧ St H s l n ∧ n < 900000 ∧ ∀ H' v n', n' ≤ n + 10 → St H' s l n' → Kp s l H H' → Obj H' v → (∀ H'', Kp s l H' H'' → Obj H'' v) → Q v H'
theorem scStart : FnScope ["script"] ["script"] (defScope sStart) := ⟨rfl, rfl, rfl, by decide +kernel, rfl, by decide +kernel, by decide +kernel⟩
theorem scBetw : FnScope ["state", "low", "high"] ["state", "low", "high"] (defScope sBetw) := ⟨rfl, rfl, rfl, by decide +kernel, rfl, by decide +kernel, by decide +kernel⟩
theorem scObj : FnScope ["state", "way"] ["state"] (defScope sObj) := ⟨rfl, rfl, rfl, by decide +kernel, rfl, by decide +kernel, by decide +kernel⟩
theorem small_log {r : Int} (h : 0 ≤ r) (h2 : r < 99) : r.natAbs.log2 < 1920 := by
  have e : r.natAbs < 2 ^ 7 := by omega
  by_cases z : r.natAbs = 0
  · rw [z]
    decide
  · exact Nat.lt_trans ((Nat.log2_lt z).mpr e) (by decide)
theorem small_len {r : Int} (h : 0 ≤ r) (h2 : r < 99) : (Str.ofString "w").length + (toString r : Str).length ≤ sizeLine := by
  obtain ⟨n, rfl⟩ : ∃ n : Nat, r = (n : Int) := ⟨r.toNat, by omega⟩
  have h3 : ∀ n : Fin 99, (Str.ofString "w").length + (Str.ofString (toString ((n.1 : Nat) : Int))).length ≤ 30 := by decide +kernel
  have h4 := h3 ⟨n, by omega⟩
  exact Nat.le_trans h4 (by decide)
section
variable {P : Program} {w : World} {K : PySem.W.Frag} {mg : Str → Option Value} {base : Heap} {f fP fB : Addr} {fd fdP fdB : FuncData}
theorem ok_start (F : FnP K "_law_start" sStart f fd) (gL : mg "list" = none) : FnOk P w K mg base CX0 1 f fd ["script"] (spStart K) := by
  refine F.ok scStart (fun vs H Q E h => ?_) (fun cdv A outer s H vs Q E hr h => ⟨_, PSs.nox (pss_one (ps_ret (pe_lst (pa_cons (pe_callTy call_list_of (by rfl) gL (by decide +kernel) (pa_cons (pv 0) pa_nil)) (pa_cons pe_int (pa_cons pe_int (pa_cons pe_int pa_nil))))))), ?_⟩)
  · obtain ⟨a, ns, rfl, _⟩ := h
    rfl
  · obtain ⟨a, ns, rfl, hS, k⟩ := h
    refine ⟨_, rfl, a, _, rfl, .inl hS, fun l nl => ⟨(by show 4 ≤ sizeLine; decide), fun s ns' => ?_⟩⟩
    have hsl : s ≠ l := fun e => by rw [e, upd_same] at ns'; cases ns'
    refine k _ s l (fun b o e => ?_) ⟨hsl, ns, 0, 29, upd_same, ?_, by decide, by decide, by decide⟩
    · have hb : b ≠ s := fun z => by
        rw [z] at e
        rw [upd_ne hsl, e] at ns'
        cases ns'
      rw [upd_ne hb, upd_ne (ne_of_none e nl)]
      exact e
    · rw [upd_ne (Ne.symm hsl)]
      exact upd_same
theorem ok_betw (F : FnP K "_law_between" sBetw f fd) (FP : FnP K "_law_pick" sPick fP fdP) (gP : mg "_law_pick" = some (.ref fP)) (gA : mg "abs" = none) (gI : mg "int" = none) (gM : mg "max" = none) : FnOk P w K mg base CX0 2 f fd ["state", "low", "high"] spBetw := by
  have GP : FnOk P w K mg base CX0 1 fP fdP ["state", "many"] spPick := ok_pick FP gA gI
  have bP : Binds K fdP ["state", "many"] [] := FP.bindsN fun _ _ _ _ _ _ us hl => match us, hl with | [_, _], _ => rfl
  refine F.ok scBetw (fun vs H Q E h => ?_) (fun cdv A outer s H vs Q E hr h => ⟨_, PSs.nox (pss_one (ps_ret (pe_op op_add (pv 1) (pe_call GP hr rfl gP FP.kp bP .nil pass0 (pa_cons (pv 0) (pa_cons (pe_op op_add (pe_callB (call_max2 rfl) (by rfl) gM (by decide +kernel) (pa_cons (pe_op op_sub (pv 2) (pv 1)) (pa_cons pe_int pa_nil))) pe_int) pa_nil)))))), ?_⟩)
  · obtain ⟨s, l, n, lo, hi, rfl, _⟩ := h
    rfl
  · obtain ⟨s, l, n, lo, hi, rfl, hs, hn, h1, h2, k⟩ := h
    refine ⟨_, rfl, _, rfl, _, rfl, _, rfl, _, _, rfl, rfl, _, _, rfl, _, _, rfl, rfl, s, l, n, (hi - lo) + 1, ?_, hs, hn, by omega, by omega, fun H' r r0 r1 hs' kp => ⟨_, _, rfl, rfl, ?_⟩⟩
    · have e : (if (0 : Int) > hi - lo then (0 : Int) else hi - lo) = hi - lo := if_neg (by omega)
      show [V.ref s, V.int ((if (0 : Int) > hi - lo then (0 : Int) else hi - lo) + 1)] = _
      rw [e]
    · exact k _ _ (by omega) (by omega) hs' kp
theorem ok_obj (F : FnP K "_law_object" sObj f fd) (FP : FnP K "_law_pick" sPick fP fdP) (gP : mg "_law_pick" = some (.ref fP)) (FB : FnP K "_law_between" sBetw fB fdB) (gB : mg "_law_between" = some (.ref fB)) (gA : mg "abs" = none) (gI : mg "int" = none) (gM : mg "max" = none) (gS : mg "str" = none) : FnOk P w K mg base CX0 3 f fd ["state"] spObj := by
  have GP : FnOk P w K mg base CX0 1 fP fdP ["state", "many"] spPick := ok_pick FP gA gI
  have bP : Binds K fdP ["state", "many"] [] := FP.bindsN fun _ _ _ _ _ _ us hl => match us, hl with | [_, _], _ => rfl
  have GB : FnOk P w K mg base CX0 2 fB fdB ["state", "low", "high"] spBetw := ok_betw FB FP gP gA gI gM
  have bB : Binds K fdB ["state", "low", "high"] [] := FB.bindsN fun _ _ _ _ _ _ us hl => match us, hl with | [_, _, _], _ => rfl
  refine F.ok scObj (fun vs H Q E h => ?_) (fun cdv A outer s H vs Q E hr h => ?_)
  · obtain ⟨s, l, n, rfl, _⟩ := h
    rfl
  have hr1 : Room 1 _ := hr.mono (by decide)
  refine ⟨_, PSs.nox (pss_cons (ps_set (i := 1) scObj.nd rfl (.inl rfl) (pe_call GP hr1 rfl gP FP.kp bP .nil pass0 (pa_cons (pv 0) (pa_cons pe_int pa_nil))))
    (pss_cons (ps_if (pt_cmpR op_lt (pv 1) pe_int (nomark _)) (pss_one (ps_ret (pe_ix ix_list (pe_lst (pa_cons (pe_call GB hr rfl gB FB.kp bB .nil pass0 (pa_cons (pv 0) (pa_cons (pe_un un_neg pe_int) (pa_cons pe_int pa_nil)))) (pa_cons (pe_op op_add_str pe_str (pe_callTy call_str_int (by rfl) gS (by decide +kernel) (pa_cons (pe_call GP hr1 rfl gP FP.kp bP .nil pass0 (pa_cons (pv 0) (pa_cons pe_int pa_nil))) pa_nil))) pa_nil))) (pv 1) (fun _ _ => rfl)))) pss_nil)
    (pss_cons (ps_if (pt_cmpR op_lt (pv 1) pe_int (nomark _)) (pss_one (ps_ret (pe_ix ix_list (pe_lst (pa_cons pe_non (pa_cons (pe_cmpR op_eq (pe_call GP hr1 rfl gP FP.kp bP .nil pass0 (pa_cons (pv 0) (pa_cons pe_int pa_nil))) pe_int (nomark _)) (pa_cons (pe_tup (pa_cons pe_int (pa_cons (pe_call GP hr1 rfl gP FP.kp bP .nil pass0 (pa_cons (pv 0) (pa_cons pe_int pa_nil))) pa_nil))) pa_nil)))) (pe_op op_sub (pv 1) pe_int) (fun _ _ => rfl)))) pss_nil)
    (pss_one (ps_ret (pe_ifExp (pt_cmpR op_eq (pv 1) pe_int (nomark _)) (pe_lst (pa_cons (pe_call GP hr1 rfl gP FP.kp bP .nil pass0 (pa_cons (pv 0) (pa_cons pe_int pa_nil))) (pa_cons (pe_lst (pa_cons pe_int pa_nil)) pa_nil)))
      (pe_disp (pps_cons pe_str (pe_call GP hr1 rfl gP FP.kp bP .nil pass0 (pa_cons (pv 0) (pa_cons pe_int pa_nil))) pps_nil) (by rfl) (by rfl) (fun z => by cases z) (by decide)))))))), ?_⟩
  obtain ⟨s, l, n, rfl, hs, hn, k⟩ := h
  refine ⟨_, rfl, s, l, n, 7, rfl, hs, by omega, by decide, by decide, fun H1 kd c0 c1 hs1 k1 => ?_⟩
  refine ⟨_, rfl, _, _, rfl, rfl, _, rfl, ?_⟩
  by_cases c2 : kd < 2
  · refine if_pos_of (decide_eq_true c2) ?_
    refine ⟨_, rfl, _, rfl, s, l, n + 1, -9, 9, rfl, hs1, by omega, by decide, by decide, fun H2 r1 _ _ hs2 k2 => ?_⟩
    refine ⟨_, rfl, s, l, n + 2, 99, rfl, hs2, by omega, by decide, by decide, fun H3 r2 a2 b2 hs3 k3 => ⟨r2, rfl, small_log a2 b2, _, _, rfl, rfl, small_len a2 b2, (by show 2 ≤ sizeLine; decide), fun p np => ?_⟩⟩
    have k4 := ((k1.trans k2).trans k3).trans (Kp.new (o := .lst [.int r1, .str (Str.ofString "w" ++ toString r2)]) np)
    have hs4 := hs3.upd (o := .lst [.int r1, .str (Str.ofString "w" ++ toString r2)]) (hs3.ne np)
    have hk : kd = 0 ∨ kd = 1 := by omega
    rcases hk with rfl | rfl
    · exact ⟨_, rfl, p, _, 0, _, rfl, rfl, SqL.of upd_same, rfl, k _ _ _ (by omega) hs4 k4 (.int _) (fun _ _ => .int _)⟩
    · exact ⟨_, rfl, p, _, 1, _, rfl, rfl, SqL.of upd_same, rfl, k _ _ _ (by omega) hs4 k4 (.str _) (fun _ _ => .str _)⟩
  · refine if_neg_of (decide_eq_false c2) ?_
    refine ⟨_, rfl, _, _, rfl, rfl, _, rfl, ?_⟩
    by_cases c5 : kd < 5
    · refine if_pos_of (decide_eq_true c5) ?_
      refine ⟨_, rfl, s, l, n + 1, 2, rfl, hs1, by omega, by decide, by decide, fun H3 r3 _ _ hs3 k3 => ⟨rfl, ?_⟩⟩
      refine ⟨_, rfl, s, l, n + 2, 9, rfl, hs3, by omega, by decide, by decide, fun H4 r4 _ _ hs4 k4 => ⟨(by show 2 ≤ sizeLine; decide), fun t nt => ⟨(by show 3 ≤ sizeLine; decide), fun p np => ?_⟩⟩⟩
      have q5 := hs4.upd (o := .tup [.int 1, .int r4]) (hs4.ne nt)
      have hs5 := q5.upd (o := .lst [.non, .bl (decide (V.int r3 = V.int 0)), .ref t]) (q5.ne np)
      have hpt : p ≠ t := fun e => by rw [e, upd_same] at np; cases np
      have k5 : Kp s l H _ := ((k1.trans k3).trans k4).trans ((Kp.new (o := .tup [.int 1, .int r4]) nt).trans (Kp.new (o := .lst [.non, .bl (decide (V.int r3 = V.int 0)), .ref t]) np))
      have e5 : (upd (upd H4 t (.tup [.int 1, .int r4])) p (.lst [.non, .bl (decide (V.int r3 = V.int 0)), .ref t])) t = some (.tup [.int 1, .int r4]) := (upd_ne (Ne.symm hpt)).trans upd_same
      have hk : kd = 2 ∨ kd = 3 ∨ kd = 4 := by omega
      rcases hk with rfl | rfl | rfl
      · exact ⟨_, rfl, _, _, rfl, rfl, p, _, 0, _, rfl, rfl, SqL.of upd_same, rfl, k _ _ _ (by omega) hs5 k5 .non (fun _ _ => .non)⟩
      · exact ⟨_, rfl, _, _, rfl, rfl, p, _, 1, _, rfl, rfl, SqL.of upd_same, rfl, k _ _ _ (by omega) hs5 k5 (.bl _) (fun _ _ => .bl _)⟩
      · exact ⟨_, rfl, _, _, rfl, rfl, p, _, 2, _, rfl, rfl, SqL.of upd_same, rfl, k _ _ _ (by omega) hs5 k5 (.tup e5) (fun _ kq => .tup (kq _ _ e5 (hs4.ne nt).1 (hs4.ne nt).2))⟩
    · refine if_neg_of (decide_eq_false c5) ?_
      refine ⟨_, rfl, rfl, _, rfl, ?_⟩
      by_cases c6 : V.int kd = V.int 5
      · refine if_pos_of (decide_eq_true c6) ?_
        refine ⟨_, rfl, s, l, n + 1, 9, rfl, hs1, by omega, by decide, by decide, fun H7 r7 _ _ hs7 k8 => ⟨(by show 1 ≤ sizeLine; decide), fun q nq => ⟨(by show 2 ≤ sizeLine; decide), fun u nu => ?_⟩⟩⟩
        have hs8 := hs7.upd (o := .lst [.int 1]) (hs7.ne nq)
        have hqu : u ≠ q := fun e => by rw [e, upd_same] at nu; cases nu
        exact k _ _ _ (by omega) (hs8.upd (hs8.ne nu)) ((k1.trans k8).trans ((Kp.new nq).trans (Kp.new nu))) (.lst upd_same ((upd_ne (Ne.symm hqu)).trans upd_same) hqu) (fun _ kq => .lst (kq _ _ upd_same (hs8.ne nu).1 (hs8.ne nu).2) (kq _ _ ((upd_ne (Ne.symm hqu)).trans upd_same) (hs7.ne nq).1 (hs7.ne nq).2) hqu)
      · refine if_neg_of (decide_eq_false c6) ?_
        intro u nu
        have u6 := hs1.ne nu
        have hs7 := hs1.upd (o := .dK []) u6
        refine ⟨_, rfl, s, l, n + 1, 9, rfl, hs7, by omega, by decide, by decide, fun H8 r8 _ _ hs8 k8 => ?_⟩
        have e8 : H8 u = some (.dK []) := k8 _ _ upd_same u6.1 u6.2
        refine ⟨e8, [(Sum.inr "a", .int r8)], rfl, (by show 1 ≤ 15; decide), ?_⟩
        exact k _ _ _ (by omega) (hs8.upd u6) (k1.trans fun b o e x y => by
          rw [upd_ne (ne_of_none e nu)]
          exact ((Kp.new nu).trans k8) b o e x y) (.dct (r := r8) upd_same) (fun _ kq => .dct (r := r8) (kq _ _ upd_same u6.1 u6.2))
end
end ER
set_option Elab.async false
set_option linter.all false
set_option maxRecDepth 100000
set_option maxHeartbeats 4000000
namespace ER
open PySem PySem.Spec PyProof.Rows L2

def kinds : List Str := (["BadWay", "CannotPutIn", "BadEdit", "BadSession", "BadSessionText", "BadRoad", "NothingToUndo", "NothingToRedo"] : List Str)
/-- the places of the class x among them -/
def kindsOf (x : Str) : List Nat := (List.range 8).filter fun i => match kinds[i]? with | some y => isN x y | none => false
def spKinds (K : PySem.W.Frag) : Sp := fun vs H Q _ => ∃ (a : Addr) (x : Str), vs = [.ref a] ∧ x ∈ errs ∧ Er H a (He.ga K x) ∧ ∀ H' p, Ext H H' → H p = none → H' p = some (.lst ((kindsOf x).map fun i => V.int (i : Nat))) → Q (.ref p) H'
abbrev sIsO : Stmt := top 51
abbrev sOthers : Stmt := top 50
theorem scKinds : FnScope ["e", "told", "k"] ["e"] (defScope sKinds) := ⟨rfl, rfl, rfl, by decide +kernel, rfl, by decide +kernel, by decide +kernel⟩
/-- a read of a list whose place is told -/
theorem atI_get? {α : Type} {xs : List α} {i : Nat} {v : α} (h : xs[i]? = some v) : atI xs (0 + (i : Int)) = some v := by
  rw [Int.zero_add]
  exact atI_nat h
section
variable {P : Program} {w : World} {K : PySem.W.Frag} {mg : Str → Option Value} {base : Heap} {f : Addr} {fd : FuncData}
theorem ok_kinds (F : FnP K "_law_kinds_of" sKinds f fd) (W : Wd P w K mg base) (gIs : mg "isinstance" = none) (gR : mg "range" = none) : FnOk P w K mg base CX0 1 f fd ["e"] (spKinds K) := by
  refine F.ok scKinds (fun vs H Q E h => ?_) (fun cdv A outer s H vs Q E hr h => ⟨_, PSs.nox (
      pss_cons (ps_set (i := 1) scKinds.nd rfl (.inr rfl) (pe_lst (pa_cons (pe_callB call_isE (by rfl) gIs (by decide +kernel) (pa_cons (pv 0) (pa_cons (pe_glob (v := .ref (He.ga K "BadWay")) rfl (W.gl "BadWay" (by decide +kernel)) rfl) pa_nil))) (pa_cons (pe_callB call_isE (by rfl) gIs (by decide +kernel) (pa_cons (pv 0) (pa_cons (pe_glob (v := .ref (He.ga K "CannotPutIn")) rfl (W.gl "CannotPutIn" (by decide +kernel)) rfl) pa_nil))) (pa_cons (pe_callB call_isE (by rfl) gIs (by decide +kernel) (pa_cons (pv 0) (pa_cons (pe_glob (v := .ref (He.ga K "BadEdit")) rfl (W.gl "BadEdit" (by decide +kernel)) rfl) pa_nil))) (pa_cons (pe_callB call_isE (by rfl) gIs (by decide +kernel) (pa_cons (pv 0) (pa_cons (pe_glob (v := .ref (He.ga K "BadSession")) rfl (W.gl "BadSession" (by decide +kernel)) rfl) pa_nil))) pa_nil))))))
      (pss_cons (ps_expr (pe_bm PySem.F.plainAttrs_list PySem.F.slot_list_extend PySem.F.type_list_extend mt_extend (pv 1) (pa_cons (pe_lst (pa_cons (pe_callB call_isE (by rfl) gIs (by decide +kernel) (pa_cons (pv 0) (pa_cons (pe_glob (v := .ref (He.ga K "BadSessionText")) rfl (W.gl "BadSessionText" (by decide +kernel)) rfl) pa_nil))) (pa_cons (pe_callB call_isE (by rfl) gIs (by decide +kernel) (pa_cons (pv 0) (pa_cons (pe_glob (v := .ref (He.ga K "BadRoad")) rfl (W.gl "BadRoad" (by decide +kernel)) rfl) pa_nil))) (pa_cons (pe_callB call_isE (by rfl) gIs (by decide +kernel) (pa_cons (pv 0) (pa_cons (pe_glob (v := .ref (He.ga K "NothingToUndo")) rfl (W.gl "NothingToUndo" (by decide +kernel)) rfl) pa_nil))) (pa_cons (pe_callB call_isE (by rfl) gIs (by decide +kernel) (pa_cons (pv 0) (pa_cons (pe_glob (v := .ref (He.ga K "NothingToRedo")) rfl (W.gl "NothingToRedo" (by decide +kernel)) rfl) pa_nil))) pa_nil))))) pa_nil)))
      (pss_one (ps_ret (pe_lc (own := [("k", 2)]) (g := gName 2) (tt := tTest (tOp (rIxL K) (tVar 1) (tVar 2))) (te := tVar 2) (by rfl) scKinds.nd (pi_range1 rfl gR (pa_cons pe_int pa_nil)) (blkOk_by (own := [("k", 2)]) (N := ["e", "told", "k"]) (sc := defScope sKinds) (by decide +kernel)) (fun _ _ _ _ _ => pg_name (i := 2) scKinds.nd rfl (Or.inl rfl)) (fun _ _ _ _ _ => pts_one (pt_val (pe_ix ix_list (pv 1) (pv 2) (fun _ _ => rfl)))) (fun _ _ _ _ _ => pv 2)))))), ?_⟩)
  · obtain ⟨a, x, rfl, _⟩ := h
    rfl
  · obtain ⟨a, x, rfl, hx, e, k⟩ := h
    refine ⟨_, rfl, a, _, _, .ref (He.ga K "BadWay"), _, _, rfl, e, W.ec x hx, .own _, W.kit hx (by decide +kernel), _, rfl, a, _, _, .ref (He.ga K "CannotPutIn"), _, _, rfl, e, W.ec x hx, .own _, W.kit hx (by decide +kernel), _, rfl, a, _, _, .ref (He.ga K "BadEdit"), _, _, rfl, e, W.ec x hx, .own _, W.kit hx (by decide +kernel), _, rfl, a, _, _, .ref (He.ga K "BadSession"), _, _, rfl, e, W.ec x hx, .own _, W.kit hx (by decide +kernel), (by show 4 ≤ sizeLine; decide), fun t nt => ?_⟩
    have e1 : Er (upd H t (.lst [.bl (isN x "BadWay"), .bl (isN x "CannotPutIn"), .bl (isN x "BadEdit"), .bl (isN x "BadSession")])) a (He.ga K x) := e.ext (Ext.new nt)
    refine ⟨_, rfl, .inl ⟨rfl, _, SqL.of upd_same⟩, ?_⟩
    refine ⟨_, rfl, a, _, _, .ref (He.ga K "BadSessionText"), _, _, rfl, e1, W.ec x hx, .own _, W.kit hx (by decide +kernel), _, rfl, a, _, _, .ref (He.ga K "BadRoad"), _, _, rfl, e1, W.ec x hx, .own _, W.kit hx (by decide +kernel), _, rfl, a, _, _, .ref (He.ga K "NothingToUndo"), _, _, rfl, e1, W.ec x hx, .own _, W.kit hx (by decide +kernel), _, rfl, a, _, _, .ref (He.ga K "NothingToRedo"), _, _, rfl, e1, W.ec x hx, .own _, W.kit hx (by decide +kernel), (by show 4 ≤ sizeLine; decide), fun u nu => ?_⟩
    have ntu : u ≠ t := fun z => by rw [z, upd_same] at nu; cases nu
    refine ⟨t, u, _, _, rfl, rfl, (upd_ne (Ne.symm ntu)).trans upd_same, upd_same, (by show 8 ≤ sizeLine; decide), ?_⟩
    have nu0 : H u = none := by
      rw [upd_ne ntu] at nu
      exact nu
    have x3 : Ext H (upd (upd (upd H t (.lst [.bl (isN x "BadWay"), .bl (isN x "CannotPutIn"), .bl (isN x "BadEdit"), .bl (isN x "BadSession")])) u (.lst [.bl (isN x "BadSessionText"), .bl (isN x "BadRoad"), .bl (isN x "NothingToUndo"), .bl (isN x "NothingToRedo")])) t (.lst ([.bl (isN x "BadWay"), .bl (isN x "CannotPutIn"), .bl (isN x "BadEdit"), .bl (isN x "BadSession")] ++ [.bl (isN x "BadSessionText"), .bl (isN x "BadRoad"), .bl (isN x "NothingToUndo"), .bl (isN x "NothingToRedo")]))) := fun b o q => by
      have h1 := ne_of_none q nt
      rw [upd_ne h1, upd_ne (ne_of_none q nu0), upd_ne h1]
      exact q
    have e3 : (upd (upd (upd H t (.lst [.bl (isN x "BadWay"), .bl (isN x "CannotPutIn"), .bl (isN x "BadEdit"), .bl (isN x "BadSession")])) u (.lst [.bl (isN x "BadSessionText"), .bl (isN x "BadRoad"), .bl (isN x "NothingToUndo"), .bl (isN x "NothingToRedo")])) t (.lst ([.bl (isN x "BadWay"), .bl (isN x "CannotPutIn"), .bl (isN x "BadEdit"), .bl (isN x "BadSession")] ++ [.bl (isN x "BadSessionText"), .bl (isN x "BadRoad"), .bl (isN x "NothingToUndo"), .bl (isN x "NothingToRedo")]))) t = some (.lst ((kinds.map fun y => V.bl (isN x y)))) := upd_same
    generalize (upd (upd (upd H t (.lst [.bl (isN x "BadWay"), .bl (isN x "CannotPutIn"), .bl (isN x "BadEdit"), .bl (isN x "BadSession")])) u (.lst [.bl (isN x "BadSessionText"), .bl (isN x "BadRoad"), .bl (isN x "NothingToUndo"), .bl (isN x "NothingToRedo")])) t (.lst ([.bl (isN x "BadWay"), .bl (isN x "CannotPutIn"), .bl (isN x "BadEdit"), .bl (isN x "BadSession")] ++ [.bl (isN x "BadSessionText"), .bl (isN x "BadRoad"), .bl (isN x "NothingToUndo"), .bl (isN x "NothingToRedo")]))) = H3 at x3 e3 ⊢
    refine ⟨8, rfl, by decide, by decide, fun D nD => ?_⟩
    have htD : t ≠ D := fun z => by rw [z, nD] at e3; cases e3
    refine lc_range (lo := 0) (n := 8) (fun i H' => ∃ ks : List Nat, ks = (List.range i).filter (fun i => match kinds[i]? with | some y => isN x y | none => false) ∧ Ext H3 H' ∧ H' D = some (.lst (ks.map fun i => V.int (i : Nat)))) ⟨[], rfl, Ext.new nD, upd_same⟩ ?_ ?_
    · rintro i H4 hi ⟨ks, rfl, x4, e4⟩
      have hi2 : i < kinds.length := hi
      have hk : kinds[i]? = some kinds[i] := List.getElem?_eq_getElem hi2
      refine ⟨rfl, _, rfl, _, rfl, t, _, 0 + (i : Int), _, rfl, rfl, SqL.of (x4 _ _ e3), atI_get? (by rw [List.getElem?_map, hk]; rfl), _, rfl, ?_⟩
      have step : (List.range (i + 1)).filter (fun i => match kinds[i]? with | some y => isN x y | none => false) = (List.range i).filter (fun i => match kinds[i]? with | some y => isN x y | none => false) ++ (if isN x kinds[i] = true then [i] else []) := by
        rw [List.range_succ, List.filter_append]
        congr 1
        rw [List.filter_cons, hk]
        rfl
      cases hb : isN x kinds[i] with
      | true =>
        rw [hb, if_pos rfl] at step
        refine if_pos_of rfl ⟨_, rfl, _, e4, ?_, _, rfl, ?_, ?_⟩
        · rw [List.length_map]
          refine Nat.lt_of_le_of_lt (List.length_filter_le _ _) ?_
          rw [List.length_range]
          exact Nat.lt_trans hi (by decide)
        · intro b o q
          by_cases hbD : b = D
          · rw [hbD, nD] at q
            cases q
          · rw [upd_ne hbD]
            exact x4 b o q
        · rw [step, upd_same, List.map_append, List.map_singleton, Int.zero_add]
      | false =>
        rw [hb, if_neg Bool.false_ne_true, List.append_nil] at step
        refine if_neg_of rfl ⟨_, rfl, x4, ?_⟩
        rw [step]
        exact e4
    · rintro H4 ⟨ks, rfl, x4, e4⟩
      refine k _ _ (x3.trans x4) ?_ e4
      cases hD : H D with
      | none => rfl
      | some o =>
        have z := x3 _ _ hD
        rw [nD] at z
        cases z
end
end ER
set_option Elab.async false
set_option linter.all false
set_option maxRecDepth 100000
set_option maxHeartbeats 4000000
namespace ER
open PySem PySem.Spec PyProof.Rows L2
theorem Ext.at {H H' : Hp} {p : Addr} {o : HO} (x : Ext H H') (n : H p = none) : Ext H (upd H' p o) := fun b u e => by
  rw [upd_ne (ne_of_none e n)]
  exact x b u e
theorem Ext.none {H H' : Hp} {p : Addr} (x : Ext H H') (n : H' p = none) : H p = none := by
  cases h : H p with
  | none => rfl
  | some o =>
    have z := x _ _ h
    rw [n] at z
    cases z
theorem Er.updl {H : Hp} {a C l : Addr} {xs ys : List V} (e : Er H a C) (h : H l = some (.lst xs)) : Er (upd H l (.lst ys)) a C := by
  obtain ⟨d, h1, h2⟩ := e
  have ne : ∀ {b : Addr} {phi : Heap → Prop}, H b = some (.ext phi) → b ≠ l := fun {b phi} q z => by
    rw [z, h] at q
    cases q
  refine ⟨d, (upd_ne (ne h1)).trans h1, fun dx q => ?_⟩
  obtain ⟨fs, h3⟩ := h2 dx q
  exact ⟨fs, (upd_ne (ne h3)).trans h3⟩
/-- errors by address and name -/
def AllE (K : PySem.W.Frag) (H : Hp) (as : List (Addr × Str)) : Prop := ∀ q ∈ as, Er H q.1 (He.ga K q.2)
theorem AllE.nil {K : PySem.W.Frag} {H : Hp} : AllE K H [] := fun q h => by cases h
theorem AllE.ext {K : PySem.W.Frag} {H H' : Hp} {as : List (Addr × Str)} (h : AllE K H as) (x : Ext H H') : AllE K H' as := fun q m => (h q m).ext x
theorem AllE.push {K : PySem.W.Frag} {H H' : Hp} {as : List (Addr × Str)} {a : Addr} {n : Str} (h : AllE K H as) (x : Ext H H') (e : Er H' a (He.ga K n)) : AllE K H' (as ++ [(a, n)]) := fun q m => by
  rcases List.mem_append.mp m with m | m
  · exact (h q m).ext x
  · cases List.mem_singleton.mp m
    exact e
theorem AllE.updl {K : PySem.W.Frag} {H : Hp} {as : List (Addr × Str)} {l : Addr} {xs ys : List V} (h : AllE K H as) (e : H l = some (.lst xs)) : AllE K (upd H l (.lst ys)) as := fun q m => (h q m).updl e

def others : List Str := (["BadOther", "BadFacts", "BadEntry", "BadHeld", "BadPapers", "BadResult", "BadMany", "BadExpression", "BadValues", "BadProcs", "BadName", "BadProcedure", "BadProgram", "BadExpressionText", "BadProgramText", "BadLine", "BadPoint", "BadInputs", "BadStanding", "BadChoice"] : List Str) ++ (["BadChoices", "BadMost", "BadArgs", "BadAnswer", "BadPaperText", "BadTold", "BadOrder", "BadPlace", "BadSpot", "BadLineNumber", "BadRuns", "Ended"] : List Str)
def og0 : List Str := (["BadOther", "BadFacts", "BadEntry", "BadHeld", "BadPapers", "BadResult", "BadMany", "BadExpression", "BadValues"] : List Str)
def og1 : List Str := (["BadProcs", "BadName", "BadProcedure", "BadProgram", "BadExpressionText", "BadProgramText", "BadLine", "BadPoint", "BadInputs"] : List Str)
def og2 : List Str := (["BadStanding", "BadChoice", "BadChoices", "BadMost", "BadArgs", "BadAnswer", "BadPaperText", "BadTold", "BadOrder"] : List Str)
def og3 : List Str := (["BadPlace", "BadSpot", "BadLineNumber", "BadRuns", "Ended"] : List Str)
def spIsO (K : PySem.W.Frag) : Sp := fun vs H Q _ => ∃ (a : Addr) (x : Str), vs = [.ref a] ∧ x ∈ errs ∧ Er H a (He.ga K x) ∧ ∀ H', Ext H H' → Q (.bl (others.any (isN x))) H'
theorem scIsO : FnScope ["e", "told"] ["e"] (defScope sIsO) := ⟨rfl, rfl, rfl, by decide +kernel, rfl, by decide +kernel, by decide +kernel⟩
section
variable {P : Program} {w : World} {K : PySem.W.Frag} {mg : Str → Option Value} {base : Heap} {f : Addr} {fd : FuncData}
theorem ok_isO (F : FnP K "_law_is_other" sIsO f fd) (W : Wd P w K mg base) (gIs : mg "isinstance" = none) : FnOk P w K mg base CX0 1 f fd ["e"] (spIsO K) := by
  refine F.ok scIsO (fun vs H Q E h => ?_) (fun cdv A outer s H vs Q E hr h => ⟨_, PSs.nox (
      pss_cons (ps_set (i := 1) scIsO.nd rfl (.inl rfl) (pe_lst (pa_cons (pe_callB call_isET (by rfl) gIs (by decide +kernel) (pa_cons (pv 0) (pa_cons (pe_tup (pa_cons (pe_glob (v := .ref (He.ga K "BadOther")) rfl (W.gl "BadOther" (by decide +kernel)) rfl) (pa_cons (pe_glob (v := .ref (He.ga K "BadFacts")) rfl (W.gl "BadFacts" (by decide +kernel)) rfl) (pa_cons (pe_glob (v := .ref (He.ga K "BadEntry")) rfl (W.gl "BadEntry" (by decide +kernel)) rfl) (pa_cons (pe_glob (v := .ref (He.ga K "BadHeld")) rfl (W.gl "BadHeld" (by decide +kernel)) rfl) (pa_cons (pe_glob (v := .ref (He.ga K "BadPapers")) rfl (W.gl "BadPapers" (by decide +kernel)) rfl) (pa_cons (pe_glob (v := .ref (He.ga K "BadResult")) rfl (W.gl "BadResult" (by decide +kernel)) rfl) (pa_cons (pe_glob (v := .ref (He.ga K "BadMany")) rfl (W.gl "BadMany" (by decide +kernel)) rfl) (pa_cons (pe_glob (v := .ref (He.ga K "BadExpression")) rfl (W.gl "BadExpression" (by decide +kernel)) rfl) (pa_cons (pe_glob (v := .ref (He.ga K "BadValues")) rfl (W.gl "BadValues" (by decide +kernel)) rfl) pa_nil)))))))))) pa_nil))) pa_nil)))
      (pss_cons (ps_expr (pe_bm PySem.F.plainAttrs_list PySem.F.slot_list_append PySem.F.type_list_append mt_append (pv 1) (pa_cons (pe_callB call_isET (by rfl) gIs (by decide +kernel) (pa_cons (pv 0) (pa_cons (pe_tup (pa_cons (pe_glob (v := .ref (He.ga K "BadProcs")) rfl (W.gl "BadProcs" (by decide +kernel)) rfl) (pa_cons (pe_glob (v := .ref (He.ga K "BadName")) rfl (W.gl "BadName" (by decide +kernel)) rfl) (pa_cons (pe_glob (v := .ref (He.ga K "BadProcedure")) rfl (W.gl "BadProcedure" (by decide +kernel)) rfl) (pa_cons (pe_glob (v := .ref (He.ga K "BadProgram")) rfl (W.gl "BadProgram" (by decide +kernel)) rfl) (pa_cons (pe_glob (v := .ref (He.ga K "BadExpressionText")) rfl (W.gl "BadExpressionText" (by decide +kernel)) rfl) (pa_cons (pe_glob (v := .ref (He.ga K "BadProgramText")) rfl (W.gl "BadProgramText" (by decide +kernel)) rfl) (pa_cons (pe_glob (v := .ref (He.ga K "BadLine")) rfl (W.gl "BadLine" (by decide +kernel)) rfl) (pa_cons (pe_glob (v := .ref (He.ga K "BadPoint")) rfl (W.gl "BadPoint" (by decide +kernel)) rfl) (pa_cons (pe_glob (v := .ref (He.ga K "BadInputs")) rfl (W.gl "BadInputs" (by decide +kernel)) rfl) pa_nil)))))))))) pa_nil))) pa_nil)))
      (pss_cons (ps_expr (pe_bm PySem.F.plainAttrs_list PySem.F.slot_list_append PySem.F.type_list_append mt_append (pv 1) (pa_cons (pe_callB call_isET (by rfl) gIs (by decide +kernel) (pa_cons (pv 0) (pa_cons (pe_tup (pa_cons (pe_glob (v := .ref (He.ga K "BadStanding")) rfl (W.gl "BadStanding" (by decide +kernel)) rfl) (pa_cons (pe_glob (v := .ref (He.ga K "BadChoice")) rfl (W.gl "BadChoice" (by decide +kernel)) rfl) (pa_cons (pe_glob (v := .ref (He.ga K "BadChoices")) rfl (W.gl "BadChoices" (by decide +kernel)) rfl) (pa_cons (pe_glob (v := .ref (He.ga K "BadMost")) rfl (W.gl "BadMost" (by decide +kernel)) rfl) (pa_cons (pe_glob (v := .ref (He.ga K "BadArgs")) rfl (W.gl "BadArgs" (by decide +kernel)) rfl) (pa_cons (pe_glob (v := .ref (He.ga K "BadAnswer")) rfl (W.gl "BadAnswer" (by decide +kernel)) rfl) (pa_cons (pe_glob (v := .ref (He.ga K "BadPaperText")) rfl (W.gl "BadPaperText" (by decide +kernel)) rfl) (pa_cons (pe_glob (v := .ref (He.ga K "BadTold")) rfl (W.gl "BadTold" (by decide +kernel)) rfl) (pa_cons (pe_glob (v := .ref (He.ga K "BadOrder")) rfl (W.gl "BadOrder" (by decide +kernel)) rfl) pa_nil)))))))))) pa_nil))) pa_nil)))
      (pss_cons (ps_expr (pe_bm PySem.F.plainAttrs_list PySem.F.slot_list_append PySem.F.type_list_append mt_append (pv 1) (pa_cons (pe_callB call_isET (by rfl) gIs (by decide +kernel) (pa_cons (pv 0) (pa_cons (pe_tup (pa_cons (pe_glob (v := .ref (He.ga K "BadPlace")) rfl (W.gl "BadPlace" (by decide +kernel)) rfl) (pa_cons (pe_glob (v := .ref (He.ga K "BadSpot")) rfl (W.gl "BadSpot" (by decide +kernel)) rfl) (pa_cons (pe_glob (v := .ref (He.ga K "BadLineNumber")) rfl (W.gl "BadLineNumber" (by decide +kernel)) rfl) (pa_cons (pe_glob (v := .ref (He.ga K "BadRuns")) rfl (W.gl "BadRuns" (by decide +kernel)) rfl) (pa_cons (pe_glob (v := .ref (He.ga K "Ended")) rfl (W.gl "Ended" (by decide +kernel)) rfl) pa_nil)))))) pa_nil))) pa_nil)))
      (pss_one (ps_ret (pe_cmpR op_in_seq pe_bl (pv 1) (by rfl)))))))), ?_⟩)
  · obtain ⟨a, x, rfl, _⟩ := h
    rfl
  · obtain ⟨a, x, rfl, hx, e, k⟩ := h
    refine ⟨_, rfl, (by show 9 ≤ sizeLine; decide), fun t0 n0 => ⟨a, _, _, t0, _, _, _, rfl, e.ext (Ext.new n0), W.ec x hx, upd_same, pairedCls K og0, W.kitA hx og0 (by decide +kernel), (by show 1 ≤ sizeLine; decide), fun l nl => ?_⟩⟩
    have hl0 : H l = none := (Ext.new n0).none nl
    have X0 := (Ext.new (o := .tup (og0.map fun y => V.ref (He.ga K y))) n0).trans (Ext.new (o := .lst [.bl (og0.any (isN x))]) nl)
    have L0 : (upd (upd H t0 (.tup (og0.map fun y => V.ref (He.ga K y)))) l (.lst [.bl (og0.any (isN x))])) l = some (.lst [.bl (og0.any (isN x))]) := upd_same
    refine ⟨_, rfl, .inl ⟨rfl, _, SqL.of L0⟩, _, rfl, (by show 9 ≤ sizeLine; decide), fun t1 n1 => ⟨a, _, _, t1, _, _, _, rfl, (e.ext X0).ext (Ext.new n1), W.ec x hx, upd_same, pairedCls K og1, W.kitA hx og1 (by decide +kernel), l, _, _, rfl, rfl, (upd_ne (ne_of_none L0 n1)).trans L0, (by show 1 < sizeLine; decide), ?_⟩⟩
    have X1 := (X0.trans (Ext.new (o := .tup (og1.map fun y => V.ref (He.ga K y))) n1)).at (o := .lst [.bl (og0.any (isN x)), .bl (og1.any (isN x))]) hl0
    have L1 : (upd (upd (upd (upd H t0 (.tup (og0.map fun y => V.ref (He.ga K y)))) l (.lst [.bl (og0.any (isN x))])) t1 (.tup (og1.map fun y => V.ref (He.ga K y)))) l (.lst [.bl (og0.any (isN x)), .bl (og1.any (isN x))])) l = some (.lst [.bl (og0.any (isN x)), .bl (og1.any (isN x))]) := upd_same
    refine ⟨_, rfl, .inl ⟨rfl, _, SqL.of L1⟩, _, rfl, (by show 9 ≤ sizeLine; decide), fun t2 n2 => ⟨a, _, _, t2, _, _, _, rfl, (e.ext X1).ext (Ext.new n2), W.ec x hx, upd_same, pairedCls K og2, W.kitA hx og2 (by decide +kernel), l, _, _, rfl, rfl, (upd_ne (ne_of_none L1 n2)).trans L1, (by show 2 < sizeLine; decide), ?_⟩⟩
    have X2 := (X1.trans (Ext.new (o := .tup (og2.map fun y => V.ref (He.ga K y))) n2)).at (o := .lst [.bl (og0.any (isN x)), .bl (og1.any (isN x)), .bl (og2.any (isN x))]) hl0
    have L2 : (upd (upd (upd (upd (upd (upd H t0 (.tup (og0.map fun y => V.ref (He.ga K y)))) l (.lst [.bl (og0.any (isN x))])) t1 (.tup (og1.map fun y => V.ref (He.ga K y)))) l (.lst [.bl (og0.any (isN x)), .bl (og1.any (isN x))])) t2 (.tup (og2.map fun y => V.ref (He.ga K y)))) l (.lst [.bl (og0.any (isN x)), .bl (og1.any (isN x)), .bl (og2.any (isN x))])) l = some (.lst [.bl (og0.any (isN x)), .bl (og1.any (isN x)), .bl (og2.any (isN x))]) := upd_same
    refine ⟨_, rfl, .inl ⟨rfl, _, SqL.of L2⟩, _, rfl, (by show 5 ≤ sizeLine; decide), fun t3 n3 => ⟨a, _, _, t3, _, _, _, rfl, (e.ext X2).ext (Ext.new n3), W.ec x hx, upd_same, pairedCls K og3, W.kitA hx og3 (by decide +kernel), l, _, _, rfl, rfl, (upd_ne (ne_of_none L2 n3)).trans L2, (by show 3 < sizeLine; decide), ?_⟩⟩
    have X3 := (X2.trans (Ext.new (o := .tup (og3.map fun y => V.ref (He.ga K y))) n3)).at (o := .lst [.bl (og0.any (isN x)), .bl (og1.any (isN x)), .bl (og2.any (isN x)), .bl (og3.any (isN x))]) hl0
    have L3 : (upd (upd (upd (upd (upd (upd (upd (upd H t0 (.tup (og0.map fun y => V.ref (He.ga K y)))) l (.lst [.bl (og0.any (isN x))])) t1 (.tup (og1.map fun y => V.ref (He.ga K y)))) l (.lst [.bl (og0.any (isN x)), .bl (og1.any (isN x))])) t2 (.tup (og2.map fun y => V.ref (He.ga K y)))) l (.lst [.bl (og0.any (isN x)), .bl (og1.any (isN x)), .bl (og2.any (isN x))])) t3 (.tup (og3.map fun y => V.ref (He.ga K y)))) l (.lst [.bl (og0.any (isN x)), .bl (og1.any (isN x)), .bl (og2.any (isN x)), .bl (og3.any (isN x))])) l = some (.lst [.bl (og0.any (isN x)), .bl (og1.any (isN x)), .bl (og2.any (isN x)), .bl (og3.any (isN x))]) := upd_same
    refine ⟨_, rfl, l, [.bl (og0.any (isN x)), .bl (og1.any (isN x)), .bl (og2.any (isN x)), .bl (og3.any (isN x))], rfl, .inl (SqL.of L3), rfl, rfl, ?_⟩
    have eq : inV (.bl true) [.bl (og0.any (isN x)), .bl (og1.any (isN x)), .bl (og2.any (isN x)), .bl (og3.any (isN x))] = others.any (isN x) := by
      have eo : others = og0 ++ og1 ++ og2 ++ og3 := rfl
      rw [eo]
      simp only [List.any_append]
      show ((og0.any (isN x) == true) || ((og1.any (isN x) == true) || ((og2.any (isN x) == true) || ((og3.any (isN x) == true) || false)))) = _
      simp [Bool.or_assoc]
    show Q (.bl (inV (.bl true) [.bl (og0.any (isN x)), .bl (og1.any (isN x)), .bl (og2.any (isN x)), .bl (og3.any (isN x))])) _
    rw [eq]
    exact k _ X3
end
end ER
set_option Elab.async false
set_option linter.all false
set_option maxRecDepth 100000
set_option maxHeartbeats 4000000
namespace ER
open PySem PySem.Spec PyProof.Rows L2

theorem AllE.pushC {K : PySem.W.Frag} {H H' : Hp} {as : List (Addr × Str)} {a : Addr} {n : Str} (h : AllE K H as) (x : Ext H H') (e : Er H' a (He.ga K n)) : AllE K H' ((a, n) :: as) := fun q m => by
  rcases List.mem_cons.mp m with m | m
  · cases m
    exact e
  · exact (h q m).ext x
theorem AllE.rev {K : PySem.W.Frag} {H : Hp} {as : List (Addr × Str)} (h : AllE K H as) : AllE K H as.reverse := fun q m => h q (List.mem_reverse.mp m)

def made : List Str := (["BadOther", "BadFacts", "BadEntry", "BadHeld", "BadPapers", "BadResult", "BadMany", "BadExpression", "BadValues", "BadProcs", "BadName", "BadProcedure", "BadProgram", "BadExpressionText", "BadProgramText", "BadLine", "BadPoint", "BadInputs", "BadStanding", "BadChoice"] : List Str) ++ (["BadChoices", "BadMost", "BadArgs", "BadAnswer", "BadPaperText", "BadTold", "BadOrder", "BadPlace", "BadSpot", "BadLineNumber", "BadRuns", "Ended"] : List Str)
def spOthers (K : PySem.W.Frag) : Sp := fun vs H Q _ => ∃ y : V, vs = [y] ∧ ∀ (H' : Hp) (p : Addr) (as : List (Addr × Str)), Ext H H' → H p = none → H' p = some (.lst (as.map fun q => V.ref q.1)) → as.map (·.2) = made → AllE K H' as → Q (.ref p) H'
theorem scOthers : FnScope ["x", "told"] ["x"] (defScope sOthers) := ⟨rfl, rfl, rfl, by decide +kernel, rfl, by decide +kernel, by decide +kernel⟩
section
variable {P : Program} {w : World} {K : PySem.W.Frag} {mg : Str → Option Value} {base : Heap} {f : Addr} {fd : FuncData}
theorem ok_others (F : FnP K "_law_others" sOthers f fd) (W : Wd P w K mg base) : FnOk P w K mg base CX0 3 f fd ["x"] (spOthers K) := by
  refine F.ok scOthers (fun vs H Q E h => ?_) (fun cdv A outer s H vs Q E hr h => ⟨_, PSs.nox (
      pss_cons (ps_set (i := 1) scOthers.nd rfl (.inl rfl) (pe_lst (pa_cons (W.pe1 (x := "BadOther") (f := "other") (by decide +kernel) (by decide +kernel) hr rfl (pv 0) mono_var) (pa_cons (W.pe1 (x := "BadFacts") (f := "facts") (by decide +kernel) (by decide +kernel) hr rfl (pv 0) mono_var) (pa_cons (W.pe1 (x := "BadEntry") (f := "entry") (by decide +kernel) (by decide +kernel) hr rfl (pv 0) mono_var) (pa_cons (W.pe1 (x := "BadHeld") (f := "held") (by decide +kernel) (by decide +kernel) hr rfl (pv 0) mono_var) (pa_cons (W.pe1 (x := "BadPapers") (f := "index") (by decide +kernel) (by decide +kernel) hr rfl (pv 0) mono_var) (pa_cons (W.pe1 (x := "BadResult") (f := "number") (by decide +kernel) (by decide +kernel) hr rfl (pv 0) mono_var) (pa_cons (W.pe1 (x := "BadMany") (f := "many") (by decide +kernel) (by decide +kernel) hr rfl (pv 0) mono_var) (pa_cons (W.pe1 (x := "BadExpression") (f := "expression") (by decide +kernel) (by decide +kernel) hr rfl (pv 0) mono_var) pa_nil))))))))))
      (pss_cons (ps_expr (pe_bm PySem.F.plainAttrs_list PySem.F.slot_list_extend PySem.F.type_list_extend mt_extend (pv 1) (pa_cons (pe_lst (pa_cons (W.pe1 (x := "BadValues") (f := "given") (by decide +kernel) (by decide +kernel) hr rfl (pv 0) mono_var) (pa_cons (W.pe1 (x := "BadProcs") (f := "index") (by decide +kernel) (by decide +kernel) hr rfl (pv 0) mono_var) (pa_cons (W.pe1 (x := "BadName") (f := "f") (by decide +kernel) (by decide +kernel) hr rfl (pv 0) mono_var) (pa_cons (W.pe1 (x := "BadProcedure") (f := "procedure") (by decide +kernel) (by decide +kernel) hr rfl (pv 0) mono_var) (pa_cons (W.pe1 (x := "BadProgram") (f := "program") (by decide +kernel) (by decide +kernel) hr rfl (pv 0) mono_var) (pa_cons (W.pe1 (x := "BadExpressionText") (f := "text") (by decide +kernel) (by decide +kernel) hr rfl (pv 0) mono_var) (pa_cons (W.pe1 (x := "BadProgramText") (f := "line") (by decide +kernel) (by decide +kernel) hr rfl (pv 0) mono_var) (pa_cons (W.pe1 (x := "BadLine") (f := "line") (by decide +kernel) (by decide +kernel) hr rfl (pv 0) mono_var) pa_nil))))))))) pa_nil)))
      (pss_cons (ps_expr (pe_bm PySem.F.plainAttrs_list PySem.F.slot_list_extend PySem.F.type_list_extend mt_extend (pv 1) (pa_cons (pe_lst (pa_cons (W.pe1 (x := "BadPoint") (f := "point") (by decide +kernel) (by decide +kernel) hr rfl (pv 0) mono_var) (pa_cons (W.pe1 (x := "BadInputs") (f := "inputs") (by decide +kernel) (by decide +kernel) hr rfl (pv 0) mono_var) (pa_cons (W.pe1 (x := "BadStanding") (f := "standing") (by decide +kernel) (by decide +kernel) hr rfl (pv 0) mono_var) (pa_cons (W.pe1 (x := "BadChoice") (f := "choice") (by decide +kernel) (by decide +kernel) hr rfl (pv 0) mono_var) (pa_cons (W.pe1 (x := "BadChoices") (f := "index") (by decide +kernel) (by decide +kernel) hr rfl (pv 0) mono_var) (pa_cons (W.pe1 (x := "BadMost") (f := "most") (by decide +kernel) (by decide +kernel) hr rfl (pv 0) mono_var) (pa_cons (W.pe1 (x := "BadArgs") (f := "given") (by decide +kernel) (by decide +kernel) hr rfl (pv 0) mono_var) (pa_cons (W.pe1 (x := "BadAnswer") (f := "answer") (by decide +kernel) (by decide +kernel) hr rfl (pv 0) mono_var) pa_nil))))))))) pa_nil)))
      (pss_cons (ps_expr (pe_bm PySem.F.plainAttrs_list PySem.F.slot_list_extend PySem.F.type_list_extend mt_extend (pv 1) (pa_cons (pe_lst (pa_cons (W.pe1 (x := "BadPaperText") (f := "line") (by decide +kernel) (by decide +kernel) hr rfl (pv 0) mono_var) (pa_cons (W.pe1 (x := "BadTold") (f := "told") (by decide +kernel) (by decide +kernel) hr rfl (pv 0) mono_var) (pa_cons (W.pe1 (x := "BadOrder") (f := "index") (by decide +kernel) (by decide +kernel) hr rfl (pv 0) mono_var) (pa_cons (W.pe1 (x := "BadPlace") (f := "place") (by decide +kernel) (by decide +kernel) hr rfl (pv 0) mono_var) (pa_cons (pe2 W.sp (W.ec "BadSpot" (by decide +kernel)) (W.gl "BadSpot" (by decide +kernel)) hr rfl (pv 0) (pv 0) mono_var mono_var) (pa_cons (W.pe1 (x := "BadLineNumber") (f := "line") (by decide +kernel) (by decide +kernel) hr rfl (pv 0) mono_var) (pa_cons (W.pe1 (x := "BadRuns") (f := "index") (by decide +kernel) (by decide +kernel) hr rfl (pv 0) mono_var) (pa_cons (W.pe1 (x := "Ended") (f := "outcome") (by decide +kernel) (by decide +kernel) hr rfl (pv 0) mono_var) pa_nil))))))))) pa_nil)))
      (pss_one (ps_ret (pv 1))))))), ?_⟩)
  · obtain ⟨y, rfl, _⟩ := h
    rfl
  · obtain ⟨y, rfl, k⟩ := h
    have A0 : AllE K H [] := AllE.nil
    have X0 : Ext H H := Ext.refl
    refine ⟨_, rfl, fun H1 a1 x1 n1 e1 => ?_⟩
    have A1 := A0.pushC x1 e1.er
    have X1 := X0.trans x1
    refine ⟨_, rfl, fun H2 a2 x2 n2 e2 => ?_⟩
    have A2 := A1.pushC x2 e2.er
    have X2 := X1.trans x2
    refine ⟨_, rfl, fun H3 a3 x3 n3 e3 => ?_⟩
    have A3 := A2.pushC x3 e3.er
    have X3 := X2.trans x3
    refine ⟨_, rfl, fun H4 a4 x4 n4 e4 => ?_⟩
    have A4 := A3.pushC x4 e4.er
    have X4 := X3.trans x4
    refine ⟨_, rfl, fun H5 a5 x5 n5 e5 => ?_⟩
    have A5 := A4.pushC x5 e5.er
    have X5 := X4.trans x5
    refine ⟨_, rfl, fun H6 a6 x6 n6 e6 => ?_⟩
    have A6 := A5.pushC x6 e6.er
    have X6 := X5.trans x6
    refine ⟨_, rfl, fun H7 a7 x7 n7 e7 => ?_⟩
    have A7 := A6.pushC x7 e7.er
    have X7 := X6.trans x7
    refine ⟨_, rfl, fun H8 a8 x8 n8 e8 => ?_⟩
    have A8 := A7.pushC x8 e8.er
    have X8 := X7.trans x8
    refine ⟨(by show 8 ≤ sizeLine; decide), fun l nl => ?_⟩
    have hl0 : H l = none := X8.none nl
    have A9 := A8.ext (Ext.new (o := .lst [V.ref a1, V.ref a2, V.ref a3, V.ref a4, V.ref a5, V.ref a6, V.ref a7, V.ref a8]) nl)
    have X9 := X8.trans (Ext.new (o := .lst [V.ref a1, V.ref a2, V.ref a3, V.ref a4, V.ref a5, V.ref a6, V.ref a7, V.ref a8]) nl)
    have L9 : (upd H8 l (.lst [V.ref a1, V.ref a2, V.ref a3, V.ref a4, V.ref a5, V.ref a6, V.ref a7, V.ref a8])) l = some (.lst [V.ref a1, V.ref a2, V.ref a3, V.ref a4, V.ref a5, V.ref a6, V.ref a7, V.ref a8]) := upd_same
    refine ⟨_, rfl, .inl ⟨rfl, _, SqL.of L9⟩, ?_⟩
    refine ⟨_, rfl, fun H10 a10 x10 n10 e10 => ?_⟩
    have A10 := A9.pushC x10 e10.er
    have X10 := X9.trans x10
    refine ⟨_, rfl, fun H11 a11 x11 n11 e11 => ?_⟩
    have A11 := A10.pushC x11 e11.er
    have X11 := X10.trans x11
    refine ⟨_, rfl, fun H12 a12 x12 n12 e12 => ?_⟩
    have A12 := A11.pushC x12 e12.er
    have X12 := X11.trans x12
    refine ⟨_, rfl, fun H13 a13 x13 n13 e13 => ?_⟩
    have A13 := A12.pushC x13 e13.er
    have X13 := X12.trans x13
    refine ⟨_, rfl, fun H14 a14 x14 n14 e14 => ?_⟩
    have A14 := A13.pushC x14 e14.er
    have X14 := X13.trans x14
    refine ⟨_, rfl, fun H15 a15 x15 n15 e15 => ?_⟩
    have A15 := A14.pushC x15 e15.er
    have X15 := X14.trans x15
    refine ⟨_, rfl, fun H16 a16 x16 n16 e16 => ?_⟩
    have A16 := A15.pushC x16 e16.er
    have X16 := X15.trans x16
    refine ⟨_, rfl, fun H17 a17 x17 n17 e17 => ?_⟩
    have A17 := A16.pushC x17 e17.er
    have X17 := X16.trans x17
    have M17 := ((((((((x10).trans x11).trans x12).trans x13).trans x14).trans x15).trans x16).trans x17) _ _ L9
    refine ⟨(by show 8 ≤ sizeLine; decide), fun u17 nu17 => ?_⟩
    have LL17 : (upd H17 u17 (.lst [V.ref a10, V.ref a11, V.ref a12, V.ref a13, V.ref a14, V.ref a15, V.ref a16, V.ref a17])) l = some (.lst [V.ref a1, V.ref a2, V.ref a3, V.ref a4, V.ref a5, V.ref a6, V.ref a7, V.ref a8]) := (upd_ne (ne_of_none M17 nu17)).trans M17
    refine ⟨l, u17, _, _, rfl, rfl, LL17, upd_same, (by show 16 ≤ sizeLine; decide), ?_⟩
    have A18 := (A17.ext (Ext.new (o := .lst [V.ref a10, V.ref a11, V.ref a12, V.ref a13, V.ref a14, V.ref a15, V.ref a16, V.ref a17]) nu17)).updl (ys := [V.ref a1, V.ref a2, V.ref a3, V.ref a4, V.ref a5, V.ref a6, V.ref a7, V.ref a8] ++ [V.ref a10, V.ref a11, V.ref a12, V.ref a13, V.ref a14, V.ref a15, V.ref a16, V.ref a17]) LL17
    have X18 := (X17.trans (Ext.new (o := .lst [V.ref a10, V.ref a11, V.ref a12, V.ref a13, V.ref a14, V.ref a15, V.ref a16, V.ref a17]) nu17)).at (o := .lst ([V.ref a1, V.ref a2, V.ref a3, V.ref a4, V.ref a5, V.ref a6, V.ref a7, V.ref a8] ++ [V.ref a10, V.ref a11, V.ref a12, V.ref a13, V.ref a14, V.ref a15, V.ref a16, V.ref a17])) hl0
    have L18 : (upd (upd H17 u17 (.lst [V.ref a10, V.ref a11, V.ref a12, V.ref a13, V.ref a14, V.ref a15, V.ref a16, V.ref a17])) l (.lst ([V.ref a1, V.ref a2, V.ref a3, V.ref a4, V.ref a5, V.ref a6, V.ref a7, V.ref a8] ++ [V.ref a10, V.ref a11, V.ref a12, V.ref a13, V.ref a14, V.ref a15, V.ref a16, V.ref a17]))) l = some (.lst ([V.ref a1, V.ref a2, V.ref a3, V.ref a4, V.ref a5, V.ref a6, V.ref a7, V.ref a8] ++ [V.ref a10, V.ref a11, V.ref a12, V.ref a13, V.ref a14, V.ref a15, V.ref a16, V.ref a17])) := upd_same
    refine ⟨_, rfl, .inl ⟨rfl, _, SqL.of L18⟩, ?_⟩
    refine ⟨_, rfl, fun H19 a19 x19 n19 e19 => ?_⟩
    have A19 := A18.pushC x19 e19.er
    have X19 := X18.trans x19
    refine ⟨_, rfl, fun H20 a20 x20 n20 e20 => ?_⟩
    have A20 := A19.pushC x20 e20.er
    have X20 := X19.trans x20
    refine ⟨_, rfl, fun H21 a21 x21 n21 e21 => ?_⟩
    have A21 := A20.pushC x21 e21.er
    have X21 := X20.trans x21
    refine ⟨_, rfl, fun H22 a22 x22 n22 e22 => ?_⟩
    have A22 := A21.pushC x22 e22.er
    have X22 := X21.trans x22
    refine ⟨_, rfl, fun H23 a23 x23 n23 e23 => ?_⟩
    have A23 := A22.pushC x23 e23.er
    have X23 := X22.trans x23
    refine ⟨_, rfl, fun H24 a24 x24 n24 e24 => ?_⟩
    have A24 := A23.pushC x24 e24.er
    have X24 := X23.trans x24
    refine ⟨_, rfl, fun H25 a25 x25 n25 e25 => ?_⟩
    have A25 := A24.pushC x25 e25.er
    have X25 := X24.trans x25
    refine ⟨_, rfl, fun H26 a26 x26 n26 e26 => ?_⟩
    have A26 := A25.pushC x26 e26.er
    have X26 := X25.trans x26
    have M26 := ((((((((x19).trans x20).trans x21).trans x22).trans x23).trans x24).trans x25).trans x26) _ _ L18
    refine ⟨(by show 8 ≤ sizeLine; decide), fun u26 nu26 => ?_⟩
    have LL26 : (upd H26 u26 (.lst [V.ref a19, V.ref a20, V.ref a21, V.ref a22, V.ref a23, V.ref a24, V.ref a25, V.ref a26])) l = some (.lst [V.ref a1, V.ref a2, V.ref a3, V.ref a4, V.ref a5, V.ref a6, V.ref a7, V.ref a8, V.ref a10, V.ref a11, V.ref a12, V.ref a13, V.ref a14, V.ref a15, V.ref a16, V.ref a17]) := (upd_ne (ne_of_none M26 nu26)).trans M26
    refine ⟨l, u26, _, _, rfl, rfl, LL26, upd_same, (by show 24 ≤ sizeLine; decide), ?_⟩
    have A27 := (A26.ext (Ext.new (o := .lst [V.ref a19, V.ref a20, V.ref a21, V.ref a22, V.ref a23, V.ref a24, V.ref a25, V.ref a26]) nu26)).updl (ys := [V.ref a1, V.ref a2, V.ref a3, V.ref a4, V.ref a5, V.ref a6, V.ref a7, V.ref a8, V.ref a10, V.ref a11, V.ref a12, V.ref a13, V.ref a14, V.ref a15, V.ref a16, V.ref a17] ++ [V.ref a19, V.ref a20, V.ref a21, V.ref a22, V.ref a23, V.ref a24, V.ref a25, V.ref a26]) LL26
    have X27 := (X26.trans (Ext.new (o := .lst [V.ref a19, V.ref a20, V.ref a21, V.ref a22, V.ref a23, V.ref a24, V.ref a25, V.ref a26]) nu26)).at (o := .lst ([V.ref a1, V.ref a2, V.ref a3, V.ref a4, V.ref a5, V.ref a6, V.ref a7, V.ref a8, V.ref a10, V.ref a11, V.ref a12, V.ref a13, V.ref a14, V.ref a15, V.ref a16, V.ref a17] ++ [V.ref a19, V.ref a20, V.ref a21, V.ref a22, V.ref a23, V.ref a24, V.ref a25, V.ref a26])) hl0
    have L27 : (upd (upd H26 u26 (.lst [V.ref a19, V.ref a20, V.ref a21, V.ref a22, V.ref a23, V.ref a24, V.ref a25, V.ref a26])) l (.lst ([V.ref a1, V.ref a2, V.ref a3, V.ref a4, V.ref a5, V.ref a6, V.ref a7, V.ref a8, V.ref a10, V.ref a11, V.ref a12, V.ref a13, V.ref a14, V.ref a15, V.ref a16, V.ref a17] ++ [V.ref a19, V.ref a20, V.ref a21, V.ref a22, V.ref a23, V.ref a24, V.ref a25, V.ref a26]))) l = some (.lst ([V.ref a1, V.ref a2, V.ref a3, V.ref a4, V.ref a5, V.ref a6, V.ref a7, V.ref a8, V.ref a10, V.ref a11, V.ref a12, V.ref a13, V.ref a14, V.ref a15, V.ref a16, V.ref a17] ++ [V.ref a19, V.ref a20, V.ref a21, V.ref a22, V.ref a23, V.ref a24, V.ref a25, V.ref a26])) := upd_same
    refine ⟨_, rfl, .inl ⟨rfl, _, SqL.of L27⟩, ?_⟩
    refine ⟨_, rfl, fun H28 a28 x28 n28 e28 => ?_⟩
    have A28 := A27.pushC x28 e28.er
    have X28 := X27.trans x28
    refine ⟨_, rfl, fun H29 a29 x29 n29 e29 => ?_⟩
    have A29 := A28.pushC x29 e29.er
    have X29 := X28.trans x29
    refine ⟨_, rfl, fun H30 a30 x30 n30 e30 => ?_⟩
    have A30 := A29.pushC x30 e30.er
    have X30 := X29.trans x30
    refine ⟨_, rfl, fun H31 a31 x31 n31 e31 => ?_⟩
    have A31 := A30.pushC x31 e31.er
    have X31 := X30.trans x31
    refine ⟨_, rfl, _, rfl, fun H32 a32 x32 n32 e32 => ?_⟩
    have A32 := A31.pushC x32 e32
    have X32 := X31.trans x32
    refine ⟨_, rfl, fun H33 a33 x33 n33 e33 => ?_⟩
    have A33 := A32.pushC x33 e33.er
    have X33 := X32.trans x33
    refine ⟨_, rfl, fun H34 a34 x34 n34 e34 => ?_⟩
    have A34 := A33.pushC x34 e34.er
    have X34 := X33.trans x34
    refine ⟨_, rfl, fun H35 a35 x35 n35 e35 => ?_⟩
    have A35 := A34.pushC x35 e35.er
    have X35 := X34.trans x35
    have M35 := ((((((((x28).trans x29).trans x30).trans x31).trans x32).trans x33).trans x34).trans x35) _ _ L27
    refine ⟨(by show 8 ≤ sizeLine; decide), fun u35 nu35 => ?_⟩
    have LL35 : (upd H35 u35 (.lst [V.ref a28, V.ref a29, V.ref a30, V.ref a31, V.ref a32, V.ref a33, V.ref a34, V.ref a35])) l = some (.lst [V.ref a1, V.ref a2, V.ref a3, V.ref a4, V.ref a5, V.ref a6, V.ref a7, V.ref a8, V.ref a10, V.ref a11, V.ref a12, V.ref a13, V.ref a14, V.ref a15, V.ref a16, V.ref a17, V.ref a19, V.ref a20, V.ref a21, V.ref a22, V.ref a23, V.ref a24, V.ref a25, V.ref a26]) := (upd_ne (ne_of_none M35 nu35)).trans M35
    refine ⟨l, u35, _, _, rfl, rfl, LL35, upd_same, (by show 32 ≤ sizeLine; decide), ?_⟩
    have A36 := (A35.ext (Ext.new (o := .lst [V.ref a28, V.ref a29, V.ref a30, V.ref a31, V.ref a32, V.ref a33, V.ref a34, V.ref a35]) nu35)).updl (ys := [V.ref a1, V.ref a2, V.ref a3, V.ref a4, V.ref a5, V.ref a6, V.ref a7, V.ref a8, V.ref a10, V.ref a11, V.ref a12, V.ref a13, V.ref a14, V.ref a15, V.ref a16, V.ref a17, V.ref a19, V.ref a20, V.ref a21, V.ref a22, V.ref a23, V.ref a24, V.ref a25, V.ref a26] ++ [V.ref a28, V.ref a29, V.ref a30, V.ref a31, V.ref a32, V.ref a33, V.ref a34, V.ref a35]) LL35
    have X36 := (X35.trans (Ext.new (o := .lst [V.ref a28, V.ref a29, V.ref a30, V.ref a31, V.ref a32, V.ref a33, V.ref a34, V.ref a35]) nu35)).at (o := .lst ([V.ref a1, V.ref a2, V.ref a3, V.ref a4, V.ref a5, V.ref a6, V.ref a7, V.ref a8, V.ref a10, V.ref a11, V.ref a12, V.ref a13, V.ref a14, V.ref a15, V.ref a16, V.ref a17, V.ref a19, V.ref a20, V.ref a21, V.ref a22, V.ref a23, V.ref a24, V.ref a25, V.ref a26] ++ [V.ref a28, V.ref a29, V.ref a30, V.ref a31, V.ref a32, V.ref a33, V.ref a34, V.ref a35])) hl0
    have L36 : (upd (upd H35 u35 (.lst [V.ref a28, V.ref a29, V.ref a30, V.ref a31, V.ref a32, V.ref a33, V.ref a34, V.ref a35])) l (.lst ([V.ref a1, V.ref a2, V.ref a3, V.ref a4, V.ref a5, V.ref a6, V.ref a7, V.ref a8, V.ref a10, V.ref a11, V.ref a12, V.ref a13, V.ref a14, V.ref a15, V.ref a16, V.ref a17, V.ref a19, V.ref a20, V.ref a21, V.ref a22, V.ref a23, V.ref a24, V.ref a25, V.ref a26] ++ [V.ref a28, V.ref a29, V.ref a30, V.ref a31, V.ref a32, V.ref a33, V.ref a34, V.ref a35]))) l = some (.lst ([V.ref a1, V.ref a2, V.ref a3, V.ref a4, V.ref a5, V.ref a6, V.ref a7, V.ref a8, V.ref a10, V.ref a11, V.ref a12, V.ref a13, V.ref a14, V.ref a15, V.ref a16, V.ref a17, V.ref a19, V.ref a20, V.ref a21, V.ref a22, V.ref a23, V.ref a24, V.ref a25, V.ref a26] ++ [V.ref a28, V.ref a29, V.ref a30, V.ref a31, V.ref a32, V.ref a33, V.ref a34, V.ref a35])) := upd_same
    have AF : AllE K _ (([(a35, ("Ended" : Str)), (a34, ("BadRuns" : Str)), (a33, ("BadLineNumber" : Str)), (a32, ("BadSpot" : Str)), (a31, ("BadPlace" : Str)), (a30, ("BadOrder" : Str)), (a29, ("BadTold" : Str)), (a28, ("BadPaperText" : Str)), (a26, ("BadAnswer" : Str)), (a25, ("BadArgs" : Str)), (a24, ("BadMost" : Str)), (a23, ("BadChoices" : Str)), (a22, ("BadChoice" : Str)), (a21, ("BadStanding" : Str)), (a20, ("BadInputs" : Str)), (a19, ("BadPoint" : Str)), (a17, ("BadLine" : Str)), (a16, ("BadProgramText" : Str)), (a15, ("BadExpressionText" : Str)), (a14, ("BadProgram" : Str)), (a13, ("BadProcedure" : Str)), (a12, ("BadName" : Str)), (a11, ("BadProcs" : Str)), (a10, ("BadValues" : Str)), (a8, ("BadExpression" : Str)), (a7, ("BadMany" : Str)), (a6, ("BadResult" : Str)), (a5, ("BadPapers" : Str)), (a4, ("BadHeld" : Str)), (a3, ("BadEntry" : Str)), (a2, ("BadFacts" : Str)), (a1, ("BadOther" : Str))] : List (Addr × Str))).reverse := AllE.rev A36
    have NF : (([(a35, ("Ended" : Str)), (a34, ("BadRuns" : Str)), (a33, ("BadLineNumber" : Str)), (a32, ("BadSpot" : Str)), (a31, ("BadPlace" : Str)), (a30, ("BadOrder" : Str)), (a29, ("BadTold" : Str)), (a28, ("BadPaperText" : Str)), (a26, ("BadAnswer" : Str)), (a25, ("BadArgs" : Str)), (a24, ("BadMost" : Str)), (a23, ("BadChoices" : Str)), (a22, ("BadChoice" : Str)), (a21, ("BadStanding" : Str)), (a20, ("BadInputs" : Str)), (a19, ("BadPoint" : Str)), (a17, ("BadLine" : Str)), (a16, ("BadProgramText" : Str)), (a15, ("BadExpressionText" : Str)), (a14, ("BadProgram" : Str)), (a13, ("BadProcedure" : Str)), (a12, ("BadName" : Str)), (a11, ("BadProcs" : Str)), (a10, ("BadValues" : Str)), (a8, ("BadExpression" : Str)), (a7, ("BadMany" : Str)), (a6, ("BadResult" : Str)), (a5, ("BadPapers" : Str)), (a4, ("BadHeld" : Str)), (a3, ("BadEntry" : Str)), (a2, ("BadFacts" : Str)), (a1, ("BadOther" : Str))] : List (Addr × Str))).reverse.map (·.2) = made := rfl
    refine ⟨_, rfl, k _ l (([(a35, ("Ended" : Str)), (a34, ("BadRuns" : Str)), (a33, ("BadLineNumber" : Str)), (a32, ("BadSpot" : Str)), (a31, ("BadPlace" : Str)), (a30, ("BadOrder" : Str)), (a29, ("BadTold" : Str)), (a28, ("BadPaperText" : Str)), (a26, ("BadAnswer" : Str)), (a25, ("BadArgs" : Str)), (a24, ("BadMost" : Str)), (a23, ("BadChoices" : Str)), (a22, ("BadChoice" : Str)), (a21, ("BadStanding" : Str)), (a20, ("BadInputs" : Str)), (a19, ("BadPoint" : Str)), (a17, ("BadLine" : Str)), (a16, ("BadProgramText" : Str)), (a15, ("BadExpressionText" : Str)), (a14, ("BadProgram" : Str)), (a13, ("BadProcedure" : Str)), (a12, ("BadName" : Str)), (a11, ("BadProcs" : Str)), (a10, ("BadValues" : Str)), (a8, ("BadExpression" : Str)), (a7, ("BadMany" : Str)), (a6, ("BadResult" : Str)), (a5, ("BadPapers" : Str)), (a4, ("BadHeld" : Str)), (a3, ("BadEntry" : Str)), (a2, ("BadFacts" : Str)), (a1, ("BadOther" : Str))] : List (Addr × Str))).reverse X36 hl0 ?_ NF AF⟩
    exact L36
end
end ER
set_option Elab.async false
set_option linter.all false
set_option maxRecDepth 100000
set_option maxHeartbeats 4000000
namespace ER
open PySem PySem.Spec PyProof.Rows L2
abbrev sMadeA : Stmt := top 52
abbrev sMade : Stmt := top 53
/-- what the makers give: an error of the i-th class, and what it keeps -/
def spMade (K : PySem.W.Frag) (lo hi : Nat) : Sp := fun vs H Q _ => ∃ (i : Nat) (y : V), vs = [.int (i : Nat), y] ∧ lo ≤ i ∧ i < hi ∧ ∀ c, kinds[i]? = some c → ∀ (H' : Hp) (t e : Addr), Ext H H' →
  H' t = some (.tup [.ref e, y]) → Er H' e (He.ga K c) → Q (.ref t) H'
def tMade (K : PySem.W.Frag) (x f : Str) : TS := tSeq (tAsg (tMk1 (He.ga K x) f (tVar 1)) (gName 2)) (tRet (tTup (tCons (tVar 2) (tCons (tEf K f (tVar 2)) tNil))))
theorem pure_made {K : PySem.W.Frag} {x f : Str} {bm : List Value} (T : EC K (He.ga K x) bm) (no : PySem.W.findIn K (.ref (He.ga K x)) f = some none) {i y : V} {D : Ends} {u : Option V} {H : Hp}
    (k : ∀ (H' : Hp) (t e : Addr), Ext H H' → H' t = some (.tup [.ref e, y]) → Er H' e (He.ga K x) → D.rt (.ref t) H') :
    tMade K x f D [some i, some y, u] H := by
  refine ⟨_, rfl, fun H1 a1 x1 n1 e1 => ?_⟩
  obtain ⟨dx, g1, g2⟩ := id e1
  refine ⟨_, rfl, _, rfl, a1, _, dx, bm, _, y, rfl, T, no, g1, g2, ?_, (by show 2 ≤ sizeLine; decide), fun t nt => ?_⟩
  · rw [lookup_put, if_pos rfl]
  · exact k _ t a1 (x1.trans (Ext.new nt)) upd_same ((e1.ext (Ext.new nt)).er)
theorem scMadeA : FnScope ["at", "x", "made"] ["at", "x"] (defScope sMadeA) := ⟨rfl, rfl, rfl, by decide +kernel, rfl, by decide +kernel, by decide +kernel⟩
theorem scMade : FnScope ["at", "x"] ["at", "x"] (defScope sMade) := ⟨rfl, rfl, rfl, by decide +kernel, rfl, by decide +kernel, by decide +kernel⟩
section
variable {P : Program} {w : World} {K : PySem.W.Frag} {mg : Str → Option Value} {base : Heap} {f fA : Addr} {fd fdA : FuncData}
theorem ok_made_a (F : FnP K "_law_made_a" sMadeA f fd) (W : Wd P w K mg base) : FnOk P w K mg base CX0 3 f fd ["at", "x"] (spMade K 0 6) := by
  refine F.ok scMadeA (fun vs H Q E h => ?_) (fun cdv A outer s H vs Q E hr h => ⟨_, PSs.nox (pss_cons (ps_if (pt_cmpR op_eq (pv 0) pe_int (nomark _)) (pss_cons (ps_set (i := 2) scMadeA.nd rfl (.inl rfl) (W.pe1 (x := "BadWay") (f := "way") (by decide +kernel) (by decide +kernel) hr rfl (pv 1) mono_var)) (pss_one (ps_ret (pe_tup (pa_cons (pv 2) (pa_cons (pe_ef (pv 2)) pa_nil)))))) pss_nil)
      (pss_cons (ps_if (pt_cmpR op_eq (pv 0) pe_int (nomark _)) (pss_cons (ps_set (i := 2) scMadeA.nd rfl (.inl rfl) (W.pe1k (x := "CannotPutIn") (f := "f") (by decide +kernel) (by decide +kernel) hr rfl (pv 1) mono_var)) (pss_one (ps_ret (pe_tup (pa_cons (pv 2) (pa_cons (pe_ef (pv 2)) pa_nil)))))) pss_nil)
      (pss_cons (ps_if (pt_cmpR op_eq (pv 0) pe_int (nomark _)) (pss_cons (ps_set (i := 2) scMadeA.nd rfl (.inl rfl) (W.pe1 (x := "BadEdit") (f := "edit") (by decide +kernel) (by decide +kernel) hr rfl (pv 1) mono_var)) (pss_one (ps_ret (pe_tup (pa_cons (pv 2) (pa_cons (pe_ef (pv 2)) pa_nil)))))) pss_nil)
      (pss_cons (ps_if (pt_cmpR op_eq (pv 0) pe_int (nomark _)) (pss_cons (ps_set (i := 2) scMadeA.nd rfl (.inl rfl) (W.pe1 (x := "BadSession") (f := "session") (by decide +kernel) (by decide +kernel) hr rfl (pv 1) mono_var)) (pss_one (ps_ret (pe_tup (pa_cons (pv 2) (pa_cons (pe_ef (pv 2)) pa_nil)))))) pss_nil)
      (pss_cons (ps_if (pt_cmpR op_eq (pv 0) pe_int (nomark _)) (pss_cons (ps_set (i := 2) scMadeA.nd rfl (.inl rfl) (W.pe1k (x := "BadSessionText") (f := "line") (by decide +kernel) (by decide +kernel) hr rfl (pv 1) mono_var)) (pss_one (ps_ret (pe_tup (pa_cons (pv 2) (pa_cons (pe_ef (pv 2)) pa_nil)))))) pss_nil)
      (pss_cons (ps_set (i := 2) scMadeA.nd rfl (.inl rfl) (W.pe1 (x := "BadRoad") (f := "index") (by decide +kernel) (by decide +kernel) hr rfl (pv 1) mono_var)) (pss_one (ps_ret (pe_tup (pa_cons (pv 2) (pa_cons (pe_ef (pv 2)) pa_nil))))))))))), ?_⟩)
  · obtain ⟨i, y, rfl, _⟩ := h
    rfl
  · obtain ⟨i, y, rfl, h1, h2, k⟩ := h
    have hi : i = 0 ∨ i = 1 ∨ i = 2 ∨ i = 3 ∨ i = 4 ∨ i = 5 := by omega
    rcases hi with rfl | rfl | rfl | rfl | rfl | rfl
    · refine ⟨_, rfl, rfl, _, rfl, if_pos_of (by decide) ?_⟩; exact pure_made (f := "way") (W.ec "BadWay" (by decide +kernel)) (W.cr ("BadWay", "way") (by decide +kernel)).no (k "BadWay" rfl)
    · refine ⟨_, rfl, rfl, _, rfl, if_neg_of (by decide) ?_⟩; refine ⟨_, rfl, rfl, _, rfl, if_pos_of (by decide) ?_⟩; exact pure_made (f := "f") (W.ec "CannotPutIn" (by decide +kernel)) (W.cr ("CannotPutIn", "f") (by decide +kernel)).no (k "CannotPutIn" rfl)
    · refine ⟨_, rfl, rfl, _, rfl, if_neg_of (by decide) ?_⟩; refine ⟨_, rfl, rfl, _, rfl, if_neg_of (by decide) ?_⟩; refine ⟨_, rfl, rfl, _, rfl, if_pos_of (by decide) ?_⟩; exact pure_made (f := "edit") (W.ec "BadEdit" (by decide +kernel)) (W.cr ("BadEdit", "edit") (by decide +kernel)).no (k "BadEdit" rfl)
    · refine ⟨_, rfl, rfl, _, rfl, if_neg_of (by decide) ?_⟩; refine ⟨_, rfl, rfl, _, rfl, if_neg_of (by decide) ?_⟩; refine ⟨_, rfl, rfl, _, rfl, if_neg_of (by decide) ?_⟩; refine ⟨_, rfl, rfl, _, rfl, if_pos_of (by decide) ?_⟩; exact pure_made (f := "session") (W.ec "BadSession" (by decide +kernel)) (W.cr ("BadSession", "session") (by decide +kernel)).no (k "BadSession" rfl)
    · refine ⟨_, rfl, rfl, _, rfl, if_neg_of (by decide) ?_⟩; refine ⟨_, rfl, rfl, _, rfl, if_neg_of (by decide) ?_⟩; refine ⟨_, rfl, rfl, _, rfl, if_neg_of (by decide) ?_⟩; refine ⟨_, rfl, rfl, _, rfl, if_neg_of (by decide) ?_⟩; refine ⟨_, rfl, rfl, _, rfl, if_pos_of (by decide) ?_⟩; exact pure_made (f := "line") (W.ec "BadSessionText" (by decide +kernel)) (W.cr ("BadSessionText", "line") (by decide +kernel)).no (k "BadSessionText" rfl)
    · refine ⟨_, rfl, rfl, _, rfl, if_neg_of (by decide) ?_⟩; refine ⟨_, rfl, rfl, _, rfl, if_neg_of (by decide) ?_⟩; refine ⟨_, rfl, rfl, _, rfl, if_neg_of (by decide) ?_⟩; refine ⟨_, rfl, rfl, _, rfl, if_neg_of (by decide) ?_⟩; refine ⟨_, rfl, rfl, _, rfl, if_neg_of (by decide) ?_⟩; exact pure_made (f := "index") (W.ec "BadRoad" (by decide +kernel)) (W.cr ("BadRoad", "index") (by decide +kernel)).no (k "BadRoad" rfl)
theorem ok_made (F : FnP K "_law_made_at" sMade f fd) (FA : FnP K "_law_made_a" sMadeA fA fdA) (gA : mg "_law_made_a" = some (.ref fA)) (W : Wd P w K mg base) : FnOk P w K mg base CX0 4 f fd ["at", "x"] (spMade K 0 8) := by
  have GA := ok_made_a FA W
  have bA : Binds K fdA ["at", "x"] [] := FA.bindsN fun _ _ _ _ _ _ us hl => match us, hl with | [_, _], _ => rfl
  refine F.ok scMade (fun vs H Q E h => ?_) (fun cdv A outer s H vs Q E hr h => ⟨_, PSs.nox (pss_cons (ps_if (pt_cmpR op_lt (pv 0) pe_int (nomark _)) (pss_one (ps_ret (pe_call GA hr rfl gA FA.kp bA .nil pass0 (pa_cons (pv 0) (pa_cons (pv 1) pa_nil))))) pss_nil)
      (pss_one (ps_ret (pe_tup (pa_cons (pe_ix ix_list (pe_lst (pa_cons (W.pe0 (x := "NothingToUndo") (by decide +kernel) (by decide +kernel) rfl) (pa_cons (W.pe0 (x := "NothingToRedo") (by decide +kernel) (by decide +kernel) rfl) pa_nil))) (pe_op op_sub (pv 0) pe_int) (fun _ _ => rfl)) (pa_cons (pv 1) pa_nil)))))), ?_⟩)
  · obtain ⟨i, y, rfl, _⟩ := h
    rfl
  · obtain ⟨i, y, rfl, h1, h2, k⟩ := h
    refine ⟨_, rfl, _, _, rfl, rfl, _, rfl, ?_⟩
    by_cases c : ((i : Nat) : Int) < 6
    · refine if_pos_of (decide_eq_true c) ⟨_, rfl, _, rfl, i, y, rfl, by omega, by omega, k⟩
    · refine if_neg_of (decide_eq_false c) ?_
      intro H1 a1 x1 n1 e1
      intro H2 a2 x2 n2 e2
      refine ⟨(by show 2 ≤ sizeLine; decide), fun l nl => ?_⟩
      have x3 := (x1.trans x2).trans (Ext.new (o := .lst [.ref a1, .ref a2]) nl)
      have hi : i = 6 ∨ i = 7 := by omega
      rcases hi with rfl | rfl
      · refine ⟨_, rfl, _, _, rfl, rfl, l, _, 0, _, rfl, rfl, SqL.of upd_same, rfl, _, rfl, (by show 2 ≤ sizeLine; decide), fun t nt => ?_⟩
        exact k "NothingToUndo" rfl _ t a1 (x3.trans (Ext.new nt)) upd_same (((e1.ext x2).ext (Ext.new nl)).ext (Ext.new nt))
      · refine ⟨_, rfl, _, _, rfl, rfl, l, _, 1, _, rfl, rfl, SqL.of upd_same, rfl, _, rfl, (by show 2 ≤ sizeLine; decide), fun t nt => ?_⟩
        exact k "NothingToRedo" rfl _ t a2 (x3.trans (Ext.new nt)) upd_same ((e2.ext (Ext.new nl)).ext (Ext.new nt))
end
end ER
set_option Elab.async false
set_option linter.all false
set_option maxRecDepth 100000
set_option maxHeartbeats 4000000
namespace ER
open PySem PySem.Spec PyProof.Rows L2 RZ
/-- alike, d deep -/
def Sm : Nat → Hp → V → V → Prop
  | 0, _, v, w => v = w ∧ flatV v = true
  | d + 1, H, v, w => (v = w ∧ flatV v = true) ∨
    (∃ (a b : Addr) (xs ys : List V), v = .ref a ∧ w = .ref b ∧ H a = some (.lst xs) ∧ H b = some (.lst ys) ∧ xs.length = ys.length ∧ xs.length ≤ 100 ∧ ∀ (i : Nat) (x y : V), xs[i]? = some x → ys[i]? = some y → Sm d H x y) ∨
    (∃ (a b : Addr) (xs ys : List V), v = .ref a ∧ w = .ref b ∧ H a = some (.tup xs) ∧ H b = some (.tup ys) ∧ xs.length = ys.length ∧ xs.length ≤ 100 ∧ ∀ (i : Nat) (x y : V), xs[i]? = some x → ys[i]? = some y → Sm d H x y) ∨
    (∃ (a : Addr) (kvs : List (Key × V)), v = .ref a ∧ w = .ref a ∧ d ≠ 0 ∧ H a = some (.dK kvs) ∧ kvs.length ≤ 100 ∧ ∀ kv ∈ kvs, valV kvs kv.1 = some kv.2 ∧ flatV kv.2 = true)
theorem Sm.flat {d : Nat} {H : Hp} {v : V} (h : flatV v = true) : Sm d H v v := by
  cases d with
  | zero => exact ⟨rfl, h⟩
  | succ d => exact .inl ⟨rfl, h⟩
theorem Sm.ext {H H' : Hp} (x : Ext H H') : ∀ {d : Nat} {v w : V}, Sm d H v w → Sm d H' v w
  | 0, _, _, h => h
  | d + 1, v, w, h => by
    rcases h with h | ⟨a, b, xs, ys, h1, h2, h3, h4, h5, h6, h7⟩ | ⟨a, b, xs, ys, h1, h2, h3, h4, h5, h6, h7⟩ | ⟨a, kvs, h1, h2, h3, h4, h5⟩
    · exact .inl h
    · exact .inr (.inl ⟨a, b, xs, ys, h1, h2, x _ _ h3, x _ _ h4, h5, h6, fun i u v a b => (h7 i u v a b).ext x⟩)
    · exact .inr (.inr (.inl ⟨a, b, xs, ys, h1, h2, x _ _ h3, x _ _ h4, h5, h6, fun i u v a b => (h7 i u v a b).ext x⟩))
    · exact .inr (.inr (.inr ⟨a, kvs, h1, h2, h3, x _ _ h4, h5⟩))
def spSame (d : Nat) : Sp := fun vs H Q _ => ∃ v w : V, vs = [v, w] ∧ Sm d H v w ∧ ∀ H', Ext H H' → Q (.bl true) H'
theorem walk_zipT {K : PySem.W.Frag} {a b : Addr} {xs ys : List V} {n : Nat} (h1 : n = xs.length) (h2 : n = ys.length) : Walk (ItzT K a b) n (fun H => SqT K H a xs ∧ SqT K H b ys) (YPair (fun i => xs[i]?) (fun i => ys[i]?)) := by
  refine ⟨fun i H hi q => ?_, fun H q => ⟨xs, ys, q.1, q.2, .inl (by omega)⟩, fun i H v H' _ q y => ?_⟩
  · exact ⟨xs, ys, xs[i]'(by omega), ys[i]'(by omega), q.1, q.2, by simp, by simp⟩
  · obtain ⟨T, x, y, e1, e2, e3, e4, e5⟩ := y
    exact ⟨T, x, y, e1, e2, e3, e4 xs q.1, e5 ys q.2⟩
theorem kLT {K : PySem.W.Frag} {T : String} {r1 r2 : Bool} (h1 : kitB T "list" = some r1) (h2 : kitB T "tuple" = some r2) : PySem.W.kitAny K (.type T) [.type "list", .type "tuple"] = some (r1 || r2) := by
  refine kitAny_cons (kit_ty h1) (fun e => ?_) (fun e => by rw [e]; rfl)
  rw [e]
  exact kitAny_cons (kit_ty h2) (fun e => by rw [e]; rfl) (fun e => by rw [e]; rfl)
theorem scSame : FnScope ["found", "due", "mine", "theirs", "key"] ["found", "due"] (defScope sSame) := ⟨rfl, rfl, rfl, by decide +kernel, rfl, by decide +kernel, by decide +kernel⟩
theorem bls_true : ∀ n : Nat, (List.replicate n true).all id = true
  | 0 => rfl
  | n + 1 => by rw [List.replicate_succ, List.all_cons, bls_true n]; rfl
section
variable {P : Program} {w : World} {K : PySem.W.Frag} {mg : Str → Option Value} {base : Heap} {f : Addr} {fd : FuncData}
/-- the built-in names that the text reads -/
structure Bn (mg : Str → Option Value) : Prop where
  isi : mg "isinstance" = none
  lst : mg "list" = none
  tup : mg "tuple" = none
  dct : mg "dict" = none
  bol : mg "bool" = none
  int : mg "int" = none
  str : mg "str" = none
  len : mg "len" = none
  all : mg "all" = none
  zip : mg "zip" = none
  abs : mg "abs" = none
  max : mg "max" = none
  rng : mg "range" = none
abbrev rIsiK' (K : PySem.W.Frag) := rIsi K
/-- what the last tests say of a flat value: the slots found, due -/
theorem ok_same (F : FnP K "_law_same" sSame f fd) (g : mg "_law_same" = some (.ref f)) (B : Bn mg) : ∀ d : Nat, FnOk P w K mg base CX0 (d + 1) f fd ["found", "due"] (spSame d) := by
  intro d
  have bS : Binds K fd ["found", "due"] [] := F.bindsN fun _ _ _ _ _ _ us hl => match us, hl with | [_, _], _ => rfl
  induction d with
  | zero =>
    refine F.ok scSame (fun vs H Q E h => ?_) (fun cdv A outer s H vs Q E hr h => ⟨_, PSs.nox (
      pss_cons (ps_if (pt_val (pe_callB call_isiT (by rfl) B.isi (by decide +kernel) (pa_cons (pv 1) (pa_cons (pe_tup (pa_cons (pe_bltn (v := .ty "list") (by rfl) B.lst (by decide +kernel) rfl) (pa_cons (pe_bltn (v := .ty "tuple") (by rfl) B.tup (by decide +kernel) rfl) pa_nil))) pa_nil))))
        (pss_cons ps_never (pss_one ps_never)) pss_nil)
      (pss_cons (ps_if (pt_val (pe_callB call_isi (by rfl) B.isi (by decide +kernel) (pa_cons (pv 1) (pa_cons (pe_bltn (v := .ty "dict") (by rfl) B.dct (by decide +kernel) rfl) pa_nil))))
        (pss_cons ps_never (pss_one ps_never)) pss_nil)
      (pss_cons (ps_if (pt_cmpR op_isN (pv 1) pe_non (nomark _)) (pss_one (ps_ret (pe_cmpR op_isN (pv 0) pe_non (nomark _)))) pss_nil)
      (pss_cons (ps_if (pt_val (pe_callB call_isi (by rfl) B.isi (by decide +kernel) (pa_cons (pv 1) (pa_cons (pe_bltn (v := .ty "bool") (by rfl) B.bol (by decide +kernel) rfl) pa_nil))))
        (pss_one (ps_ret (pe_and (pe_callB call_isi (by rfl) B.isi (by decide +kernel) (pa_cons (pv 0) (pa_cons (pe_bltn (v := .ty "bool") (by rfl) B.bol (by decide +kernel) rfl) pa_nil))) (pe_one (pe_cmpR op_eq (pv 0) (pv 1) (nomark _)))))) pss_nil)
      (pss_cons (ps_if (pt_val (pe_callB call_isi (by rfl) B.isi (by decide +kernel) (pa_cons (pv 1) (pa_cons (pe_bltn (v := .ty "int") (by rfl) B.int (by decide +kernel) rfl) pa_nil))))
        (pss_one (ps_ret (pe_and (pe_callB call_isi (by rfl) B.isi (by decide +kernel) (pa_cons (pv 0) (pa_cons (pe_bltn (v := .ty "int") (by rfl) B.int (by decide +kernel) rfl) pa_nil))) (pe_and (pe_not (pe_callB call_isi (by rfl) B.isi (by decide +kernel) (pa_cons (pv 0) (pa_cons (pe_bltn (v := .ty "bool") (by rfl) B.bol (by decide +kernel) rfl) pa_nil)))) (pe_one (pe_cmpR op_eq (pv 0) (pv 1) (nomark _))))))) pss_nil)
      (pss_one (ps_ret (pe_and (pe_callB call_isi (by rfl) B.isi (by decide +kernel) (pa_cons (pv 0) (pa_cons (pe_bltn (v := .ty "str") (by rfl) B.str (by decide +kernel) rfl) pa_nil))) (pe_one (pe_cmpR op_eq (pv 0) (pv 1) (nomark _))))))))))), ?_⟩)
    · obtain ⟨v, w', rfl, _⟩ := h
      rfl
    · obtain ⟨v, _, rfl, ⟨rfl, fv⟩, k⟩ := h
      cases v with
      | non =>
        refine ⟨_, rfl, (by show 2 ≤ sizeLine; decide), fun t nt => ⟨_, t, _, .type "NoneType", _, _, rfl, upd_same, .cons (.ty _) (.cons (.ty _) .nil), .base .non, kLT (r1 := false) (r2 := false) (by decide +kernel) (by decide +kernel), _, rfl, ?_⟩⟩
        refine if_neg_of rfl ⟨_, rfl, _, _, .type "NoneType", _, false, rfl, .ty _, .base .non, kit_ty (by decide +kernel), _, rfl, if_neg_of rfl ?_⟩
        refine ⟨_, rfl, rfl, _, rfl, if_pos_of (by decide) ⟨_, rfl, rfl, k _ (Ext.new nt)⟩⟩
      | bl b =>
        refine ⟨_, rfl, (by show 2 ≤ sizeLine; decide), fun t nt => ⟨_, t, _, .type "bool", _, _, rfl, upd_same, .cons (.ty _) (.cons (.ty _) .nil), .base (.bl _), kLT (r1 := false) (r2 := false) (by decide +kernel) (by decide +kernel), _, rfl, ?_⟩⟩
        refine if_neg_of rfl ⟨_, rfl, _, _, .type "bool", _, false, rfl, .ty _, .base (.bl _), kit_ty (by decide +kernel), _, rfl, if_neg_of rfl ?_⟩
        refine ⟨_, rfl, rfl, _, rfl, if_neg_of (decide_eq_false (fun z => nomatch z)) ?_⟩
        refine ⟨_, rfl, _, _, .type "bool", _, true, rfl, .ty _, .base (.bl _), kit_ty (by decide +kernel), _, rfl, if_pos_of rfl ?_⟩
        refine ⟨_, rfl, _, _, .type "bool", _, true, rfl, .ty _, .base (.bl _), kit_ty (by decide +kernel), _, rfl, if_pos_of rfl ?_⟩
        refine ⟨_, rfl, _, rfl, rfl, ?_⟩
        rw [decide_eq_true (rfl : V.bl b = V.bl b)]
        exact k _ (Ext.new nt)
      | int i =>
        refine ⟨_, rfl, (by show 2 ≤ sizeLine; decide), fun t nt => ⟨_, t, _, .type "int", _, _, rfl, upd_same, .cons (.ty _) (.cons (.ty _) .nil), .base (.int _), kLT (r1 := false) (r2 := false) (by decide +kernel) (by decide +kernel), _, rfl, ?_⟩⟩
        refine if_neg_of rfl ⟨_, rfl, _, _, .type "int", _, false, rfl, .ty _, .base (.int _), kit_ty (by decide +kernel), _, rfl, if_neg_of rfl ?_⟩
        refine ⟨_, rfl, rfl, _, rfl, if_neg_of (decide_eq_false (fun z => nomatch z)) ?_⟩
        refine ⟨_, rfl, _, _, .type "int", _, false, rfl, .ty _, .base (.int _), kit_ty (by decide +kernel), _, rfl, if_neg_of rfl ?_⟩
        refine ⟨_, rfl, _, _, .type "int", _, true, rfl, .ty _, .base (.int _), kit_ty (by decide +kernel), _, rfl, if_pos_of rfl ?_⟩
        refine ⟨_, rfl, _, _, .type "int", _, true, rfl, .ty _, .base (.int _), kit_ty (by decide +kernel), _, rfl, if_pos_of rfl ?_⟩
        refine ⟨_, rfl, _, _, .type "int", _, false, rfl, .ty _, .base (.int _), kit_ty (by decide +kernel), _, rfl, _, rfl, if_pos_of rfl ?_⟩
        refine ⟨_, rfl, _, rfl, rfl, ?_⟩
        rw [decide_eq_true (rfl : V.int i = V.int i)]
        exact k _ (Ext.new nt)
      | str z =>
        refine ⟨_, rfl, (by show 2 ≤ sizeLine; decide), fun t nt => ⟨_, t, _, .type "str", _, _, rfl, upd_same, .cons (.ty _) (.cons (.ty _) .nil), .base (.str _), kLT (r1 := false) (r2 := false) (by decide +kernel) (by decide +kernel), _, rfl, ?_⟩⟩
        refine if_neg_of rfl ⟨_, rfl, _, _, .type "str", _, false, rfl, .ty _, .base (.str _), kit_ty (by decide +kernel), _, rfl, if_neg_of rfl ?_⟩
        refine ⟨_, rfl, rfl, _, rfl, if_neg_of (decide_eq_false (fun z => nomatch z)) ?_⟩
        refine ⟨_, rfl, _, _, .type "str", _, false, rfl, .ty _, .base (.str _), kit_ty (by decide +kernel), _, rfl, if_neg_of rfl ?_⟩
        refine ⟨_, rfl, _, _, .type "str", _, false, rfl, .ty _, .base (.str _), kit_ty (by decide +kernel), _, rfl, if_neg_of rfl ?_⟩
        refine ⟨_, rfl, _, _, .type "str", _, true, rfl, .ty _, .base (.str _), kit_ty (by decide +kernel), _, rfl, if_pos_of rfl ?_⟩
        refine ⟨_, rfl, _, rfl, rfl, ?_⟩
        rw [decide_eq_true (rfl : V.str z = V.str z)]
        exact k _ (Ext.new nt)
      | _ => cases fv
  | succ d ih =>
    refine F.ok scSame (fun vs H Q E h => ?_) (fun cdv A outer s H vs Q E hr h => ⟨_, PSs.nox (
      pss_cons (ps_if (pt_val (pe_callB call_isiT (by rfl) B.isi (by decide +kernel) (pa_cons (pv 1) (pa_cons (pe_tup (pa_cons (pe_bltn (v := .ty "list") (by rfl) B.lst (by decide +kernel) rfl) (pa_cons (pe_bltn (v := .ty "tuple") (by rfl) B.tup (by decide +kernel) rfl) pa_nil))) pa_nil))))
        (pss_cons (ps_if (PW.pt (pw_or (pt_cmpR op_ne (pe_callB call_isi (by rfl) B.isi (by decide +kernel) (pa_cons (pv 0) (pa_cons (pe_bltn (v := .ty "list") (by rfl) B.lst (by decide +kernel) rfl) pa_nil))) (pe_callB call_isi (by rfl) B.isi (by decide +kernel) (pa_cons (pv 1) (pa_cons (pe_bltn (v := .ty "list") (by rfl) B.lst (by decide +kernel) rfl) pa_nil))) (nomark _)) (pw_or1 (pt_cmpR op_ne (pe_callB call_isi (by rfl) B.isi (by decide +kernel) (pa_cons (pv 0) (pa_cons (pe_bltn (v := .ty "tuple") (by rfl) B.tup (by decide +kernel) rfl) pa_nil))) (pe_callB call_isi (by rfl) B.isi (by decide +kernel) (pa_cons (pv 1) (pa_cons (pe_bltn (v := .ty "tuple") (by rfl) B.tup (by decide +kernel) rfl) pa_nil))) (nomark _))))) (pss_one (ps_ret pe_bl)) pss_nil)
          (pss_one (ps_ret (pe_and (pe_cmpR op_eq (pe_callB call_len (by rfl) B.len boot_len (pa_cons (pv 0) pa_nil)) (pe_callB call_len (by rfl) B.len boot_len (pa_cons (pv 1) pa_nil)) (nomark _)) (pe_one (pe_callB (cr_all rfl) (by rfl) B.all (by decide +kernel) (pa_cons (pe_lc (own := [("mine", 2), ("theirs", 3)]) (g := gTup K 2 (gCons (gName 2) (gCons (gName 3) gNil))) (tt := tYes) (te := tCall (spSame d) [] E0 (tCons (tVar 2) (tCons (tVar 3) tNil))) (by rfl) scSame.nd (pi_zipA (by rfl) B.zip (pa_cons (pv 0) (pa_cons (pv 1) pa_nil))) (blkOk_by (own := [("mine", 2), ("theirs", 3)]) (N := ["found", "due", "mine", "theirs", "key"]) (sc := defScope sSame) (by decide +kernel)) (fun _ _ _ _ _ => pg_tup rfl (pgs_cons (pg_name (i := 2) scSame.nd rfl (Or.inl rfl)) (pgs_cons (pg_name (i := 3) scSame.nd rfl (Or.inl rfl)) pgs_nil))) (fun _ _ _ _ _ => pts_nil) (fun _ _ _ _ _ => pe_call ih hr rfl g F.kp bS .nil pass0 (pa_cons (pv 2) (pa_cons (pv 3) pa_nil)))) pa_nil))))))) pss_nil)
      (pss_cons (ps_if (pt_val (pe_callB call_isi (by rfl) B.isi (by decide +kernel) (pa_cons (pv 1) (pa_cons (pe_bltn (v := .ty "dict") (by rfl) B.dct (by decide +kernel) rfl) pa_nil))))
        (pss_cons (ps_if (PW.pt (pw_or (pt_not (pt_val (pe_callB call_isi (by rfl) B.isi (by decide +kernel) (pa_cons (pv 0) (pa_cons (pe_bltn (v := .ty "dict") (by rfl) B.dct (by decide +kernel) rfl) pa_nil))))) (pw_or1 (pt_not (pt_val (pe_call ih hr rfl g F.kp bS .nil pass0 (pa_cons (pe_callTy (call_listD rfl) (by rfl) B.lst (by decide +kernel) (pa_cons (pv 0) pa_nil)) (pa_cons (pe_callTy (call_listD rfl) (by rfl) B.lst (by decide +kernel) (pa_cons (pv 1) pa_nil)) pa_nil)))))))) (pss_one (ps_ret pe_bl)) pss_nil)
          (pss_one (ps_ret (pe_callB (cr_all rfl) (by rfl) B.all (by decide +kernel) (pa_cons (pe_lock (pe_lc (own := [("key", 4)]) (g := gName 4) (tt := tYes) (te := tCall (spSame d) [] E0 (tCons (tDGet (tVar 0) (tVar 4)) (tCons (tDGet (tVar 1) (tVar 4)) tNil))) (by rfl) scSame.nd (pi_keys (pv 1)) (blkOk_by (own := [("key", 4)]) (N := ["found", "due", "mine", "theirs", "key"]) (sc := defScope sSame) (by decide +kernel)) (fun _ _ _ _ _ => pg_name (i := 4) scSame.nd rfl (Or.inl rfl)) (fun _ _ _ _ _ => pts_nil) (fun _ _ _ _ _ => pe_call ih hr rfl g F.kp bS .nil pass0 (pa_cons (pe_dget (hu_of hr) (pv 0) (pv 4) (fun _ _ => rfl)) (pa_cons (pe_dget (hu_of hr) (pv 1) (pv 4) (fun _ _ => rfl)) pa_nil))))) pa_nil))))) pss_nil)
      (pss_cons (ps_if (pt_cmpR op_isN (pv 1) pe_non (nomark _)) (pss_one (ps_ret (pe_cmpR op_isN (pv 0) pe_non (nomark _)))) pss_nil)
      (pss_cons (ps_if (pt_val (pe_callB call_isi (by rfl) B.isi (by decide +kernel) (pa_cons (pv 1) (pa_cons (pe_bltn (v := .ty "bool") (by rfl) B.bol (by decide +kernel) rfl) pa_nil))))
        (pss_one (ps_ret (pe_and (pe_callB call_isi (by rfl) B.isi (by decide +kernel) (pa_cons (pv 0) (pa_cons (pe_bltn (v := .ty "bool") (by rfl) B.bol (by decide +kernel) rfl) pa_nil))) (pe_one (pe_cmpR op_eq (pv 0) (pv 1) (nomark _)))))) pss_nil)
      (pss_cons (ps_if (pt_val (pe_callB call_isi (by rfl) B.isi (by decide +kernel) (pa_cons (pv 1) (pa_cons (pe_bltn (v := .ty "int") (by rfl) B.int (by decide +kernel) rfl) pa_nil))))
        (pss_one (ps_ret (pe_and (pe_callB call_isi (by rfl) B.isi (by decide +kernel) (pa_cons (pv 0) (pa_cons (pe_bltn (v := .ty "int") (by rfl) B.int (by decide +kernel) rfl) pa_nil))) (pe_and (pe_not (pe_callB call_isi (by rfl) B.isi (by decide +kernel) (pa_cons (pv 0) (pa_cons (pe_bltn (v := .ty "bool") (by rfl) B.bol (by decide +kernel) rfl) pa_nil)))) (pe_one (pe_cmpR op_eq (pv 0) (pv 1) (nomark _))))))) pss_nil)
      (pss_one (ps_ret (pe_and (pe_callB call_isi (by rfl) B.isi (by decide +kernel) (pa_cons (pv 0) (pa_cons (pe_bltn (v := .ty "str") (by rfl) B.str (by decide +kernel) rfl) pa_nil))) (pe_one (pe_cmpR op_eq (pv 0) (pv 1) (nomark _))))))))))), ?_⟩)
    · obtain ⟨v, w', rfl, _⟩ := h
      rfl
    · obtain ⟨v, w', rfl, sm, k⟩ := h
      rcases sm with ⟨rfl, fv⟩ | ⟨a, b, xs, ys, rfl, rfl, ha, hb, hlen, h100, hall⟩ | ⟨a, b, xs, ys, rfl, rfl, ha, hb, hlen, h100, hall⟩ | ⟨a, kvs, rfl, rfl, hd, ha, h100, hall⟩
      · cases v with
        | non =>
          refine ⟨_, rfl, (by show 2 ≤ sizeLine; decide), fun t nt => ⟨_, t, _, .type "NoneType", _, _, rfl, upd_same, .cons (.ty _) (.cons (.ty _) .nil), .base .non, kLT (r1 := false) (r2 := false) (by decide +kernel) (by decide +kernel), _, rfl, ?_⟩⟩
          refine if_neg_of rfl ⟨_, rfl, _, _, .type "NoneType", _, false, rfl, .ty _, .base .non, kit_ty (by decide +kernel), _, rfl, if_neg_of rfl ?_⟩
          refine ⟨_, rfl, rfl, _, rfl, if_pos_of (by decide) ⟨_, rfl, rfl, k _ (Ext.new nt)⟩⟩
        | bl b =>
          refine ⟨_, rfl, (by show 2 ≤ sizeLine; decide), fun t nt => ⟨_, t, _, .type "bool", _, _, rfl, upd_same, .cons (.ty _) (.cons (.ty _) .nil), .base (.bl _), kLT (r1 := false) (r2 := false) (by decide +kernel) (by decide +kernel), _, rfl, ?_⟩⟩
          refine if_neg_of rfl ⟨_, rfl, _, _, .type "bool", _, false, rfl, .ty _, .base (.bl _), kit_ty (by decide +kernel), _, rfl, if_neg_of rfl ?_⟩
          refine ⟨_, rfl, rfl, _, rfl, if_neg_of (decide_eq_false (fun z => nomatch z)) ?_⟩
          refine ⟨_, rfl, _, _, .type "bool", _, true, rfl, .ty _, .base (.bl _), kit_ty (by decide +kernel), _, rfl, if_pos_of rfl ?_⟩
          refine ⟨_, rfl, _, _, .type "bool", _, true, rfl, .ty _, .base (.bl _), kit_ty (by decide +kernel), _, rfl, if_pos_of rfl ?_⟩
          refine ⟨_, rfl, _, rfl, rfl, ?_⟩
          rw [decide_eq_true (rfl : V.bl b = V.bl b)]
          exact k _ (Ext.new nt)
        | int i =>
          refine ⟨_, rfl, (by show 2 ≤ sizeLine; decide), fun t nt => ⟨_, t, _, .type "int", _, _, rfl, upd_same, .cons (.ty _) (.cons (.ty _) .nil), .base (.int _), kLT (r1 := false) (r2 := false) (by decide +kernel) (by decide +kernel), _, rfl, ?_⟩⟩
          refine if_neg_of rfl ⟨_, rfl, _, _, .type "int", _, false, rfl, .ty _, .base (.int _), kit_ty (by decide +kernel), _, rfl, if_neg_of rfl ?_⟩
          refine ⟨_, rfl, rfl, _, rfl, if_neg_of (decide_eq_false (fun z => nomatch z)) ?_⟩
          refine ⟨_, rfl, _, _, .type "int", _, false, rfl, .ty _, .base (.int _), kit_ty (by decide +kernel), _, rfl, if_neg_of rfl ?_⟩
          refine ⟨_, rfl, _, _, .type "int", _, true, rfl, .ty _, .base (.int _), kit_ty (by decide +kernel), _, rfl, if_pos_of rfl ?_⟩
          refine ⟨_, rfl, _, _, .type "int", _, true, rfl, .ty _, .base (.int _), kit_ty (by decide +kernel), _, rfl, if_pos_of rfl ?_⟩
          refine ⟨_, rfl, _, _, .type "int", _, false, rfl, .ty _, .base (.int _), kit_ty (by decide +kernel), _, rfl, _, rfl, if_pos_of rfl ?_⟩
          refine ⟨_, rfl, _, rfl, rfl, ?_⟩
          rw [decide_eq_true (rfl : V.int i = V.int i)]
          exact k _ (Ext.new nt)
        | str z =>
          refine ⟨_, rfl, (by show 2 ≤ sizeLine; decide), fun t nt => ⟨_, t, _, .type "str", _, _, rfl, upd_same, .cons (.ty _) (.cons (.ty _) .nil), .base (.str _), kLT (r1 := false) (r2 := false) (by decide +kernel) (by decide +kernel), _, rfl, ?_⟩⟩
          refine if_neg_of rfl ⟨_, rfl, _, _, .type "str", _, false, rfl, .ty _, .base (.str _), kit_ty (by decide +kernel), _, rfl, if_neg_of rfl ?_⟩
          refine ⟨_, rfl, rfl, _, rfl, if_neg_of (decide_eq_false (fun z => nomatch z)) ?_⟩
          refine ⟨_, rfl, _, _, .type "str", _, false, rfl, .ty _, .base (.str _), kit_ty (by decide +kernel), _, rfl, if_neg_of rfl ?_⟩
          refine ⟨_, rfl, _, _, .type "str", _, false, rfl, .ty _, .base (.str _), kit_ty (by decide +kernel), _, rfl, if_neg_of rfl ?_⟩
          refine ⟨_, rfl, _, _, .type "str", _, true, rfl, .ty _, .base (.str _), kit_ty (by decide +kernel), _, rfl, if_pos_of rfl ?_⟩
          refine ⟨_, rfl, _, rfl, rfl, ?_⟩
          rw [decide_eq_true (rfl : V.str z = V.str z)]
          exact k _ (Ext.new nt)
        | _ => cases fv
      · refine ⟨_, rfl, (by show 2 ≤ sizeLine; decide), fun t nt => ⟨_, t, _, .type "list", _, _, rfl, upd_same, .cons (.ty _) (.cons (.ty _) .nil), .base (.lst ((Ext.new nt) _ _ hb)), kLT (r1 := true) (r2 := false) (by decide +kernel) (by decide +kernel), _, rfl, ?_⟩⟩
        have x1 : Ext H (upd H t (.tup [.ty "list", .ty "tuple"])) := Ext.new nt
        generalize (upd H t (.tup [.ty "list", .ty "tuple"])) = H1 at x1 ⊢
        have ha := x1 _ _ ha
        have hb := x1 _ _ hb
        have hall : ∀ (i : Nat) (x y : V), xs[i]? = some x → ys[i]? = some y → Sm d H1 x y := fun i x y a b => (hall i x y a b).ext x1
        refine if_pos_of rfl ?_
        refine ⟨_, rfl, _, _, .type "list", _, true, rfl, .ty _, .base (.lst ha), kit_ty (by decide +kernel), _, rfl, _, _, .type "list", _, true, rfl, .ty _, .base (.lst hb), kit_ty (by decide +kernel), rfl, _, rfl, if_neg_of (by decide) ?_⟩
        refine ⟨_, rfl, _, _, .type "list", _, false, rfl, .ty _, .base (.lst ha), kit_ty (by decide +kernel), _, rfl, _, _, .type "list", _, false, rfl, .ty _, .base (.lst hb), kit_ty (by decide +kernel), rfl, _, rfl, if_neg_of (by decide) ?_⟩
        refine ⟨_, rfl, _, xs.length, rfl, .inl ⟨_, SqL.of ha, rfl⟩, _, rfl, _, ys.length, rfl, .inl ⟨_, SqL.of hb, rfl⟩, rfl, _, rfl, if_pos_of (decide_eq_true (by rw [hlen])) ?_⟩
        refine ⟨_, rfl, _, rfl, a, b, xs, ys, rfl, .inl ⟨SqL.of ha, SqL.of hb, fun D nD => ?_⟩⟩
        refine lc_it (n := xs.length) (walk_zip (by rw [← hlen]; simp)) (fun i H' => Ext H1 H' ∧ H' D = some (.lst ((List.replicate i true).map V.bl))) ⟨Ext.new nD, upd_same⟩ (fun i H' _ p => ⟨SqL.of (p.1 _ _ ha), SqL.of (p.1 _ _ hb)⟩) ?_ ?_
        · rintro i v H2 H3 hi ⟨x2, eD⟩ ⟨T, x, y, rfl, nT, rfl, ex, ey⟩
          have x3 := x2.trans (Ext.new (o := .tup [x, y]) nT)
          have eD3 := (Ext.new (o := .tup [x, y]) nT) _ _ eD
          refine ⟨T, _, rfl, SqT.of upd_same, rfl, _, _, rfl, _, _, rfl, rfl, rfl, ?_⟩
          refine ⟨_, rfl, _, rfl, x, y, rfl, (hall i x y ex ey).ext x3, fun H4 x4 => ⟨_, x4 _ _ eD3, ?_, (x3.trans x4).at nD, ?_⟩⟩
          · rw [List.length_map, List.length_replicate]
            exact Nat.lt_of_lt_of_le (Nat.lt_of_lt_of_le hi h100) (by decide)
          · rw [upd_same, List.replicate_succ', List.map_append]
            rfl
        · rintro H2 ⟨x2, eD⟩
          refine ⟨D, _, rfl, SqL.of eD, ?_⟩
          rw [bls_true]
          exact k _ (x1.trans x2)
      · refine ⟨_, rfl, (by show 2 ≤ sizeLine; decide), fun t nt => ⟨_, t, _, .type "tuple", _, _, rfl, upd_same, .cons (.ty _) (.cons (.ty _) .nil), .base (.tup ((Ext.new nt) _ _ hb)), kLT (r1 := false) (r2 := true) (by decide +kernel) (by decide +kernel), _, rfl, ?_⟩⟩
        have x1 : Ext H (upd H t (.tup [.ty "list", .ty "tuple"])) := Ext.new nt
        generalize (upd H t (.tup [.ty "list", .ty "tuple"])) = H1 at x1 ⊢
        have ha := x1 _ _ ha
        have hb := x1 _ _ hb
        have hall : ∀ (i : Nat) (x y : V), xs[i]? = some x → ys[i]? = some y → Sm d H1 x y := fun i x y a b => (hall i x y a b).ext x1
        refine if_pos_of rfl ?_
        refine ⟨_, rfl, _, _, .type "tuple", _, false, rfl, .ty _, .base (.tup ha), kit_ty (by decide +kernel), _, rfl, _, _, .type "tuple", _, false, rfl, .ty _, .base (.tup hb), kit_ty (by decide +kernel), rfl, _, rfl, if_neg_of (by decide) ?_⟩
        refine ⟨_, rfl, _, _, .type "tuple", _, true, rfl, .ty _, .base (.tup ha), kit_ty (by decide +kernel), _, rfl, _, _, .type "tuple", _, true, rfl, .ty _, .base (.tup hb), kit_ty (by decide +kernel), rfl, _, rfl, if_neg_of (by decide) ?_⟩
        refine ⟨_, rfl, _, xs.length, rfl, .inr ⟨_, SqT.of ha, rfl⟩, _, rfl, _, ys.length, rfl, .inr ⟨_, SqT.of hb, rfl⟩, rfl, _, rfl, if_pos_of (decide_eq_true (by rw [hlen])) ?_⟩
        refine ⟨_, rfl, _, rfl, a, b, xs, ys, rfl, .inr ⟨SqT.of ha, SqT.of hb, fun D nD => ?_⟩⟩
        refine lc_it (n := xs.length) (walk_zipT rfl hlen) (fun i H' => Ext H1 H' ∧ H' D = some (.lst ((List.replicate i true).map V.bl))) ⟨Ext.new nD, upd_same⟩ (fun i H' _ p => ⟨SqT.of (p.1 _ _ ha), SqT.of (p.1 _ _ hb)⟩) ?_ ?_
        · rintro i v H2 H3 hi ⟨x2, eD⟩ ⟨T, x, y, rfl, nT, rfl, ex, ey⟩
          have x3 := x2.trans (Ext.new (o := .tup [x, y]) nT)
          have eD3 := (Ext.new (o := .tup [x, y]) nT) _ _ eD
          refine ⟨T, _, rfl, SqT.of upd_same, rfl, _, _, rfl, _, _, rfl, rfl, rfl, ?_⟩
          refine ⟨_, rfl, _, rfl, x, y, rfl, (hall i x y ex ey).ext x3, fun H4 x4 => ⟨_, x4 _ _ eD3, ?_, (x3.trans x4).at nD, ?_⟩⟩
          · rw [List.length_map, List.length_replicate]
            exact Nat.lt_of_lt_of_le (Nat.lt_of_lt_of_le hi h100) (by decide)
          · rw [upd_same, List.replicate_succ', List.map_append]
            rfl
        · rintro H2 ⟨x2, eD⟩
          refine ⟨D, _, rfl, SqL.of eD, ?_⟩
          rw [bls_true]
          exact k _ (x1.trans x2)
      · have hd1 : ∃ e, d = e + 1 := ⟨d - 1, by omega⟩
        obtain ⟨e, rfl⟩ := hd1
        refine ⟨_, rfl, (by show 2 ≤ sizeLine; decide), fun t nt => ⟨_, t, _, .type "dict", _, _, rfl, upd_same, .cons (.ty _) (.cons (.ty _) .nil), .base (.dK ((Ext.new nt) _ _ ha)), kLT (r1 := false) (r2 := false) (by decide +kernel) (by decide +kernel), _, rfl, ?_⟩⟩
        have x1 : Ext H (upd H t (.tup [.ty "list", .ty "tuple"])) := Ext.new nt
        generalize (upd H t (.tup [.ty "list", .ty "tuple"])) = H1 at x1 ⊢
        have ha := x1 _ _ ha
        refine if_neg_of rfl ⟨_, rfl, _, _, .type "dict", _, true, rfl, .ty _, .base (.dK ha), kit_ty (by decide +kernel), _, rfl, if_pos_of rfl ?_⟩
        refine ⟨_, rfl, _, _, .type "dict", _, true, rfl, .ty _, .base (.dK ha), kit_ty (by decide +kernel), _, rfl, if_neg_of rfl ?_⟩
        refine ⟨_, rfl, a, kvs, rfl, .inl ha, fun l1 n1 => ⟨_, rfl, a, kvs, rfl, .inl ((Ext.new n1) _ _ ha), fun l2 n2 => ?_⟩⟩
        have y1 := Ext.new (o := .lst (kvs.map fun kv => kV kv.1)) n1
        have y2 := Ext.new (o := .lst (kvs.map fun kv => kV kv.1)) n2
        refine ⟨_, _, rfl, .inr (.inl ⟨l1, l2, _, _, rfl, rfl, y2 _ _ upd_same, upd_same, rfl, ?_, fun i x y ex ey => ?_⟩), fun H2 x2 => ⟨_, rfl, if_neg_of rfl ?_⟩⟩
        · rw [List.length_map]
          exact h100
        · rw [ex] at ey
          cases ey
          refine Sm.flat ?_
          rw [List.getElem?_map] at ex
          cases q : kvs[i]? with
          | none =>
            rw [q] at ex
            cases ex
          | some kv =>
            rw [q] at ex
            cases ex
            obtain ⟨kk, u⟩ := kv
            cases kk <;> rfl
        · have x3 := (y1.trans y2).trans x2
          have ha2 := x3 _ _ ha
          refine ⟨a, _, ha2, True.intro, fun od => ?_⟩
          refine ⟨_, rfl, a, od, rfl, .inl ⟨kvs, upd_same, fun D nD => ?_⟩⟩
          refine lc_it (n := kvs.length) walk_keys (fun i H' => Ext (upd H2 a (.frz od (.dK kvs))) H' ∧ H' D = some (.lst ((List.replicate i true).map V.bl))) ⟨Ext.new nD, upd_same⟩ (fun i H' _ p => p.1 _ _ upd_same) ?_ ?_
          · rintro i v H30 H3 hi ⟨x4, eD⟩ ⟨rfl, kk, u, ek, rfl⟩
            have hmem : (kk, u) ∈ kvs := List.mem_of_getElem? ek
            obtain ⟨hv, fl⟩ := hall _ hmem
            have hz : Rd H3 a (.dK kvs) := .inr ⟨od, x4 _ _ upd_same⟩
            refine ⟨rfl, _, rfl, _, rfl, a, u, rfl, .inl ⟨kvs, kk, hz, rfl, hv.symm⟩, _, rfl, _, rfl, a, u, rfl, .inl ⟨kvs, kk, hz, rfl, hv.symm⟩, u, u, rfl, Sm.flat fl, fun H4 x5 => ⟨_, x5 _ _ eD, ?_, (x4.trans x5).at nD, ?_⟩⟩
            · rw [List.length_map, List.length_replicate]
              exact Nat.lt_of_lt_of_le (Nat.lt_of_lt_of_le hi h100) (by decide)
            · rw [upd_same, List.replicate_succ', List.map_append]
              rfl
          · rintro H3 ⟨x4, eD⟩
            have hDa : D ≠ a := fun z => by
              rw [z, upd_same] at nD
              cases nD
            refine ⟨x4 _ _ upd_same, D, _, rfl, SqL.of ((upd_ne hDa).trans eD), ?_⟩
            rw [bls_true]
            refine k _ ((x1.trans x3).trans fun b o q => ?_)
            by_cases hb : b = a
            · rw [hb, ha2] at q
              cases q
              rw [hb]
              exact upd_same
            · rw [upd_ne hb]
              exact x4 _ _ ((upd_ne hb).trans q)
end
end ER
set_option Elab.async false
set_option linter.all false
set_option maxRecDepth 100000
set_option maxHeartbeats 4000000
namespace ER
open PySem PySem.Spec PyProof.Rows L2 RZ
abbrev sVery : Stmt := top 55
theorem Obj.ext {H H' : Hp} {v : V} (h : Obj H v) (x : Ext H H') : Obj H' v := by
  cases h with
  | int i => exact .int i
  | str i => exact .str i
  | non => exact .non
  | bl b => exact .bl b
  | tup h => exact .tup (x _ _ h)
  | lst h h2 ne => exact .lst (x _ _ h) (x _ _ h2) ne
  | dct h => exact .dct (x _ _ h)
theorem obj_flat {H : Hp} {v : V} (h : Obj H v) (f : flatV v = true) : ∀ H', Obj H' v := fun H' => by
  cases h with
  | int i => exact .int i
  | str i => exact .str i
  | non => exact .non
  | bl b => exact .bl b
  | _ => cases f
theorem obj_same {H : Hp} {v : V} (h : Obj H v) : Sm 2 H v v := by
  cases h with
  | int i => exact Sm.flat rfl
  | str i => exact Sm.flat rfl
  | non => exact Sm.flat rfl
  | bl b => exact Sm.flat rfl
  | @tup p r h =>
    refine .inr (.inr (.inl ⟨_, _, _, _, rfl, rfl, h, h, rfl, (by show 2 ≤ 100; decide), fun i x y e1 e2 => ?_⟩))
    rw [e1] at e2
    cases e2
    refine Sm.flat ?_
    match i, e1 with
    | 0, e1 => cases e1; rfl
    | 1, e1 => cases e1; rfl
  | @lst p q r h h2 ne =>
    refine .inr (.inl ⟨_, _, _, _, rfl, rfl, h, h, rfl, (by show 2 ≤ 100; decide), fun i x y e1 e2 => ?_⟩)
    rw [e1] at e2
    cases e2
    match i, e1 with
    | 0, e1 => cases e1; exact Sm.flat rfl
    | 1, e1 =>
      cases e1
      refine .inr (.inl ⟨_, _, _, _, rfl, rfl, h2, h2, rfl, (by show 1 ≤ 100; decide), fun i x y e1 e2 => ?_⟩)
      rw [e1] at e2
      cases e2
      match i, e1 with
      | 0, e1 => cases e1; exact Sm.flat rfl
  | @dct p r h =>
    refine .inr (.inr (.inr ⟨_, _, rfl, rfl, by decide, h, (by show 1 ≤ 100; decide), fun kv m => ?_⟩))
    cases List.mem_singleton.mp m
    exact ⟨rfl, rfl⟩
/-- what was changed and changed back -/
theorem Ext.back {H H1 H2 : Hp} {p : Addr} {o : HO} (e : H p = some o) (h1 : ∀ b, b ≠ p → H1 b = H b) (h2 : H2 = upd H1 p o) : Ext H H2 := fun b u q => by
  rw [h2]
  by_cases hb : b = p
  · rw [hb, upd_same]
    rw [hb, e] at q
    exact q
  · rw [upd_ne hb, h1 b hb]
    exact q
/-- of what built-in type it is, and whether a list, a dict -/
theorem obj_ty {K : PySem.W.Frag} {H : Hp} {v : V} (h : Obj H v) : ∃ (T : String) (l d : Bool), TyX K H v (.type T) ∧ kitB T "list" = some l ∧ kitB T "dict" = some d ∧
    ((l = false ∧ d = false) ∨ (l = true ∧ d = false ∧ ∃ p q r, v = .ref p ∧ H p = some (.lst [.int r, .ref q]) ∧ H q = some (.lst [.int 1]) ∧ p ≠ q) ∨ (l = false ∧ d = true ∧ ∃ p r, v = .ref p ∧ H p = some (.dK [(Sum.inr "a", .int r)]))) := by
  cases h with
  | int i => exact ⟨"int", false, false, .base (.int i), by decide +kernel, by decide +kernel, .inl ⟨rfl, rfl⟩⟩
  | str z => exact ⟨"str", false, false, .base (.str z), by decide +kernel, by decide +kernel, .inl ⟨rfl, rfl⟩⟩
  | non => exact ⟨"NoneType", false, false, .base .non, by decide +kernel, by decide +kernel, .inl ⟨rfl, rfl⟩⟩
  | bl b => exact ⟨"bool", false, false, .base (.bl b), by decide +kernel, by decide +kernel, .inl ⟨rfl, rfl⟩⟩
  | tup h => exact ⟨"tuple", false, false, .base (.tup h), by decide +kernel, by decide +kernel, .inl ⟨rfl, rfl⟩⟩
  | lst h h2 ne => exact ⟨"list", true, false, .base (.lst h), by decide +kernel, by decide +kernel, .inr (.inl ⟨rfl, rfl, _, _, _, rfl, h, h2, ne⟩)⟩
  | dct h => exact ⟨"dict", false, true, .base (.dK h), by decide +kernel, by decide +kernel, .inr (.inr ⟨rfl, rfl, _, _, rfl, h⟩)⟩
def spVery : Sp := fun vs H Q _ => ∃ v : V, vs = [v, v] ∧ Obj H v ∧ ∀ H', Ext H H' → Q (.bl true) H'
theorem scVery : FnScope ["found", "due", "same"] ["found", "due"] (defScope sVery) := ⟨rfl, rfl, rfl, by decide +kernel, rfl, by decide +kernel, by decide +kernel⟩
section
variable {P : Program} {w : World} {K : PySem.W.Frag} {mg : Str → Option Value} {base : Heap} {f fS : Addr} {fd fdS : FuncData}
theorem ok_very (F : FnP K "_law_very" sVery f fd) (FS : FnP K "_law_same" sSame fS fdS) (gS : mg "_law_same" = some (.ref fS)) (B : Bn mg) : FnOk P w K mg base CX0 4 f fd ["found", "due"] spVery := by
  have GS := ok_same (P := P) (w := w) (base := base) FS gS B 2
  have bS : Binds K fdS ["found", "due"] [] := FS.bindsN fun _ _ _ _ _ _ us hl => match us, hl with | [_, _], _ => rfl
  refine F.ok scVery (fun vs H Q E h => ?_) (fun cdv A outer s H vs Q E hr h => ⟨_, PSs.nox (
      pss_cons (ps_if (pt_val (pe_callB call_isi (by rfl) B.isi (by decide +kernel) (pa_cons (pv 1) (pa_cons (pe_bltn (v := .ty "list") (by rfl) B.lst (by decide +kernel) rfl) pa_nil))))
        (pss_cons (ps_expr (pe_bm PySem.F.plainAttrs_list PySem.F.slot_list_append PySem.F.type_list_append mt_append (pv 1) (pa_cons pe_str pa_nil)))
        (pss_cons (ps_set (i := 2) scVery.nd rfl (.inl rfl) (pe_and (pe_callB call_isi (by rfl) B.isi (by decide +kernel) (pa_cons (pv 0) (pa_cons (pe_bltn (v := .ty "list") (by rfl) B.lst (by decide +kernel) rfl) pa_nil)))
          (pe_and (pe_cmpR op_eq (pe_callB call_len (by rfl) B.len boot_len (pa_cons (pv 0) pa_nil)) (pe_callB call_len (by rfl) B.len boot_len (pa_cons (pv 1) pa_nil)) (nomark _)) (pe_one (pe_cmpR op_eq (pe_ix ix_list (pv 0) (pe_un un_neg pe_int) (fun _ _ => rfl)) pe_str (nomark _))))))
        (pss_cons (ps_expr (pe_bm0 PySem.F.plainAttrs_list PySem.F.slot_list_pop PySem.F.type_list_pop mt_pop (pv 1)))
        (pss_one (ps_ret (pe_and (pv 2) (pe_one (pe_call GS hr rfl gS FS.kp bS .nil pass0 (pa_cons (pv 0) (pa_cons (pv 1) pa_nil)))))))))) pss_nil)
      (pss_cons (ps_if (pt_val (pe_callB call_isi (by rfl) B.isi (by decide +kernel) (pa_cons (pv 1) (pa_cons (pe_bltn (v := .ty "dict") (by rfl) B.dct (by decide +kernel) rfl) pa_nil))))
        (pss_cons (ps_dput (hu_of hr) (pv 1) pe_str pe_int rfl)
        (pss_cons (ps_set (i := 2) scVery.nd rfl (.inl rfl) (pe_and (pe_callB call_isi (by rfl) B.isi (by decide +kernel) (pa_cons (pv 0) (pa_cons (pe_bltn (v := .ty "dict") (by rfl) B.dct (by decide +kernel) rfl) pa_nil)))
          (pe_and (pe_cmp (pc_din (hu_of hr) pe_str (pv 0)) rfl) (pe_one (pe_cmpR op_eq (pe_callB call_lenD (by rfl) B.len boot_len (pa_cons (pv 0) pa_nil)) (pe_callB call_lenD (by rfl) B.len boot_len (pa_cons (pv 1) pa_nil)) (nomark _))))))
        (pss_cons (ps_expr (pe_dpop1 (pv 1) pe_str ⟨rfl, rfl, rfl, rfl⟩))
        (pss_one (ps_ret (pe_and (pv 2) (pe_one (pe_call GS hr rfl gS FS.kp bS .nil pass0 (pa_cons (pv 0) (pa_cons (pv 1) pa_nil)))))))))) pss_nil)
      (pss_one (ps_ret (pe_call GS hr rfl gS FS.kp bS .nil pass0 (pa_cons (pv 0) (pa_cons (pv 1) pa_nil))))))), ?_⟩)
  · obtain ⟨v, rfl, _⟩ := h
    rfl
  · obtain ⟨v, rfl, ho, k⟩ := h
    obtain ⟨T, l, d, ty, kl, kd, c⟩ := obj_ty (K := K) ho
    rcases c with ⟨rfl, rfl⟩ | ⟨rfl, rfl, p, q, r, rfl, h1, h2, hne⟩ | ⟨rfl, rfl, p, r, rfl, h1⟩
    · refine ⟨_, rfl, _, _, .type T, _, false, rfl, .ty _, ty, kit_ty kl, _, rfl, if_neg_of rfl ?_⟩
      refine ⟨_, rfl, _, _, .type T, _, false, rfl, .ty _, ty, kit_ty kd, _, rfl, if_neg_of rfl ?_⟩
      exact ⟨_, rfl, _, rfl, v, v, rfl, obj_same ho, k⟩
    · refine ⟨_, rfl, _, _, .type T, _, true, rfl, .ty _, ty, kit_ty kl, _, rfl, if_pos_of rfl ?_⟩
      refine ⟨_, rfl, .inl ⟨rfl, _, SqL.of h1⟩, p, _, _, rfl, rfl, h1, (by show 2 < sizeLine; decide), ?_⟩
      have e1 : upd H p (.lst ([.int r, .ref q] ++ [.str "more"])) p = some (.lst [.int r, .ref q, .str "more"]) := upd_same
      have o1 : ∀ b, b ≠ p → upd H p (.lst ([.int r, .ref q] ++ [.str "more"])) b = H b := fun b hb => upd_ne hb
      generalize (upd H p (.lst ([.int r, .ref q] ++ [.str "more"]))) = H1 at e1 o1 ⊢
      refine ⟨_, rfl, _, _, .type "list", _, true, rfl, .ty _, .base (.lst e1), kit_ty (by decide +kernel), _, rfl, if_pos_of rfl ?_⟩
      refine ⟨_, rfl, _, 3, rfl, .inl ⟨_, SqL.of e1, rfl⟩, _, rfl, _, 3, rfl, .inl ⟨_, SqL.of e1, rfl⟩, rfl, _, rfl, if_pos_of (decide_eq_true rfl) ?_⟩
      refine ⟨_, rfl, _, rfl, p, _, _, _, rfl, rfl, SqL.of e1, atI_last ([V.int r, V.ref q] : List V) (V.str "more"), rfl, ?_⟩
      rw [decide_eq_true (rfl : V.str "more" = V.str "more")]
      refine ⟨_, rfl, .inl ⟨rfl, _, SqL.of e1⟩, p, _, _, rfl, rfl, e1, rfl, ?_⟩
      have x2 : Ext H (upd H1 p (.lst [.int r, .ref q])) := Ext.back h1 o1 rfl
      refine ⟨_, rfl, _, rfl, if_pos_of rfl ?_⟩
      exact ⟨_, rfl, _, rfl, _, _, rfl, obj_same (ho.ext x2), fun H' x => k H' (x2.trans x)⟩
    · refine ⟨_, rfl, _, _, .type T, _, false, rfl, .ty _, ty, kit_ty kl, _, rfl, if_neg_of rfl ?_⟩
      refine ⟨_, rfl, _, _, .type T, _, true, rfl, .ty _, ty, kit_ty kd, _, rfl, if_pos_of rfl ?_⟩
      refine ⟨_, rfl, p, _, rfl, DPut.k (k := Sum.inr "more") h1 (by show 1 < sizeLine; decide), ?_⟩
      have e1 : upd H p (.dK (putK [(Sum.inr "a", .int r)] (Sum.inr "more") (.int 1))) p = some (.dK [(Sum.inr "a", .int r), (Sum.inr "more", .int 1)]) := upd_same
      have o1 : ∀ b, b ≠ p → upd H p (.dK (putK [(Sum.inr "a", .int r)] (Sum.inr "more") (.int 1))) b = H b := fun b hb => upd_ne hb
      generalize (upd H p (.dK (putK [(Sum.inr "a", .int r)] (Sum.inr "more") (.int 1)))) = H1 at e1 o1 ⊢
      refine ⟨_, rfl, _, _, .type "dict", _, true, rfl, .ty _, .base (.dK e1), kit_ty (by decide +kernel), _, rfl, if_pos_of rfl ?_⟩
      refine ⟨_, rfl, p, _, rfl, DGet.k (k := Sum.inr "more") e1, _, rfl, if_pos_of rfl ?_⟩
      refine ⟨_, rfl, p, _, rfl, e1, _, rfl, p, _, rfl, e1, rfl, ?_⟩
      refine ⟨_, rfl, p, rfl, .inl ⟨_, .inl e1⟩, _, Sum.inr "more", _, e1, rfl, rfl, ?_⟩
      have x2 : Ext H (upd H1 p (.dK [(Sum.inr "a", .int r)])) := Ext.back h1 o1 rfl
      refine ⟨_, rfl, _, rfl, if_pos_of (decide_eq_true rfl) ?_⟩
      exact ⟨_, rfl, _, rfl, _, _, rfl, obj_same (ho.ext x2), fun H' x => k H' (x2.trans x)⟩
end
end ER
set_option Elab.async false
set_option linter.all false
set_option maxRecDepth 100000
set_option maxHeartbeats 4000000
/-! a comprehension over a range while an exception is handled -/
namespace ER
open PySem PySem.Spec PyProof.Rows L2 L2H HotX
/-- the block of a comprehension, the handled exception pinned -/
abbrev hotBlk (X : Cx) (q : Addr × PySem.Obj) (s : Shared) (H : Hp) (scope : Scope) (ce : Env) (fp : List Addr) : Cx := { X.blk s H scope ce fp with pn := [q] }
theorem inv_hotBlk {X : Cx} {q : Addr × PySem.Obj} {s t : Shared} {H H' : Hp} {scope : Scope} {ce : Env} {fp : List Addr} {σ : L2.St} (I : Inv (X.blk s H scope ce fp) [] σ H' t)
    (h : t.heap.get? q.1 = some q.2 ∧ H' q.1 = none ∧ q.1 ≠ ce.locals ∧ q.1 ∉ frs X.stack ∧ ∀ v, q.2.data ≠ .cell v) : Inv (hotBlk X q s H scope ce fp) [] σ H' t :=
  ⟨⟨I.ok.mod, I.ok.kind, I.ok.glob, I.ok.blt, I.ok.above, I.ok.inj, I.ok.has, I.ok.cab, I.ok.hd, I.ok.frames, I.ok.stk, I.ok.exf, I.ok.bs, I.ok.bsz, I.ok.noex, I.ok.exfs, I.ok.funs, I.ok.frf⟩, I.os, I.bare, I.base, I.loc, I.cell, I.free, I.freeC,
    fun p hp => by
      have e : p = q := by simpa using (show p ∈ [q] ++ ([] : List (Addr × PySem.Obj)) from hp)
      rw [e]
      exact h, I.hok, I.len⟩
section
variable {X : Cx}
theorem pe_lcH {q : Addr × PySem.Obj} {elt tg iter : Expr} {ifs : List Expr} {scope : Scope} {own : List (Str × Nat)} {pos : Pos} {wi : TI} {g : TG} {tt : TT} {te : TE} (hot : Hot1 X.A q) (hq : q ∈ X.pn) (hN : X.N.Nodup) (hi : PIH X tg iter wi) (ok : BlkOk X.N X.env.scope scope own)
    (hg : ∀ (s : Shared) (H : Hp) (C : Addr) (cl : List (Str × Addr)) (fp : List Addr), PG (hotBlk X q s H scope (compEnvC scope cl C X.env) fp) tg g) (ht : ∀ (s : Shared) (H : Hp) (C : Addr) (cl : List (Str × Addr)) (fp : List Addr), PTs (hotBlk X q s H scope (compEnvC scope cl C X.env) fp) ifs tt)
    (he : ∀ (s : Shared) (H : Hp) (C : Addr) (cl : List (Str × Addr)) (fp : List Addr), PE (hotBlk X q s H scope (compEnvC scope cl C X.env) fp) elt te) (hs : ∀ x, foldedSetIterable iter X.env x = pure x := by intro _; rfl) :
    PE X (.ListComp elt [⟨tg, iter, ifs, 0⟩] scope pos) (tLc wi g tt te (own.map (·.2))) := by
  refine ⟨fun pins s σ H Q I h => ?_⟩
  rw [eval_ListComp]
  have hfree : ∀ y ∈ scope.names, y.2 = .free → ∃ c, X.env.cells.lookup y.1 = some c := fun y hy e => (ok.free y hy e).elim (fun k => I.ok.has _ (.inl k)) (fun k => I.ok.has _ (.inr k))
  refine wpAny_comprehension_free (use := none) rfl hs (closure_ok hfree) ok.kind (fun y hy e => by rw [ok.uniq y hy, e])
    (thn (hi.run pins s σ H _ I h) fun xv s1 hx => thn hx fun itv s2 h2 => ?_)
  obtain ⟨it, fp, tn, J, H2, e, I2, T, st2, f2, qq⟩ := h2
  subst e
  refine wpAny_newObj_type (newEnv_comp ?_) (by show 0 ≤ sizeLine; decide)
  obtain ⟨D, hD⟩ : ∃ D, s2.heap.objs.size = D := ⟨_, rfl⟩
  have hDn : H2 D = none := I2.hok.fresh (Nat.le_of_eq hD)
  rw [hD]
  obtain ⟨W, ⟨m0, w0⟩, turn⟩ := qq D hDn
  obtain ⟨s3, hs3⟩ : ∃ s3 : Shared, ({ s2 with heap := s2.heap.push { cls := .type "list", data := .seq ([] : List Value).toArray } } : Shared) = s3 := ⟨_, rfl⟩
  rw [hs3]
  have h3 : s3.heap = s2.heap.push { cls := .type "list", data := .seq ([] : List Value).toArray } := by rw [← hs3]
  have k3 : ∀ b o, s2.heap.get? b = some o → s3.heap.get? b = some o := fun b o e => by rw [h3]; exact Heap.get?_push_of_some _ e
  have I3 : Inv X pins σ (upd H2 D (.lst [])) s3 := by
    rw [← hs3]
    exact I2.laid (t' := s2.toks) (fun b o e => Heap.get?_push_of_some _ e) (Nat.le_of_eq hD) ⟨Nat.zero_le _, [], 0, .nil, by rw [← hD]; exact Heap.get?_push_size _ rfl⟩
  have f3 : ∀ b ∈ fp, FpOk X pins (upd H2 D (.lst [])) b ∧ b < s3.heap.objs.size := fun b hb => by
    obtain ⟨o, e, _⟩ := T.obj _ _ st2 b hb
    have hlt := Heap.lt_size e
    exact ⟨⟨by rw [upd_ne (by rw [← hD]; exact Nat.ne_of_lt hlt)]; exact (f2 b hb).1, (f2 b hb).2⟩, Heap.lt_size (k3 b o e)⟩
  have st3 : tn 0 s3.heap := T.keep _ _ _ st2 fun b _ o e => k3 b o e
  have P3 := I3.pin q (List.mem_append_left _ hq)
  have fr3 : q.1 ∉ frs X.stack := fun hm => (List.mem_cons.mp (I3.stkSub q.1 hm)).elim P3.2.2.1 P3.2.2.2.1
  have I4 := block_start I3 ok hN f3
  have pg := hg s3 (upd H2 D (.lst [])) s3.heap.objs.size (cellsFrom (s3.heap.objs.size + 1) scope.names (cloFrom X.env.cells scope.names [])) fp
  have pt := ht s3 (upd H2 D (.lst [])) s3.heap.objs.size (cellsFrom (s3.heap.objs.size + 1) scope.names (cloFrom X.env.cells scope.names [])) fp
  have pe := he s3 (upd H2 D (.lst [])) s3.heap.objs.size (cellsFrom (s3.heap.objs.size + 1) scope.names (cloFrom X.env.cells scope.names [])) fp
  show codeAny _ _ (.compStart (.ListComp elt [⟨tg, iter, ifs, 0⟩] scope pos) 0 (.ref it) (.ref D) (compEnvC scope (cellsFrom (s3.heap.objs.size + 1) scope.names (cloFrom X.env.cells scope.names [])) s3.heap.objs.size X.env)) (compPost (model X.prog X.w) X.A X.xe none (EP X pins σ Q) (.ref D) s3.heap.objs.size) { s3 with heap := pushCells (s3.heap.push { cls := .type "dict", data := .dict #[] }) scope.names }
  have nfp : ∀ b ∈ fp, (upd H2 D (.lst [])) b = none := fun b hb => (f3 b hb).1.1
  obtain ⟨ce, hce⟩ : ∃ ce, compEnvC scope (cellsFrom (s3.heap.objs.size + 1) scope.names (cloFrom X.env.cells scope.names [])) s3.heap.objs.size X.env = ce := ⟨_, rfl⟩
  rw [hce] at I4 pg pt pe ⊢
  have cL : ce.locals = s3.heap.objs.size := by subst hce; rfl
  obtain ⟨H3, hH3⟩ : ∃ H3, upd H2 D (.lst []) = H3 := ⟨_, rfl⟩
  rw [hH3] at I3 I4 pg pt pe w0 nfp f3 P3
  obtain ⟨s4, hs4⟩ : ∃ s4 : Shared, ({ s3 with heap := pushCells (s3.heap.push { cls := .type "dict", data := .dict #[] }) scope.names } : Shared) = s4 := ⟨_, rfl⟩
  rw [hs4] at I4 ⊢
  have k4 : ∀ b o, s3.heap.get? b = some o → s4.heap.get? b = some o := fun b o e => by rw [← hs4]; exact pushCells_keeps _ _ _ _ (Heap.get?_push_of_some _ e)
  have I4h : Inv (hotBlk X q s3 H3 scope ce fp) [] (wipe σ (own.map (·.2))) H3 s4 := inv_hotBlk I4 ⟨k4 _ _ P3.1, P3.2.1, by rw [cL]; exact Nat.ne_of_lt (Heap.lt_size P3.1), fr3, P3.2.2.2.2⟩
  have hc : HotC (hotBlk X q s3 H3 scope ce fp) := ⟨q, hot, List.mem_singleton.mpr rfl⟩
  have st4 : tn 0 s4.heap := T.keep _ _ _ st3 fun b _ o e => k4 b o e
  have stat : ∀ {σ' : L2.St} {H' : Hp} {s' : Shared}, Inv (hotBlk X q s3 H3 scope ce fp) [] σ' H' s' → (∀ b ∈ fp, H' b = none) → ∀ b ∈ fp, FpOk (hotBlk X q s3 H3 scope ce fp) [] H' b := fun {σ' H' s'} I' hn b hb =>
    ⟨hn b hb, (I'.ok.exf b hb).1, I'.ok.exfs b hb, .inl hb, fun x c e => (I'.ok.exf b hb).2 x c e, fun p hp => by
      have e : p = q := by simpa using (show p ∈ [q] ++ ([] : List (Addr × PySem.Obj)) from hp)
      rw [e]
      exact (f3 b hb).1.2.2.2.2.2 q (List.mem_append_left _ hq)⟩
  have loop : codeAny (model X.prog X.w) X.A (.compLoop (.ListComp elt [⟨tg, iter, ifs, 0⟩] scope pos) 0 (.ref it) (.ref D) ce) (compPost (model X.prog X.w) X.A X.xe none (EP X pins σ Q) (.ref D) s3.heap.objs.size) s4 := by
    refine compLoop_any (fun n s' => ∃ i H', Inv (hotBlk X q s3 H3 scope ce fp) [] (wipe σ (own.map (·.2))) H' s' ∧ tn i s'.heap ∧ (∀ b ∈ fp, H' b = none) ∧ W i n H') ?_ m0 ⟨0, H3, I4h, st4, nfp, w0⟩
    rintro n s5 ⟨i, H5, I5, st5, n5, w5⟩
    rcases turn i n H5 w5 with ⟨stop, qq⟩ | ⟨go, Nx, hNx, step⟩
    · refine thnF (T.done (hotBlk X q s3 H3 scope ce fp) rfl rfl rfl hc i [] s5 _ H5 (fun _ _ => False) I5 (stat I5 n5) st5 stop) fun r s6 ⟨hr, I6⟩ => ?_
      subst hr
      have I7 : Inv X pins σ H5 s6 := I3.call' (ch := fp) I6.os I6.base I6.hok I6.bare fun b hb => ⟨(f3 b hb).1.2.2.2.1, (f3 b hb).1.2.1, (f3 b hb).1.2.2.2.2.1, (f3 b hb).1.2.2.2.2.2⟩
      have nC : H5 s3.heap.objs.size = none := cL ▸ (show H5 ce.locals = none from I6.free)
      obtain ⟨m, hn, _⟩ := I6.loc
      have hn : s6.heap.Ns ce.locals m := hn
      rw [cL] at hn
      obtain ⟨f0, f1, f2, f3', f4, f5⟩ := I3.fpOk (Nat.le_refl _) nC
      exact ⟨m, hn, fun h'' sb => ⟨.ref D, H5, I7.turned (t' := s6.toks) (fun b o hb e => (sb.2 b hb).trans e) f0 f1 f3' f4 f5, rfl, qq⟩⟩
    · refine thnF (T.item (hotBlk X q s3 H3 scope ce fp) rfl rfl rfl hc i [] s5 _ H5 (fun _ _ => False) I5 (stat I5 n5) st5 go) fun r s6 ⟨u, hr, h6⟩ => ?_
      subst hr
      refine thnF h6 fun _ s7 ⟨x, H7, I7, r7, y7, st7, n7⟩ => ?_
      have I7' := I7.pinned (stat I7 n7) (T.obj _ _ st7)
      refine thnF (pg.run _ s7 _ H7 x u _ I7' r7 (step x H7 y7)) fun _ s8 ⟨σ8, H8, I8, hw8, q8⟩ => ?_
      refine thnF (pt.run _ s8 σ8 H8 _ I8 q8) fun b s9 ⟨H9, I9, q9⟩ => ?_
      have fin : ∀ {s' : Shared} {H' : Hp}, Inv (hotBlk X q s3 H3 scope ce fp) ([] ++ pinsAt fp s7.heap) σ8 H' s' → Nx H' → ∃ m, m < n ∧ ∃ i H', Inv (hotBlk X q s3 H3 scope ce fp) [] (wipe σ (own.map (·.2))) H' s' ∧ tn i s'.heap ∧ (∀ b ∈ fp, H' b = none) ∧ W i m H' := fun {s' H'} I' nx => by
        obtain ⟨m', hm, w'⟩ := hNx H' nx
        have pin' : ∀ b ∈ fp, ∀ o, s7.heap.get? b = some o → s'.heap.get? b = some o ∧ H' b = none := fun b hb o e =>
          let z := I'.pin (b, o) (List.mem_append_right _ (List.mem_append_right _ (mem_pinsAt hb e)))
          ⟨z.1, z.2.1⟩
        refine ⟨m', hm, i + 1, H', (I'.unpinned (pins := [])).weak (by rw [← hw8, wipe_length]) (fun j v e => ?_), T.keep _ _ _ st7 fun b hb o e => (pin' b hb o e).1, fun b hb => ?_, w'⟩
        · rw [← hw8] at e
          exact (wipe_some e).1
        · obtain ⟨o, e, _⟩ := T.obj _ _ st7 b hb
          exact (pin' b hb o e).2
      cases b with
      | false =>
        simp only [Bool.false_eq_true, if_false] at q9 ⊢
        exact fin I9 q9
      | true =>
        simp only [if_true] at q9 ⊢
        refine thnF (pe.run _ s9 σ8 H9 _ I9 q9) fun z s10 ⟨yv, H10, I10, r10, acc, hD10, hz10, nx⟩ => ?_
        exact app_ok (X := hotBlk X q s3 H3 scope ce fp) I10 hD10 hz10 r10 fun s11 I11 => fin I11 nx
  exact codeAny_compStart_list loop (T.self X.A 0 _ _ _ st4 loop)
end
end ER
set_option Elab.async false
set_option linter.all false
set_option maxRecDepth 100000
set_option maxHeartbeats 4000000
/-! the handled error: its classes asked, a def called with it; a raise of an own error with its own __init__ -/
namespace ER
open PySem PySem.Spec PyProof.Rows L2 L2H HotX
/-- of the handled error: its class, its dict as it stands -/
def PinE (H : Hp) (cls : Value) (d : Option Addr) (C : Addr) : Prop := cls = .ref C ∧ ∀ dx, d = some dx → ∃ fs, H dx = some (.xd fs)
theorem PinE.ext {H H' : Hp} {cls : Value} {d : Option Addr} {C : Addr} (h : PinE H cls d C) (x : Ext H H') : PinE H' cls d C := ⟨h.1, fun dx e => by
  obtain ⟨fs, q⟩ := h.2 dx e
  exact ⟨fs, x _ _ q⟩⟩
theorem EC.exm {K : PySem.W.Frag} {C D : Addr} {bm bm' : List Value} (T : EC K C bm) (S : EC K D bm') : PySem.W.exmOne K (.ref C) (.ref D) = some ((Value.ref C :: bm).contains (.ref D)) := by
  obtain ⟨cd, h, e⟩ := T.mr
  unfold PySem.W.exmOne
  rw [S.ox.exC, if_pos (by decide +kernel)]
  show (if ((PySem.W.clsIn K D).isSome && PySem.W.typeIn K (.ref D) == some (.type "type")) = true then PySem.W.mroIn K C (.ref D) else none) = _
  rw [S.ci, S.ox.tyC, if_pos (by decide +kernel)]
  unfold PySem.W.mroIn
  rw [h, Option.bind_some, e, if_neg (by simp)]
section
variable {X : Cx} {q : Addr × PySem.Obj}
/-- isinstance(e, c) of the handled error -/
def rIsP (K : PySem.W.Frag) (a : Addr) (cls : Value) (d : Option Addr) : List V → Hp → VK → Prop := fun xs H Q => ∃ (C : Addr) (bm : List Value) (c : V) (u : Value) (b : Bool), xs = [.ref a, c] ∧ PinE H cls d C ∧ EC K C bm ∧ ClsV c u ∧ PySem.W.kitOne K (.ref C) u = some b ∧ Q (.bl b) H
theorem call_isP (hq : q ∈ X.pn) (hd : ∃ vs, q.2.data = .fields vs) : CallR X (.builtin "isinstance") (rIsP X.K q.1 q.2.cls q.2.dict) := by
  intro pins s σ H xs us Q I r h
  obtain ⟨C, bm, c, u, b, rfl, e, T, k, ee, z⟩ := h
  obtain ⟨u1, u2, rfl, r1, r2⟩ := vals2 r
  cases (show u1 = Value.ref q.1 from r1)
  have e2 := k.eq r2
  subst e2
  obtain ⟨vs, hd⟩ := hd
  have P1 := I.pin q (List.mem_append_left _ hq)
  have J : ∃ od, PySem.W.InstAt s.heap q.1 q.2 C od := by
    cases hdd : q.2.dict with
    | none => exact ⟨none, P1.1, e.1, by unfold PySem.W.notCls; rw [hd] <;> rfl, by rw [hdd]; exact True.intro⟩
    | some dx =>
      obtain ⟨fs, hx⟩ := e.2 dx hdd
      obtain ⟨mA, hns, _⟩ := (show ObjOk X.prog X.w H s.heap dx (.xd fs) from I.hok dx _ hx)
      obtain ⟨od, ho, _⟩ := lookIn_ns hns
      exact ⟨some od, P1.1, e.1, by unfold PySem.W.notCls; rw [hd] <;> rfl, by rw [hdd]; exact ho⟩
  obtain ⟨od, J⟩ := J
  exact PySem.W.kia_one (PySem.W.kitx_exc (od := od) (ox := q.2) T.ci T.ga T.gg T.ox.exC T.ca T.cg T.ct T.mo) I.kIn J ee (fun z => nomatch z) fun tk => ⟨.bl b, H, I.tok tk, rfl, z⟩
end
/-- a def that is called while p is handled, its promise speaks of p -/
structure FnHp (P : Program) (w : World) (K : PySem.W.Frag) (mg : Str → Option Value) (base : Heap) (k : Nat) (f : Addr) (fd : FuncData) (ps : List Str) (sp : Addr × PySem.Obj → Sp) : Prop where
  len : ∀ p vs H Q E, sp p vs H Q E → vs.length = ps.length
  run : ∀ (A : Around) (outer : List Env) (s : Shared) (H : Hp) (args : Args) (us : List Value) (vs : List V) (Q : VK) (E : XK) (p : Addr × PySem.Obj), RoomH k A → Hot1 A p → PinOk outer H s p → Env0 P w K mg base A outer s H → BindsTo s fd args (ps.zip us) → Vals vs us → sp p vs H Q E →
    codeAny (model P w) A (.call (.ref f) args) (L2.CR CX0 outer P w H s Q E) s
theorem fn_ofHp {P : Program} {w : World} {K : PySem.W.Frag} {mg : Str → Option Value} {base : Heap} {k : Nat} {f : Addr} {fd : FuncData} {name qual : Str} {params : Arguments} {body : List Stmt} {scope : Scope} {N ps : List Str} {sp : Addr × PySem.Obj → Sp}
    (F : FunD K name qual params body scope [] [] f fd) (S : FnScope N ps scope) (len : ∀ p vs H Q E, sp p vs H Q E → vs.length = ps.length)
    (hbody : ∀ (cdv : Value) (A : Around) (outer : List Env) (s : Shared) (H : Hp) (vs : List V) (Q : VK) (E : XK) (p : Addr × PySem.Obj), Hot1 A p → RoomH k (A.deeper (envOfC qual scope s.heap.objs.size f cdv)) → sp p vs H Q E →
      ∃ t, PSs (cxH CX0 P w K mg base N qual scope f cdv A outer s H E p) body t ∧ t { nx := fun _ H' => Q .non H', rt := Q } (L2.start N vs) H) : FnHp P w K mg base (k + 1) f fd ps sp := by
  obtain ⟨oc, od, dV, kV, doc, pm, an, cdv, ct, osl, rfl, lk, hcd, _, _⟩ := F.ex
  refine ⟨len, fun A outer s H args us vs Q E p hr hot hpin e0 hb r hsp => ?_⟩
  have hl := len _ _ _ _ _ hsp
  have kb : ∀ b o, base.get? b = some o → s.heap.get? b = some o := fun b o e => (e0.bs b o e).1
  have KX : K.In s.heap := e0.mod.kin.keeps kb
  have kinds : ∀ y ∈ ps.zip us, scope.names.lookup y.1 = some .local ∨ (scope.names.lookup y.1 = some .cell ∧ ((cellsFrom (s.heap.objs.size + 1) scope.names []).lookup y.1).isSome = true) := fun ⟨n, v⟩ hy =>
    (S.par n (List.of_mem_zip hy).1).elim .inl fun z => .inr ⟨z, PySem.W.cellsFrom_some _ _ _ (.inl z)⟩
  refine codeAny_call_function hr.depth (KX _ _ lk) rfl S.co S.gen rfl (PySem.W.codeRec_of KX hcd) (hb _ _ _ _ ?_)
  refine wpAny_newFunctionEnv_cells S.kind kinds fun env he s1 x => ?_
  subst he
  refine ⟨(e0.mod.nolimit.keeps kb).keeps x.toInCall.keep, codeAny_func ?_⟩
  obtain ⟨t, ht, hq⟩ := hbody cdv A outer s H vs Q E p hot (hr.deeper _) hsp
  have I : Inv (cxH CX0 P w K mg base N qual scope f cdv A outer s H E p) [] (L2.start N vs) H s1 := inv_startH S hpin e0 hl r x
  refine wpAny_mono (ht.run [] s1 (L2.start N vs) H _ I hq) (fun fl s' hs => ?_) fun e s' hs => hs
  cases fl with
  | ret u =>
    obtain ⟨v, σ', H', J, rv, z⟩ := hs
    exact ⟨v, H', J.os, J.bare, J.base, J.hok, rv, z⟩
  | next =>
    obtain ⟨σ', H', J, z⟩ := hs
    exact ⟨V.non, H', J.os, J.bare, J.base, J.hok, rfl, z⟩
  | brk =>
    obtain ⟨_, _, _, z⟩ := hs
    exact False.elim z
  | cont =>
    obtain ⟨_, _, _, z⟩ := hs
    exact False.elim z
section
variable {X : Cx} {q : Addr × PySem.Obj} {k : Nat} {f : Addr} {fd : FuncData} {ps : List Str} {sp : Addr × PySem.Obj → Sp} {x : Str} {p pos : Pos} {e : Expr} {es : List Expr} {t : TA}
theorem pe_callHp (F : FnHp X.prog X.w X.K X.mg X.base k f fd ps sp) (hr : RoomH k X.A) (hot : Hot1 X.A q) (hq : q ∈ X.pn) (hg : Gl X x) (hm : X.mg x = some (.ref f)) (hk : PySem.W.keepIn X.K (.ref f) = true) (hb : Binds X.K fd ps [])
    (ha : PA X (e :: es) t) (hdb : (x == ("__debug__" : Str)) = false := by decide) (he : starEach (e :: es) X.env = (false, eval e X.env) :: starEach es X.env := by rfl) (hpl : (backTo pos (starEach es X.env)).any (·.1) = false := by rfl) :
    PE X (.Call (.Name x p) (e :: es) [] pos) (tCall (sp q) [] E0 t) := by
  refine ⟨fun pins s σ H Q I h => ?_⟩
  refine wpAny_Call_Name_kw (ld_glob I hg hm ?_ hdb)
  refine PySem.W.callWith_K (h₀ := X.base) I.ok.mod.kin hk (thn (ha.run pos pins s σ H _ I h) fun us s1 ⟨vs, H1, I1, r, z⟩ => ⟨I1.kIn, ?_⟩) he hpl
  have z : sp q (vs ++ []) H1 Q E0 := z
  rw [List.append_nil] at z
  have hl : us.length = ps.length := r.length.symm.trans (F.len _ _ _ _ _ z)
  have b := hb s1 us I1.kIn (by rw [List.append_nil]; exact hl)
  rw [List.append_nil] at b
  have P1 := I1.pin q (List.mem_append_left _ hq)
  have hpin : PinOk X.stack H1 s1 q := ⟨P1.1, P1.2.1, fun hm => (List.mem_cons.mp (I1.stkSub q.1 hm)).elim P1.2.2.1 P1.2.2.2.1, P1.2.2.2.2⟩
  refine wpAny_call (codeAny_mono (F.run X.A X.stack s1 H1 ⟨us, []⟩ us vs Q E0 q hr hot hpin I1.env0 b r z) fun r s' hq' => ?_)
  cases r with
  | error er => exact (pass0 (X := X) pins σ H1 s1 er s' I1 hq')
  | ok fl =>
    cases fl with
    | ret u => exact I1.after hq'
    | next => exact False.elim hq'
    | brk => exact False.elim hq'
    | cont => exact False.elim hq'
end
section
variable {X : Cx} {CX : CXT} {x : Str} {C fI : Addr} {k : Nat} {fd : FuncData} {ps : List Str} {sp : Sp} {e : Expr} {es : List Expr} {ta : TA} {p pos : Pos}
/-- C(e, ..) that is raised, C with its own __init__ -/
theorem pmk_N (T : OexC X.K C) (iC : PySem.W.findIn X.K (.ref C) "__init__" = some (some (.ref fI))) (tI : PySem.W.typeIn X.K (.ref fI) = some (.type "function"))
    (F1 : FnOk X.prog X.w X.K X.mg X.base CX k fI fd ps sp) (hr : Room (k + 1) X.A) (hb : Binds X.K fd ps []) (hx : Passes CX X (fun _ _ _ => False)) (hg : Gl X x) (hm : X.mg x = some (.ref C)) (ha : PA X (e :: es) ta)
    (hdb : (x == ("__debug__" : Str)) = false := by decide) (he : starEach (e :: es) X.env = (false, eval e X.env) :: starEach es X.env := by rfl) (hpl : (backTo pos (starEach es X.env)).any (·.1) = false := by rfl) :
    L2N.PMk X (.Call (.Name x p) (e :: es) [] pos) (tMkO C sp [] ta) := by
  intro pins s σ H Q I h
  obtain ⟨nm, q, N, bs, bm, sn, sub, ab, col, dd, k0, k1, k2, k3, k5, hC, hbm⟩ := T.cls
  refine wpAny_Call_Name_kw (ld_glob I hg hm ?_ hdb)
  refine PySem.W.callWith_K (h₀ := X.base) I.ok.mod.kin T.kC (thn (ha.run pos pins s σ H _ I h) fun us s1 ⟨vs, H1, I1, r1, hz, q1⟩ => ⟨I1.kIn, ?_⟩) he hpl
  show wpAny _ _ (call (.ref C) us) _ _ _
  obtain ⟨hp, g, dr, tk, os⟩ := s1
  have hsz : hp.objs.size ≤ hp.objs.size + 1 := Nat.le_succ _
  have hn : H1 (hp.objs.size + 1) = none := I1.hok.fresh hsz
  have hq := q1 (hp.objs.size + 1) hn
  rw [List.append_nil] at hq
  have kk : ∀ b o, hp.get? b = some o → ((hp.push (PySem.W.kdv_tup us)).push (PySem.HandSPX.excO C hp.objs.size)).get? b = some o := fun b o e => Heap.get?_push_of_some _ (Heap.get?_push_of_some _ e)
  have hget : ((hp.push (PySem.W.kdv_tup us)).push (PySem.HandSPX.excO C hp.objs.size)).get? (hp.objs.size + 1) = some (PySem.HandSPX.excO C hp.objs.size) := by heap_get
  have I2 : Inv X pins σ (upd H1 (hp.objs.size + 1) (exo (hp.objs.size + 1) C none)) ⟨(hp.push (PySem.W.kdv_tup us)).push (PySem.HandSPX.excO C hp.objs.size), g, dr, tk, os⟩ :=
    I1.laid (t' := tk) (a := hp.objs.size + 1) (o := exo (hp.objs.size + 1) C none) (h' := (hp.push (PySem.W.kdv_tup us)).push (PySem.HandSPX.excO C hp.objs.size)) kk hsz (exo_ok hget)
  have r2 : Vals (V.ref (hp.objs.size + 1) :: vs) (Value.ref (hp.objs.size + 1) :: us) := .cons rfl r1
  have hl : (Value.ref (hp.objs.size + 1) :: us ++ []).length = ps.length := by
    rw [List.append_nil]
    exact r2.length.symm.trans (F1.len _ _ _ _ hq)
  have b2 := hb _ (Value.ref (hp.objs.size + 1) :: us) I2.kIn hl
  rw [List.append_nil] at b2
  refine wpAny_call (PySem.XE.cls_run F.excBase_ValueError (fun Y => PySem.HandSPX.refsVE_contains Y bm hbm) (I1.kIn _ _ hC) (PySem.W.looks_findIn I1.kIn iC) (fun self => PySem.W.bind_fn I1.kIn self tI) (by rw [← Paired.length r1, sizeLine_eq]; omega)
    (codeAny_mono (F1.run _ X.stack _ _ ⟨Value.ref (hp.objs.size + 1) :: us, []⟩ (Value.ref (hp.objs.size + 1) :: us) _ _ (fun _ _ _ => False) (hr.make C us []) (I2.env0.make C us []) b2 r2 hq) fun r s' hq' => ?_))
  cases r with
  | error er => exact hx pins σ _ _ er s' I2 hq'
  | ok fl =>
    cases fl with
    | ret u =>
      obtain ⟨v, H2, os2, bare2, un2, hok2, rv, ev, d, fs, ea, ed, hd1, q2⟩ := hq'
      subst ev
      obtain ⟨h2, g2, d2, t2, os'⟩ := s'
      obtain ⟨t0, G, J, kG, ge, hoe, na⟩ := mk_end0 (d2 := d2) (t2 := t2) I1 hsz kk un2 hok2 os2 bare2 ea ed hd1
      exact ⟨rv, hp.objs.size + 1, _, _, ⟨G, g2, d2, t2, os'⟩, _, .ref C, some d, rfl, J, kG, ge, hoe, ⟨rfl, rfl, fun vs hv => by cases hv; rfl⟩, rfl, rfl, na, rfl, bare2, raises_own T.exC T.tyC, q2⟩
    | next => exact False.elim hq'
    | brk => exact False.elim hq'
    | cont => exact False.elim hq'
end
end ER
set_option Elab.async false
set_option linter.all false
set_option maxRecDepth 100000
set_option maxHeartbeats 4000000
namespace ER
open PySem PySem.Spec PyProof.Rows L2 L2H HotX
/-- the kinds of the handled error at a -/
def spKA (K : PySem.W.Frag) (a : Addr) (cls : Value) (d : Option Addr) : Sp := fun vs H Q _ => ∃ x : Str, vs = [.ref a] ∧ x ∈ errs ∧ PinE H cls d (He.ga K x) ∧ ∀ H' p, Ext H H' → H p = none → H' p = some (.lst ((kindsOf x).map fun i => V.int (i : Nat))) → Q (.ref p) H'
section
variable {P : Program} {w : World} {K : PySem.W.Frag} {mg : Str → Option Value} {base : Heap} {f : Addr} {fd : FuncData}
theorem ok_kindsH (F : FnP K "_law_kinds_of" sKinds f fd) (W : Wd P w K mg base) (gIs : mg "isinstance" = none) (gR : mg "range" = none) : FnHp P w K mg base 1 f fd ["e"] (fun q => spKA K q.1 q.2.cls q.2.dict) := by
  refine fn_ofHp F scKinds (fun p vs H Q E h => ?_) (fun cdv A outer s H vs Q E p hot hr h => ?_)
  · obtain ⟨x, rfl, _⟩ := h
    rfl
  have hot2 : Hot1 (cxH CX0 P w K mg base ["e", "told", "k"] "_law_kinds_of" (defScope sKinds) f cdv A outer s H E p).A p := ⟨hot.1, hot.2⟩
  have hp : p ∈ (cxH CX0 P w K mg base ["e", "told", "k"] "_law_kinds_of" (defScope sKinds) f cdv A outer s H E p).pn := List.mem_singleton.mpr rfl
  have hd : ∃ vs, p.2.data = .fields vs := by
    obtain ⟨_, vs, h, _⟩ := hot
    exact ⟨vs, h⟩
  refine ⟨_, pss_cons (ps_set (i := 1) scKinds.nd rfl (.inr rfl) (pe_lst (pa_cons (pe_callB (call_isP (q := p) hp hd) (by rfl) gIs (by decide +kernel) (pa_cons (pv 0) (pa_cons (pe_glob (v := .ref (He.ga K "BadWay")) rfl (W.gl "BadWay" (by decide +kernel)) rfl) pa_nil))) (pa_cons (pe_callB (call_isP (q := p) hp hd) (by rfl) gIs (by decide +kernel) (pa_cons (pv 0) (pa_cons (pe_glob (v := .ref (He.ga K "CannotPutIn")) rfl (W.gl "CannotPutIn" (by decide +kernel)) rfl) pa_nil))) (pa_cons (pe_callB (call_isP (q := p) hp hd) (by rfl) gIs (by decide +kernel) (pa_cons (pv 0) (pa_cons (pe_glob (v := .ref (He.ga K "BadEdit")) rfl (W.gl "BadEdit" (by decide +kernel)) rfl) pa_nil))) (pa_cons (pe_callB (call_isP (q := p) hp hd) (by rfl) gIs (by decide +kernel) (pa_cons (pv 0) (pa_cons (pe_glob (v := .ref (He.ga K "BadSession")) rfl (W.gl "BadSession" (by decide +kernel)) rfl) pa_nil))) pa_nil))))))
      (pss_cons (ps_expr (pe_bm PySem.F.plainAttrs_list PySem.F.slot_list_extend PySem.F.type_list_extend mt_extend (pv 1) (pa_cons (pe_lst (pa_cons (pe_callB (call_isP (q := p) hp hd) (by rfl) gIs (by decide +kernel) (pa_cons (pv 0) (pa_cons (pe_glob (v := .ref (He.ga K "BadSessionText")) rfl (W.gl "BadSessionText" (by decide +kernel)) rfl) pa_nil))) (pa_cons (pe_callB (call_isP (q := p) hp hd) (by rfl) gIs (by decide +kernel) (pa_cons (pv 0) (pa_cons (pe_glob (v := .ref (He.ga K "BadRoad")) rfl (W.gl "BadRoad" (by decide +kernel)) rfl) pa_nil))) (pa_cons (pe_callB (call_isP (q := p) hp hd) (by rfl) gIs (by decide +kernel) (pa_cons (pv 0) (pa_cons (pe_glob (v := .ref (He.ga K "NothingToUndo")) rfl (W.gl "NothingToUndo" (by decide +kernel)) rfl) pa_nil))) (pa_cons (pe_callB (call_isP (q := p) hp hd) (by rfl) gIs (by decide +kernel) (pa_cons (pv 0) (pa_cons (pe_glob (v := .ref (He.ga K "NothingToRedo")) rfl (W.gl "NothingToRedo" (by decide +kernel)) rfl) pa_nil))) pa_nil))))) pa_nil)))
      (pss_one (ps_ret (pe_lcH (q := p) (own := [("k", 2)]) (g := gName 2) (tt := tTest (tOp (rIxL K) (tVar 1) (tVar 2))) (te := tVar 2) hot2 hp scKinds.nd (pi_range1H rfl gR (pa_cons pe_int pa_nil)) (blkOk_by (own := [("k", 2)]) (N := ["e", "told", "k"]) (sc := defScope sKinds) (by decide +kernel)) (fun _ _ _ _ _ => pg_name (i := 2) scKinds.nd rfl (Or.inl rfl)) (fun _ _ _ _ _ => pts_one (pt_val (pe_ix ix_list (pv 1) (pv 2) (fun _ _ => rfl)))) (fun _ _ _ _ _ => pv 2))))), ?_⟩
  obtain ⟨x, rfl, hx, e, k⟩ := h
  refine ⟨_, rfl, _, _, .ref (He.ga K "BadWay"), _, _, rfl, e, W.ec x hx, .own _, W.kit hx (by decide +kernel), _, rfl, _, _, .ref (He.ga K "CannotPutIn"), _, _, rfl, e, W.ec x hx, .own _, W.kit hx (by decide +kernel), _, rfl, _, _, .ref (He.ga K "BadEdit"), _, _, rfl, e, W.ec x hx, .own _, W.kit hx (by decide +kernel), _, rfl, _, _, .ref (He.ga K "BadSession"), _, _, rfl, e, W.ec x hx, .own _, W.kit hx (by decide +kernel), (by show 4 ≤ sizeLine; decide), fun t nt => ?_⟩
  have e1 : PinE (upd H t (.lst [.bl (isN x "BadWay"), .bl (isN x "CannotPutIn"), .bl (isN x "BadEdit"), .bl (isN x "BadSession")])) p.2.cls p.2.dict (He.ga K x) := e.ext (Ext.new nt)
  refine ⟨_, rfl, .inl ⟨rfl, _, SqL.of upd_same⟩, ?_⟩
  refine ⟨_, rfl, _, _, .ref (He.ga K "BadSessionText"), _, _, rfl, e1, W.ec x hx, .own _, W.kit hx (by decide +kernel), _, rfl, _, _, .ref (He.ga K "BadRoad"), _, _, rfl, e1, W.ec x hx, .own _, W.kit hx (by decide +kernel), _, rfl, _, _, .ref (He.ga K "NothingToUndo"), _, _, rfl, e1, W.ec x hx, .own _, W.kit hx (by decide +kernel), _, rfl, _, _, .ref (He.ga K "NothingToRedo"), _, _, rfl, e1, W.ec x hx, .own _, W.kit hx (by decide +kernel), (by show 4 ≤ sizeLine; decide), fun u nu => ?_⟩
  have ntu : u ≠ t := fun z => by rw [z, upd_same] at nu; cases nu
  refine ⟨t, u, _, _, rfl, rfl, (upd_ne (Ne.symm ntu)).trans upd_same, upd_same, (by show 8 ≤ sizeLine; decide), ?_⟩
  have nu0 : H u = none := by
    rw [upd_ne ntu] at nu
    exact nu
  have x3 : Ext H (upd (upd (upd H t (.lst [.bl (isN x "BadWay"), .bl (isN x "CannotPutIn"), .bl (isN x "BadEdit"), .bl (isN x "BadSession")])) u (.lst [.bl (isN x "BadSessionText"), .bl (isN x "BadRoad"), .bl (isN x "NothingToUndo"), .bl (isN x "NothingToRedo")])) t (.lst ([.bl (isN x "BadWay"), .bl (isN x "CannotPutIn"), .bl (isN x "BadEdit"), .bl (isN x "BadSession")] ++ [.bl (isN x "BadSessionText"), .bl (isN x "BadRoad"), .bl (isN x "NothingToUndo"), .bl (isN x "NothingToRedo")]))) := fun b o q => by
    have h1 := ne_of_none q nt
    rw [upd_ne h1, upd_ne (ne_of_none q nu0), upd_ne h1]
    exact q
  have e3 : (upd (upd (upd H t (.lst [.bl (isN x "BadWay"), .bl (isN x "CannotPutIn"), .bl (isN x "BadEdit"), .bl (isN x "BadSession")])) u (.lst [.bl (isN x "BadSessionText"), .bl (isN x "BadRoad"), .bl (isN x "NothingToUndo"), .bl (isN x "NothingToRedo")])) t (.lst ([.bl (isN x "BadWay"), .bl (isN x "CannotPutIn"), .bl (isN x "BadEdit"), .bl (isN x "BadSession")] ++ [.bl (isN x "BadSessionText"), .bl (isN x "BadRoad"), .bl (isN x "NothingToUndo"), .bl (isN x "NothingToRedo")]))) t = some (.lst ((kinds.map fun y => V.bl (isN x y)))) := upd_same
  generalize (upd (upd (upd H t (.lst [.bl (isN x "BadWay"), .bl (isN x "CannotPutIn"), .bl (isN x "BadEdit"), .bl (isN x "BadSession")])) u (.lst [.bl (isN x "BadSessionText"), .bl (isN x "BadRoad"), .bl (isN x "NothingToUndo"), .bl (isN x "NothingToRedo")])) t (.lst ([.bl (isN x "BadWay"), .bl (isN x "CannotPutIn"), .bl (isN x "BadEdit"), .bl (isN x "BadSession")] ++ [.bl (isN x "BadSessionText"), .bl (isN x "BadRoad"), .bl (isN x "NothingToUndo"), .bl (isN x "NothingToRedo")]))) = H3 at x3 e3 ⊢
  refine ⟨8, rfl, by decide, by decide, fun D nD => ?_⟩
  have htD : t ≠ D := fun z => by rw [z, nD] at e3; cases e3
  refine lc_range (lo := 0) (n := 8) (fun i H' => ∃ ks : List Nat, ks = (List.range i).filter (fun i => match kinds[i]? with | some y => isN x y | none => false) ∧ Ext H3 H' ∧ H' D = some (.lst (ks.map fun i => V.int (i : Nat)))) ⟨[], rfl, Ext.new nD, upd_same⟩ ?_ ?_
  · rintro i H4 hi ⟨ks, rfl, x4, e4⟩
    have hi2 : i < kinds.length := hi
    have hk : kinds[i]? = some kinds[i] := List.getElem?_eq_getElem hi2
    refine ⟨rfl, _, rfl, _, rfl, t, _, 0 + (i : Int), _, rfl, rfl, SqL.of (x4 _ _ e3), atI_get? (by rw [List.getElem?_map, hk]; rfl), _, rfl, ?_⟩
    have step : (List.range (i + 1)).filter (fun i => match kinds[i]? with | some y => isN x y | none => false) = (List.range i).filter (fun i => match kinds[i]? with | some y => isN x y | none => false) ++ (if isN x kinds[i] = true then [i] else []) := by
      rw [List.range_succ, List.filter_append]
      congr 1
      rw [List.filter_cons, hk]
      rfl
    cases hb : isN x kinds[i] with
    | true =>
      rw [hb, if_pos rfl] at step
      refine if_pos_of rfl ⟨_, rfl, _, e4, ?_, _, rfl, ?_, ?_⟩
      · rw [List.length_map]
        refine Nat.lt_of_le_of_lt (List.length_filter_le _ _) ?_
        rw [List.length_range]
        exact Nat.lt_trans hi (by decide)
      · intro b o q
        by_cases hbD : b = D
        · rw [hbD, nD] at q
          cases q
        · rw [upd_ne hbD]
          exact x4 b o q
      · rw [step, upd_same, List.map_append, List.map_singleton, Int.zero_add]
    | false =>
      rw [hb, if_neg Bool.false_ne_true, List.append_nil] at step
      refine if_neg_of rfl ⟨_, rfl, x4, ?_⟩
      rw [step]
      exact e4
  · rintro H4 ⟨ks, rfl, x4, e4⟩
    refine k _ _ (x3.trans x4) ?_ e4
    cases hD : H D with
    | none => rfl
    | some o =>
      have z := x3 _ _ hD
      rw [nD] at z
      cases z
end
end ER
set_option Elab.async false
set_option linter.all false
set_option maxRecDepth 100000
set_option maxHeartbeats 4000000
namespace ER
open PySem PySem.Spec PyProof.Rows L2 L2H
abbrev sCaught : Stmt := top 56
theorem scCaught : FnScope ["x", "e", "told", "plain"] ["x"] (defScope sCaught) := ⟨rfl, rfl, rfl, by decide +kernel, rfl, by decide +kernel, by decide +kernel⟩
/-- what is told of the caught error and of a plain one -/
def spCaught : Sp := fun vs H Q _ => ∃ y : V, vs = [y] ∧ ∀ (H' : Hp) (t p q : Addr), Ext H H' → H' t = some (.tup [.ref p, .ref q, .bl false, .bl true]) → H' p = some (.lst [.int 4]) → H' q = some (.lst []) → Q (.ref t) H'
theorem kinds_caught : kindsOf "BadSessionText" = [4] ∧ kindsOf "RunError" = [] ∧ others.any (isN "RunError") = false := by decide +kernel
theorem takesN {X : Cx} : L2N.Takes X (fun _ _ _ _ => False) := fun _ _ x => by
  obtain ⟨_, _, _, _, _, _, _, _, _, _, _, _, _, _, _, _, z⟩ := x
  exact z.elim
section
variable {P : Program} {w : World} {K : PySem.W.Frag} {mg : Str → Option Value} {base : Heap} {f f5 f7 : Addr} {fd d5 d7 : FuncData}
theorem ok_caught (F : FnP K "_law_caught" sCaught f fd) (F5 : FnP K "_law_kinds_of" sKinds f5 d5) (g5 : mg "_law_kinds_of" = some (.ref f5)) (F7 : FnP K "_law_is_other" sIsO f7 d7) (g7 : mg "_law_is_other" = some (.ref f7)) (W : Wd P w K mg base) (B : Bn mg) (ve : mg "ValueError" = none) :
    FnOk P w K mg base CX0 3 f fd ["x"] spCaught := by
  have G5 := ok_kinds F5 W B.isi B.rng
  have G5H := ok_kindsH F5 W B.isi B.rng
  have G7 := ok_isO F7 W B.isi
  have b5 : Binds K d5 ["e"] [] := F5.bindsN fun _ _ _ _ _ _ us hl => match us, hl with | [_], _ => rfl
  have b7 : Binds K d7 ["e"] [] := F7.bindsN fun _ _ _ _ _ _ us hl => match us, hl with | [_], _ => rfl
  have cS := W.cr ("BadSessionText", "line") (by decide +kernel)
  obtain ⟨fdS, FS, bS, _⟩ := cS.ok
  have hS : ("BadSessionText" : Str) ∈ errs := by decide +kernel
  have hR : ("RunError" : Str) ∈ errs := by decide +kernel
  refine F.ok scCaught (fun vs H Q E h => ?_) (fun cdv A outer s H vs Q E hr h => ?_)
  · obtain ⟨y, rfl, _⟩ := h
    rfl
  have hr1 : Room 1 _ := hr.mono (by decide)
  refine ⟨_, PSs.nox (pss_cons (L2N.ps_try_as (i := 1) (Wout := fun _ _ _ _ => False) (ts := fun a cls d => tAsg (tCall (spKA K a cls d) [] E0 (tCons (tVar 1) tNil)) (gName 2)) rfl rfl scCaught.nd rfl rfl ⟨rfl, by decide, .inl (W.gl "RunError" hR)⟩ takesN
        (fun W' pn xe tk _ => pss_one (L2N.ps_raise rfl tk (pmk_N (W.ec "BadSessionText" hS).ox cS.iC cS.tI FS hr bS pass0 rfl (W.gl "BadSessionText" hS) (pa_cons (pv 0) pa_nil))))
        (fun a oe cls d pn hz hf => by
          obtain ⟨rfl, rfl, hc⟩ := hz
          obtain ⟨vs, hv⟩ := hf
          exact pss_one (ps_set (i := 2) scCaught.nd rfl (.inl rfl) (pe_callHp (q := (a, oe)) (sp := fun q => spKA K q.1 q.2.cls q.2.dict) G5H (roomH_mark hr1 _) ⟨rfl, vs, hv, hc vs hv⟩ List.mem_cons_self rfl g5 F5.kp b5 (pa_cons (pv 1) pa_nil)))))
      (pss_cons (ps_set (i := 3) scCaught.nd rfl (.inl rfl) (W.pe0 (x := "RunError") (by decide +kernel) hR rfl))
      (pss_one (ps_ret (pe_tup (pa_cons (pv 2) (pa_cons (pe_call G5 hr1 rfl g5 F5.kp b5 .nil pass0 (pa_cons (pv 3) pa_nil)) (pa_cons (pe_call G7 hr1 rfl g7 F7.kp b7 .nil pass0 (pa_cons (pv 3) pa_nil)) (pa_cons (pe_callB call_isE (by rfl) B.isi (by decide +kernel) (pa_cons (pv 3) (pa_cons (pe_bltn (v := .ty "ValueError") (by rfl) ve (by decide +kernel) rfl) pa_nil))) pa_nil))))))))), ?_⟩
  obtain ⟨y, rfl, k⟩ := h
  obtain ⟨k1, k2, k3⟩ := kinds_caught
  refine ⟨_, rfl, (by show 1 ≤ 1000; decide), fun a na => ⟨a, y, rfl, upd_same, fun dx ndx ne => ⟨rfl, dx, [("line", y)], upd_same, (upd_ne ne).trans upd_same, ?_, true, ?_, fun _ a0 na0 => ?_, fun z => Bool.noConfusion z⟩⟩⟩
  · rw [upd_ne ne] at ndx
    exact ndx
  · refine ((W.ec "BadSessionText" hS).exm (W.ec "RunError" hR)).trans ?_
    show some ((Value.ref (He.ga K "BadSessionText") :: Value.ref (He.ga K "RunError") :: PySem.HandSPX.veTail).contains (Value.ref (He.ga K "RunError"))) = some true
    simp
  have ndx0 : H dx = none := by
    rw [upd_ne ne] at ndx
    exact ndx
  have x1 : Ext H (upd (del (upd (upd (upd H a (exo a (He.ga K "BadSessionText") none)) dx (exd dx [("line", y)])) a (exo a (He.ga K "BadSessionText") (some dx))) a) dx (.xd [("line", y)])) := fun b o e => by
    have h1 := ne_of_none e na
    have h2 := ne_of_none e ndx0
    rw [upd_ne h2, del_ne h1, upd_ne h1, upd_ne h2, upd_ne h1]
    exact e
  have e1 : (upd (del (upd (upd (upd H a (exo a (He.ga K "BadSessionText") none)) dx (exd dx [("line", y)])) a (exo a (He.ga K "BadSessionText") (some dx))) a) dx (.xd [("line", y)])) dx = some (.xd [("line", y)]) := upd_same
  generalize (upd (del (upd (upd (upd H a (exo a (He.ga K "BadSessionText") none)) dx (exd dx [("line", y)])) a (exo a (He.ga K "BadSessionText") (some dx))) a) dx (.xd [("line", y)])) = H1 at x1 e1 na0 ⊢
  refine ⟨_, rfl, "BadSessionText", rfl, hS, ⟨rfl, fun d e => ?_⟩, fun H2 p x2 np ep => ?_⟩
  · cases e
    exact ⟨_, e1⟩
  rw [k1] at ep
  intro H3 a3 x3 n3 e3
  refine ⟨_, rfl, _, rfl, a3, "RunError", rfl, hR, e3, fun H4 q x4 nq eq => ?_⟩
  rw [k2] at eq
  refine ⟨_, rfl, a3, "RunError", rfl, hR, e3.ext x4, fun H5 x5 => ?_⟩
  rw [k3]
  refine ⟨_, rfl, a3, _, _, .ty "ValueError", _, true, rfl, (e3.ext x4).ext x5, W.ec "RunError" hR, .ty _, (W.ec "RunError" hR).kitT (by decide +kernel) (by decide +kernel), (by show 4 ≤ sizeLine; decide), fun t nt => ?_⟩
  have x6 := Ext.new (o := .tup [.ref p, .ref q, .bl false, .bl true]) nt
  exact k _ t p q (((((x1.trans x2).trans x3).trans x4).trans x5).trans x6) upd_same (x6 _ _ (x5 _ _ (x4 _ _ (x3 _ _ ep)))) (x6 _ _ (x5 _ _ eq))
end
end ER
set_option Elab.async false
set_option linter.all false
set_option maxRecDepth 100000
set_option maxHeartbeats 4000000
namespace ER
open PySem PySem.Spec PyProof.Rows L2 RZ
abbrev sLaw : Stmt := top 57
abbrev NL : List Str := ["script", "state", "k", "at", "one", "two", "made", "kept", "other", "others", "e"]
theorem scLaw : FnScope NL ["script"] (defScope sLaw) := ⟨rfl, rfl, rfl, by decide +kernel, rfl, by decide +kernel, by decide +kernel⟩
def spLaw (K : PySem.W.Frag) : Sp := fun vs H Q _ => ∃ (a : Addr) (cells : List Int), vs = [.ref a] ∧ SqL K H a (cells.map V.int) ∧ ∀ H', Q (.bl true) H'
/-- the defs and names that the law calls -/
structure Al (P : Program) (w : World) (K : PySem.W.Frag) (mg : Str → Option Value) (base : Heap) : Prop where
  W : Wd P w K mg base
  B : Bn mg
  ve : mg "ValueError" = none
  ke : mg "KeyError" = none
  ie : mg "IndexError" = none
  te : mg "TypeError" = none
  start : ∃ f fd, mg "_law_start" = some (.ref f) ∧ FnP K "_law_start" sStart f fd
  pick : ∃ f fd, mg "_law_pick" = some (.ref f) ∧ FnP K "_law_pick" sPick f fd
  betw : ∃ f fd, mg "_law_between" = some (.ref f) ∧ FnP K "_law_between" sBetw f fd
  same : ∃ f fd, mg "_law_same" = some (.ref f) ∧ FnP K "_law_same" sSame f fd
  kinds : ∃ f fd, mg "_law_kinds_of" = some (.ref f) ∧ FnP K "_law_kinds_of" sKinds f fd
  others : ∃ f fd, mg "_law_others" = some (.ref f) ∧ FnP K "_law_others" sOthers f fd
  isO : ∃ f fd, mg "_law_is_other" = some (.ref f) ∧ FnP K "_law_is_other" sIsO f fd
  mF : ∃ f fd, mg "_law_made_a" = some (.ref f) ∧ FnP K "_law_made_a" sMadeA f fd
  mA : ∃ f fd, mg "_law_made_at" = some (.ref f) ∧ FnP K "_law_made_at" sMade f fd
  obj : ∃ f fd, mg "_law_object" = some (.ref f) ∧ FnP K "_law_object" sObj f fd
  very : ∃ f fd, mg "_law_very" = some (.ref f) ∧ FnP K "_law_very" sVery f fd
  caught : ∃ f fd, mg "_law_caught" = some (.ref f) ∧ FnP K "_law_caught" sCaught f fd
theorem kinds_own : ∀ i : Fin 8, ∃ c, kinds[i.1]? = some c ∧ c ∈ errs ∧ kindsOf c = [i.1] ∧ others.any (isN c) = false := by
  have h : ∀ i : Fin 8, (match kinds[i.1]? with | some c => decide (c ∈ errs) && (decide (kindsOf c = [i.1]) && !others.any (isN c)) | none => false) = true := by decide +kernel
  intro i
  have hi := h i
  split at hi
  · rename_i c hc
    obtain ⟨h1, h2⟩ := bb hi
    obtain ⟨h2, h3⟩ := bb h2
    exact ⟨c, hc, of_decide_eq_true h1, of_decide_eq_true h2, by simpa using h3⟩
  · cases hi
theorem made_none : ∀ c ∈ made, c ∈ errs ∧ kindsOf c = [] := by
  have h : (made.all fun c => decide (c ∈ errs) && decide (kindsOf c = [])) = true := by decide +kernel
  intro c hc
  obtain ⟨h1, h2⟩ := bb (List.all_eq_true.mp h c hc)
  exact ⟨of_decide_eq_true h1, of_decide_eq_true h2⟩
theorem St.ext {H H' : Hp} {s l : Addr} {n : Nat} (h : St H s l n) (x : Ext H H') : St H' s l n := by
  obtain ⟨e, cs, c, m, hs, hl, r⟩ := h
  exact ⟨e, cs, c, m, x _ _ hs, x _ _ hl, r⟩
/-- the place: drawn ahead of the eighth turn, then the turn's own -/
def tAt : TE := tIf (tTest (tOp (rI0 fun i j => .bl (decide (i < j))) (tVar 2) (tC (.int 8))))
  (tOp (rI (fun _ j => j ≠ 0) fun i j => .int (i.fmod j)) (tCB (fun xs H Q => (∃ i, xs = [.int i] ∧ Q (.int i) H) ∨ ∃ k, xs = [.bl k] ∧ Q (.int (if k = true then 1 else 0)) H) (tCons (tOp (rI0 fun i j => .int (i + j)) (tVar 2) (tCall spPick [] E0 (tCons (tVar 1) (tCons (tC (.int 8)) tNil)))) tNil)) (tC (.int 8)))
  (tOp (rI0 fun i j => .int (i - j)) (tVar 2) (tC (.int 8)))
theorem at_ok {a s l : Addr} {i n : Nat} {r : List (Option V)} {H : Hp} {Q : VK} (hi : i < 16) (st : St H s l n) (hn : n < 1000000) (k : ∀ (j n' : Nat) H', j < 8 → n' ≤ n + 1 → St H' s l n' → Q (.int (j : Nat)) H') :
    tAt (some (.ref a) :: some (.ref s) :: some (.int (i : Nat)) :: r) H Q := by
  refine ⟨_, rfl, _, _, rfl, rfl, _, rfl, ?_⟩
  by_cases c : ((i : Nat) : Int) < 8
  · refine if_pos_of (decide_eq_true c) ?_
    refine ⟨_, rfl, _, rfl, s, l, n, 8, rfl, st, hn, by decide, by decide, fun H' d d0 d1 st' _ => ⟨_, _, rfl, rfl, .inl ⟨_, rfl, _, _, rfl, rfl, (by show (8 : Int) ≠ 0; decide), ?_⟩⟩⟩
    have h := fmod_lt (a := (i : Int) + d) (b := 8) (by decide)
    obtain ⟨j, hj⟩ : ∃ j : Nat, ((i : Int) + d).fmod 8 = (j : Nat) := ⟨(((i : Int) + d).fmod 8).toNat, by omega⟩
    have := k j (n + 1) H' (by omega) (Nat.le_refl _) st'
    rw [← hj] at this
    exact this
  · refine if_neg_of (decide_eq_false c) ?_
    refine ⟨_, rfl, _, _, rfl, rfl, ?_⟩
    obtain ⟨j, hj⟩ : ∃ j : Nat, i = j + 8 := ⟨i - 8, by omega⟩
    have e : ((i : Nat) : Int) - 8 = ((j : Nat) : Int) := by omega
    have := k j n H (by omega) (by omega) st
    rw [← e] at this
    exact this
section
variable {P : Program} {w : World} {K : PySem.W.Frag} {mg : Str → Option Value} {base : Heap} {f : Addr} {fd : FuncData}
theorem ok_law (F : FnP K "law" sLaw f fd) (A : Al P w K mg base) : FnOk P w K mg base CX0 6 f fd ["script"] (spLaw K) := by
  obtain ⟨f1, d1, g1, F1⟩ := A.start
  obtain ⟨f2, d2, g2, F2⟩ := A.pick
  obtain ⟨f3, d3, g3, F3⟩ := A.betw
  obtain ⟨f4, d4, g4, F4⟩ := A.same
  obtain ⟨f5, d5, g5, F5⟩ := A.kinds
  obtain ⟨f6, d6, g6, F6⟩ := A.others
  obtain ⟨f7, d7, g7, F7⟩ := A.isO
  obtain ⟨f8, d8, g8, F8⟩ := A.mF
  obtain ⟨f10, d10, g10, F10⟩ := A.mA
  obtain ⟨f11, d11, g11, F11⟩ := A.obj
  obtain ⟨f12, d12, g12, F12⟩ := A.very
  obtain ⟨f13, d13, g13, F13⟩ := A.caught
  have B := A.B
  have W := A.W
  have G1 := ok_start (P := P) (w := w) (base := base) F1 B.lst
  have G2 := ok_pick (P := P) (w := w) (base := base) F2 B.abs B.int
  have G5 := ok_kinds F5 W B.isi B.rng
  have G6 := ok_others F6 W
  have G7 := ok_isO F7 W B.isi
  have G10 := ok_made F10 F8 g8 W
  have G11 := ok_obj (P := P) (w := w) (base := base) F11 F2 g2 F3 g3 B.abs B.int B.max B.str
  have G12 := ok_very (P := P) (w := w) (base := base) F12 F4 g4 B
  have G13 := ok_caught F13 F5 g5 F7 g7 W B A.ve
  have b1 : Binds K d1 ["script"] [] := F1.bindsN fun _ _ _ _ _ _ us hl => match us, hl with | [_], _ => rfl
  have b2 : Binds K d2 ["state", "many"] [] := F2.bindsN fun _ _ _ _ _ _ us hl => match us, hl with | [_, _], _ => rfl
  have b5 : Binds K d5 ["e"] [] := F5.bindsN fun _ _ _ _ _ _ us hl => match us, hl with | [_], _ => rfl
  have b6 : Binds K d6 ["x"] [] := F6.bindsN fun _ _ _ _ _ _ us hl => match us, hl with | [_], _ => rfl
  have b7 : Binds K d7 ["e"] [] := F7.bindsN fun _ _ _ _ _ _ us hl => match us, hl with | [_], _ => rfl
  have b10 : Binds K d10 ["at", "x"] [] := F10.bindsN fun _ _ _ _ _ _ us hl => match us, hl with | [_, _], _ => rfl
  have b11 : Binds K d11 ["state"] [] := F11.bindsN fun _ _ _ _ _ _ us hl => match us, hl with | [_], _ => rfl
  have b12 : Binds K d12 ["found", "due"] [] := F12.bindsN fun _ _ _ _ _ _ us hl => match us, hl with | [_, _], _ => rfl
  have b13 : Binds K d13 ["x"] [] := F13.bindsN fun _ _ _ _ _ _ us hl => match us, hl with | [_], _ => rfl
  refine F.ok scLaw (fun vs H Q E h => ?_) (fun cdv A' outer s H vs Q E hr h => ?_)
  · obtain ⟨a, ns, rfl, _⟩ := h
    rfl
  have r1 : Room 1 _ := hr.mono (by decide)
  have r3 : Room 3 _ := hr.mono (by decide)
  have r4 : Room 4 _ := hr.mono (by decide)
  refine ⟨_, PSs.nox (pss_cons (ps_set (i := 1) scLaw.nd rfl (.inl rfl) (pe_call G1 r1 rfl g1 F1.kp b1 .nil pass0 (pa_cons (pv 0) pa_nil)))
      (pss_cons (ps_for PassesOwn.never rfl (pi_range1 rfl B.rng (pa_cons pe_int pa_nil)) (pg_name (i := 2) scLaw.nd rfl (Or.inl rfl)) (pss_cons (ps_set (i := 3) scLaw.nd rfl (.inl rfl) (pe_ifExp (pt_cmpR op_lt (pv 2) pe_int (nomark _)) (pe_op op_modN (pe_callTy call_int1 (by rfl) B.int (by decide +kernel) (pa_cons (pe_op op_add (pv 2) (pe_call G2 r1 rfl g2 F2.kp b2 .nil pass0 (pa_cons (pv 1) (pa_cons pe_int pa_nil)))) pa_nil)) pe_int) (pe_op op_sub (pv 2) pe_int)))
      (pss_cons (ps_par (i := 4) (j := 5) (by rfl) scLaw.nd rfl rfl (by decide) rfl rfl (pa_cons (pe_call G11 r3 rfl g11 F11.kp b11 .nil pass0 (pa_cons (pv 1) pa_nil)) (pa_cons (pe_call G11 r3 rfl g11 F11.kp b11 .nil pass0 (pa_cons (pv 1) pa_nil)) pa_nil)) (by rfl))
      (pss_cons (ps_asg (pe_call G10 r4 rfl g10 F10.kp b10 .nil pass0 (pa_cons (pv 3) (pa_cons (pv 4) pa_nil))) (pg_tup rfl (pgs_cons (pg_name (i := 6) scLaw.nd rfl (Or.inl rfl)) (pgs_cons (pg_name (i := 7) scLaw.nd rfl (Or.inl rfl)) pgs_nil))))
      (pss_cons (ps_asg (pe_call G10 r4 rfl g10 F10.kp b10 .nil pass0 (pa_cons (pv 3) (pa_cons (pv 5) pa_nil))) (pg_tup rfl (pgs_cons (pg_name (i := 8) scLaw.nd rfl (Or.inl rfl)) (pgs_cons (pg_name (i := 9) scLaw.nd rfl (Or.inl rfl)) pgs_nil))))
      (pss_cons (ps_if (PW.pt (pw_or (pt_not (pt_val (pe_callB call_isE (by rfl) B.isi (by decide +kernel) (pa_cons (pv 6) (pa_cons (pe_glob (v := .ref (He.ga K "RunError")) rfl (W.gl "RunError" (by decide +kernel)) rfl) pa_nil))))) (pw_or (pt_not (pt_val (pe_callB call_isE (by rfl) B.isi (by decide +kernel) (pa_cons (pv 6) (pa_cons (pe_bltn (v := .ty "ValueError") (by rfl) A.ve (by decide +kernel) rfl) pa_nil))))) (pw_or1 (pt_cmpR (op_neD hr.units) (pe_call G5 r1 rfl g5 F5.kp b5 .nil pass0 (pa_cons (pv 6) pa_nil)) (pe_lst (pa_cons (pv 3) pa_nil)) (nomark _)))))) (pss_one (ps_ret pe_bl)) pss_nil)
      (pss_cons (ps_if (PW.pt (pw_or (pt_val (pe_call G7 r1 rfl g7 F7.kp b7 .nil pass0 (pa_cons (pv 6) pa_nil))) (pw_or (pt_val (pe_callB call_isET (by rfl) B.isi (by decide +kernel) (pa_cons (pv 6) (pa_cons (pe_tup (pa_cons (pe_bltn (v := .ty "KeyError") (by rfl) A.ke (by decide +kernel) rfl) (pa_cons (pe_bltn (v := .ty "IndexError") (by rfl) A.ie (by decide +kernel) rfl) (pa_cons (pe_bltn (v := .ty "TypeError") (by rfl) A.te (by decide +kernel) rfl) pa_nil)))) pa_nil)))) (pw_or1 (pt_not (pt_val (pe_callB call_isE (by rfl) B.isi (by decide +kernel) (pa_cons (pv 8) (pa_cons (pe_glob (v := .ref (He.ga K "RunError")) rfl (W.gl "RunError" (by decide +kernel)) rfl) pa_nil))))))))) (pss_one (ps_ret pe_bl)) pss_nil)
      (pss_one (ps_if (PW.pt (pw_or (pt_not (pt_val (pe_call G12 r4 rfl g12 F12.kp b12 .nil pass0 (pa_cons (pv 7) (pa_cons (pv 4) pa_nil))))) (pw_or1 (pt_not (pt_val (pe_call G12 r4 rfl g12 F12.kp b12 .nil pass0 (pa_cons (pv 9) (pa_cons (pv 5) pa_nil)))))))) (pss_one (ps_ret pe_bl)) pss_nil)))))))))
      (pss_cons (ps_if (pt_not (pt_val (pe_callB (cr_all rfl) (by rfl) B.all (by decide +kernel) (pa_cons (pe_lc (own := [("e", 10)]) (g := gName 10) (tt := tYes) (te := tOp (rEqD K) (tCall (spKinds K) [] E0 (tCons (tVar 10) tNil)) (tLst tNil)) (by rfl) scLaw.nd (pi_list (pe_call G6 r3 rfl g6 F6.kp b6 .nil pass0 (pa_cons (pe_call G2 r1 rfl g2 F2.kp b2 .nil pass0 (pa_cons (pv 1) (pa_cons pe_int pa_nil))) pa_nil))) (blkOk_by (own := [("e", 10)]) (N := NL) (sc := defScope sLaw) (by decide +kernel)) (fun _ _ _ _ _ => (pg_name (i := 10) scLaw.nd rfl (Or.inl rfl))) (fun _ _ _ _ _ => pts_nil) (fun _ _ _ _ _ => pe_cmpR (op_eqD hr.units) (pe_call G5 r1 rfl g5 F5.kp b5 .nil pass0 (pa_cons (pv 10) pa_nil)) (pe_lst pa_nil) (nomark _))) pa_nil)))) (pss_one (ps_ret pe_bl)) pss_nil)
      (pss_one (ps_ret (pe_cmpR (op_eqD hr.units) (pe_call G13 r3 rfl g13 F13.kp b13 .nil pass0 (pa_cons (pe_call G11 r3 rfl g11 F11.kp b11 .nil pass0 (pa_cons (pv 1) pa_nil)) pa_nil)) (pe_tup (pa_cons (pe_lst (pa_cons pe_int pa_nil)) (pa_cons (pe_lst pa_nil) (pa_cons pe_bl (pa_cons pe_bl pa_nil))))) (nomark _))))))), ?_⟩
  obtain ⟨a, ns, rfl, hS, k⟩ := h
  refine ⟨_, rfl, a, ns, rfl, hS, fun H0 s l x0 st0 => ?_⟩
  refine ⟨16, rfl, by decide, by decide, for_range (lo := 0) (n := 16) (fun i σ H => ∃ v2 v3 v4 v5 v6 v7 v8 v9 : Option V, σ = [some (.ref a), some (.ref s), v2, v3, v4, v5, v6, v7, v8, v9, none] ∧ ∃ n, n ≤ 21 * i ∧ St H s l n) ⟨none, none, none, none, none, none, none, none, rfl, 0, Nat.le_refl _, st0⟩ ?_ ?_⟩
  · rintro i σ H1 hi ⟨v2, v3, v4, v5, v6, v7, v8, v9, rfl, n, hn, st⟩
    have e0 : (0 : Int) + (i : Int) = ((i : Nat) : Int) := Int.zero_add _
    rw [e0]
    refine at_ok hi st (by omega) fun j n1 H2 hj hn1 st1 => ?_
    obtain ⟨c, hc, ce, ck, co⟩ := kinds_own ⟨j, hj⟩
    dsimp only at hc ck
    refine ⟨_, rfl, s, l, n1, rfl, st1, by omega, fun H3 u1 n2 hn2 st2 kp2 ob1 ko1 => ⟨_, rfl, s, l, n2, rfl, st2, by omega, fun H4 u2 n3 hn3 st3 kp3 ob2 _ => ⟨u1, u2, rfl, ?_⟩⟩⟩
    have ob1' := ko1 _ kp3
    refine ⟨_, rfl, _, rfl, j, u1, rfl, Nat.zero_le _, hj, fun c' hc' H5 t5 e5 x5 et5 er5 => ?_⟩
    obtain rfl : c' = c := by
      rw [hc] at hc'
      exact (Option.some.inj hc').symm
    refine ⟨t5, _, rfl, SqT.of et5, rfl, _, _, rfl, _, _, rfl, rfl, ?_⟩
    refine ⟨_, rfl, _, rfl, j, u2, rfl, Nat.zero_le _, hj, fun c2 hc2 H6 t6 e6 x6 et6 er6 => ?_⟩
    obtain rfl : c2 = c' := by
      rw [hc] at hc2
      exact (Option.some.inj hc2).symm
    refine ⟨t6, _, rfl, SqT.of et6, rfl, _, _, rfl, _, _, rfl, rfl, ?_⟩
    have er := er5.ext x6
    refine ⟨_, rfl, e5, _, _, .ref (He.ga K "RunError"), _, _, rfl, er, W.ec c2 ce, .own _, W.kit ce (by decide +kernel), _, rfl, if_neg_of (by simp [isN]) ?_⟩
    refine ⟨_, rfl, e5, _, _, .ty "ValueError", _, true, rfl, er, W.ec c2 ce, .ty _, (W.ec c2 ce).kitT (by decide +kernel) (by decide +kernel), _, rfl, if_neg_of rfl ?_⟩
    refine ⟨_, rfl, e5, c2, rfl, ce, er, fun H7 p x7 np ep => ⟨_, rfl, (by show 1 ≤ sizeLine; decide), fun q nq => ?_⟩⟩
    rw [ck] at ep
    have x8 := Ext.new (o := .lst [.int ((j : Nat) : Int)]) nq
    have ep2 := x8 _ _ ep
    refine ⟨_, _, .lst (SqL.of ep2) (dpI [((j : Nat) : Int)]), .lst (SqL.of upd_same) (dpI [((j : Nat) : Int)]), shapedI _, shapedI _, _, rfl, if_neg_of (by simp [PyData.eqv, PyData.eqvAll]) ?_⟩
    have er8 := (er.ext x7).ext x8
    refine ⟨_, rfl, e5, c2, rfl, ce, er8, fun H9 x9 => ⟨_, rfl, if_neg_of co ?_⟩⟩
    refine ⟨_, rfl, (by show 3 ≤ sizeLine; decide), fun t nt => ⟨e5, _, _, t, _, [.type "KeyError", .type "IndexError", .type "TypeError"], false, rfl, (er8.ext x9).ext (Ext.new nt), W.ec c2 ce, upd_same, .cons (.ty _) (.cons (.ty _) (.cons (.ty _) .nil)), ?_, _, rfl, if_neg_of rfl ?_⟩⟩
    · exact kitAny_cons ((W.ec c2 ce).kitT (b := false) (by decide +kernel) (by decide +kernel)) (fun _ => kitAny_cons ((W.ec c2 ce).kitT (b := false) (by decide +kernel) (by decide +kernel)) (fun _ => kitAny_cons ((W.ec c2 ce).kitT (b := false) (by decide +kernel) (by decide +kernel)) (fun _ => kitAny_nil) (fun z => Bool.noConfusion z)) (fun z => Bool.noConfusion z)) (fun z => Bool.noConfusion z)
    have x10 := Ext.new (o := .tup [.ty "KeyError", .ty "IndexError", .ty "TypeError"]) nt
    have xA := ((x7.trans x8).trans x9).trans x10
    refine ⟨_, rfl, e6, _, _, .ref (He.ga K "RunError"), _, _, rfl, er6.ext xA, W.ec c2 ce, .own _, W.kit ce (by decide +kernel), _, rfl, if_neg_of (by simp [isN]) ?_⟩
    have xB := (x5.trans x6).trans xA
    refine ⟨_, rfl, _, rfl, u1, rfl, ob1'.ext xB, fun H11 x11 => ⟨_, rfl, if_neg_of rfl ?_⟩⟩
    refine ⟨_, rfl, _, rfl, u2, rfl, ob2.ext (xB.trans x11), fun H12 x12 => ⟨_, rfl, if_neg_of rfl ?_⟩⟩
    exact ⟨_, _, _, _, _, _, _, _, rfl, n3, by omega, st3.ext ((xB.trans x11).trans x12)⟩
  · rintro σ H1 ⟨v2, v3, v4, v5, v6, v7, v8, v9, rfl, n, hn, st⟩
    refine ⟨_, rfl, s, l, n, 9, rfl, st, by omega, by decide, by decide, fun H8 r _ _ st8 kp8 => ⟨_, rfl, fun H9 p as x9 np ep nm allE => ?_⟩⟩
    have hlen : as.length ≤ 100 := by
      have e := congrArg List.length nm
      rw [List.length_map] at e
      rw [e]
      decide +kernel
    refine ⟨p, rfl, ⟨_, SqL.of ep⟩, fun D nD => ?_⟩
    refine lc_list (K := K) (a := p) (xs := as.map fun q => V.ref q.1) (fun j H' => Ext H9 H' ∧ H' D = some (.lst ((List.replicate j true).map V.bl))) ⟨Ext.new nD, upd_same⟩ (fun _ H' _ q => SqL.of (q.1 _ _ ep)) ?_ ?_
    · rintro i2 z H5 hz ⟨x5, eD⟩
      have hi2 : i2 < as.length := by
        have h := (List.getElem?_eq_some_iff.mp hz).1
        rw [List.length_map] at h
        exact h
      obtain ⟨q, hq, rfl⟩ : ∃ q, q ∈ as ∧ z = .ref q.1 := by
        rw [List.getElem?_map] at hz
        cases e : as[i2]? with
        | none =>
          rw [e] at hz
          cases hz
        | some q =>
          rw [e] at hz
          exact ⟨q, List.mem_of_getElem? e, (Option.some.inj hz).symm⟩
      have hm : q.2 ∈ made := by
        rw [← nm]
        exact List.mem_map.mpr ⟨q, hq, rfl⟩
      obtain ⟨ce, ck⟩ := made_none _ hm
      have er : Er H5 q.1 (He.ga K q.2) := (allE q hq).ext x5
      refine ⟨rfl, _, rfl, q.1, q.2, rfl, ce, er, fun H6 p2 x6 np2 ep2 => ⟨(by show 0 ≤ sizeLine; exact Nat.zero_le _), fun u nu => ?_⟩⟩
      rw [ck] at ep2
      have x7 := Ext.new (o := .lst []) nu
      refine ⟨_, _, .lst (SqL.of (x7 _ _ ep2)) .nil, .lst (SqL.of upd_same) .nil, rfl, rfl, _, x7 _ _ (x6 _ _ eD), ?_, ((x5.trans x6).trans x7).at nD, ?_⟩
      · rw [List.length_map, List.length_replicate]
        exact Nat.lt_of_lt_of_le (Nat.lt_of_lt_of_le hi2 hlen) (by decide)
      · rw [upd_same, List.replicate_succ', List.map_append]
        rfl
    · rintro H7 ⟨x7, eD⟩
      refine ⟨D, _, rfl, SqL.of eD, _, rfl, if_neg_of (by rw [bls_true]; rfl) ?_⟩
      have st9 : St H7 s l (n + 1) := (st8.ext x9).ext x7
      refine ⟨_, rfl, s, l, n + 1, rfl, st9, by omega, fun H10 v n' hn' st10 kp10 ob _ => ⟨v, rfl, fun H11 t pp qq x11 et ep eq => ?_⟩⟩
      refine ⟨(by show 1 ≤ sizeLine; decide), fun l1 n1 => ⟨(by show 0 ≤ sizeLine; exact Nat.zero_le _), fun l2 n2 => ⟨(by show 4 ≤ sizeLine; decide), fun t2 nt2 => ?_⟩⟩⟩
      have y1 := Ext.new (o := .lst [.int 4]) n1
      have y2 := Ext.new (o := .lst []) n2
      have y3 := Ext.new (o := .tup [.ref l1, .ref l2, .bl false, .bl true]) nt2
      have yA := (y1.trans y2).trans y3
      refine ⟨_, _, .tup (SqT.of (yA _ _ et)) (.cons (.lst (SqL.of (yA _ _ ep)) (.cons (.int 4) .nil)) (.cons (.lst (SqL.of (yA _ _ eq)) .nil) (.cons (.bl false) (.cons (.bl true) .nil)))), .tup (SqT.of upd_same) (.cons (.lst (SqL.of (y3 _ _ (y2 _ _ upd_same))) (.cons (.int 4) .nil)) (.cons (.lst (SqL.of (y3 _ _ upd_same)) .nil) (.cons (.bl false) (.cons (.bl true) .nil)))), rfl, rfl, ?_⟩
      exact k _
end
end ER
set_option Elab.async false
set_option linter.all false
set_option maxRecDepth 100000
set_option maxHeartbeats 0
namespace ER
open PySem PySem.Spec PyProof.Rows L2
def defN : List Str := (["_law_start", "_law_pick", "_law_between", "_law_same", "_law_kinds_of", "_law_others", "_law_is_other", "_law_made_a", "_law_made_at", "_law_object", "_law_very", "_law_caught", "law"] : List Str)
def freeN : List Str := (["isinstance", "list", "tuple", "dict", "bool", "int", "str", "len", "all", "zip", "abs", "max", "range", "ValueError", "KeyError", "IndexError", "TypeError"] : List Str)
def gloB (K : PySem.W.Frag) (x : Str) : Bool := He.eqO (PySem.W.nsIn K mainGlobals x) (some (some (.ref (He.ga K x))))
def freB (K : PySem.W.Frag) (x : Str) : Bool := He.eqO (PySem.W.nsIn K mainGlobals x) (some none)
def clsB (K : PySem.W.Frag) (x : Str) : Bool := gloB K x && ecB K (He.ga K x) (bmOf K x)
def noB (K : PySem.W.Frag) (q : Str × Str) : Bool := He.eqO (PySem.W.findIn K (.ref (He.ga K q.1)) q.2) (some none)
def iniB (K : PySem.W.Frag) (x : Str) : Bool := He.eqO (PySem.W.findIn K (.ref (He.ga K x)) "__init__") (some (some (.ref (iAd K x)))) && decide (PySem.W.typeIn K (.ref (iAd K x)) = some (.type "function"))
def exB (K : PySem.W.Frag) : Bool := (defN.all (gloB K)) && ((freeN.all (freB K)) && ((errs.all (clsB K)) && ((flds.all (noB K)) && ((flds.all fun q => iniB K q.1) && ((bare.all fun x => PySem.W.excIn K (He.ga K x) He.veBase "ValueError.__new__") && ((iniB K "BadSpot" && (noB K ("BadSpot", "part") && noB K ("BadSpot", "place"))) && decide ((errs.map (He.ga K)).Nodup)))))))

def d_law_start : He.DefD := ⟨("_law_start", none), "_law_start", "_law_start", defArgs (top 45), defBody (top 45), defScope (top 45), [], []⟩
def d_law_pick : He.DefD := ⟨("_law_pick", none), "_law_pick", "_law_pick", defArgs (top 46), defBody (top 46), defScope (top 46), [], []⟩
def d_law_between : He.DefD := ⟨("_law_between", none), "_law_between", "_law_between", defArgs (top 47), defBody (top 47), defScope (top 47), [], []⟩
def d_law_same : He.DefD := ⟨("_law_same", none), "_law_same", "_law_same", defArgs (top 48), defBody (top 48), defScope (top 48), [], []⟩
def d_law_kinds_of : He.DefD := ⟨("_law_kinds_of", none), "_law_kinds_of", "_law_kinds_of", defArgs (top 49), defBody (top 49), defScope (top 49), [], []⟩
def d_law_others : He.DefD := ⟨("_law_others", none), "_law_others", "_law_others", defArgs (top 50), defBody (top 50), defScope (top 50), [], []⟩
def d_law_is_other : He.DefD := ⟨("_law_is_other", none), "_law_is_other", "_law_is_other", defArgs (top 51), defBody (top 51), defScope (top 51), [], []⟩
def d_law_made_a : He.DefD := ⟨("_law_made_a", none), "_law_made_a", "_law_made_a", defArgs (top 52), defBody (top 52), defScope (top 52), [], []⟩
def d_law_made_at : He.DefD := ⟨("_law_made_at", none), "_law_made_at", "_law_made_at", defArgs (top 53), defBody (top 53), defScope (top 53), [], []⟩
def d_law_object : He.DefD := ⟨("_law_object", none), "_law_object", "_law_object", defArgs (top 54), defBody (top 54), defScope (top 54), [], []⟩
def d_law_very : He.DefD := ⟨("_law_very", none), "_law_very", "_law_very", defArgs (top 55), defBody (top 55), defScope (top 55), [], []⟩
def d_law_caught : He.DefD := ⟨("_law_caught", none), "_law_caught", "_law_caught", defArgs (top 56), defBody (top 56), defScope (top 56), [], []⟩
def dlaw : He.DefD := ⟨("law", none), "law", "law", defArgs (top 57), defBody (top 57), defScope (top 57), [], []⟩
def dIBadOther : He.DefD := ⟨("BadOther", some "__init__"), "__init__", "BadOther.__init__", defArgs sBadOther, defBody sBadOther, defScope sBadOther, [], []⟩
def dIBadFacts : He.DefD := ⟨("BadFacts", some "__init__"), "__init__", "BadFacts.__init__", defArgs sBadFacts, defBody sBadFacts, defScope sBadFacts, [], []⟩
def dIBadEntry : He.DefD := ⟨("BadEntry", some "__init__"), "__init__", "BadEntry.__init__", defArgs sBadEntry, defBody sBadEntry, defScope sBadEntry, [], []⟩
def dIBadHeld : He.DefD := ⟨("BadHeld", some "__init__"), "__init__", "BadHeld.__init__", defArgs sBadHeld, defBody sBadHeld, defScope sBadHeld, [], []⟩
def dIBadPapers : He.DefD := ⟨("BadPapers", some "__init__"), "__init__", "BadPapers.__init__", defArgs sBadPapers, defBody sBadPapers, defScope sBadPapers, [], []⟩
def dIBadResult : He.DefD := ⟨("BadResult", some "__init__"), "__init__", "BadResult.__init__", defArgs sBadResult, defBody sBadResult, defScope sBadResult, [], []⟩
def dIBadMany : He.DefD := ⟨("BadMany", some "__init__"), "__init__", "BadMany.__init__", defArgs sBadMany, defBody sBadMany, defScope sBadMany, [], []⟩
def dIBadWay : He.DefD := ⟨("BadWay", some "__init__"), "__init__", "BadWay.__init__", defArgs sBadWay, defBody sBadWay, defScope sBadWay, [], []⟩
def dICannotPutIn : He.DefD := ⟨("CannotPutIn", some "__init__"), "__init__", "CannotPutIn.__init__", defArgs sCannotPutIn, defBody sCannotPutIn, defScope sCannotPutIn, [], []⟩
def dIBadEdit : He.DefD := ⟨("BadEdit", some "__init__"), "__init__", "BadEdit.__init__", defArgs sBadEdit, defBody sBadEdit, defScope sBadEdit, [], []⟩
def dIBadSession : He.DefD := ⟨("BadSession", some "__init__"), "__init__", "BadSession.__init__", defArgs sBadSession, defBody sBadSession, defScope sBadSession, [], []⟩
def dIBadSessionText : He.DefD := ⟨("BadSessionText", some "__init__"), "__init__", "BadSessionText.__init__", defArgs sBadSessionText, defBody sBadSessionText, defScope sBadSessionText, [], []⟩
def dIBadRoad : He.DefD := ⟨("BadRoad", some "__init__"), "__init__", "BadRoad.__init__", defArgs sBadRoad, defBody sBadRoad, defScope sBadRoad, [], []⟩
def dIBadExpression : He.DefD := ⟨("BadExpression", some "__init__"), "__init__", "BadExpression.__init__", defArgs sBadExpression, defBody sBadExpression, defScope sBadExpression, [], []⟩
def dIBadValues : He.DefD := ⟨("BadValues", some "__init__"), "__init__", "BadValues.__init__", defArgs sBadValues, defBody sBadValues, defScope sBadValues, [], []⟩
def dIBadProcs : He.DefD := ⟨("BadProcs", some "__init__"), "__init__", "BadProcs.__init__", defArgs sBadProcs, defBody sBadProcs, defScope sBadProcs, [], []⟩
def dIBadName : He.DefD := ⟨("BadName", some "__init__"), "__init__", "BadName.__init__", defArgs sBadName, defBody sBadName, defScope sBadName, [], []⟩
def dIBadProcedure : He.DefD := ⟨("BadProcedure", some "__init__"), "__init__", "BadProcedure.__init__", defArgs sBadProcedure, defBody sBadProcedure, defScope sBadProcedure, [], []⟩
def dIBadProgram : He.DefD := ⟨("BadProgram", some "__init__"), "__init__", "BadProgram.__init__", defArgs sBadProgram, defBody sBadProgram, defScope sBadProgram, [], []⟩
def dIBadExpressionText : He.DefD := ⟨("BadExpressionText", some "__init__"), "__init__", "BadExpressionText.__init__", defArgs sBadExpressionText, defBody sBadExpressionText, defScope sBadExpressionText, [], []⟩
def dIBadProgramText : He.DefD := ⟨("BadProgramText", some "__init__"), "__init__", "BadProgramText.__init__", defArgs sBadProgramText, defBody sBadProgramText, defScope sBadProgramText, [], []⟩
def dIBadLine : He.DefD := ⟨("BadLine", some "__init__"), "__init__", "BadLine.__init__", defArgs sBadLine, defBody sBadLine, defScope sBadLine, [], []⟩
def dIBadPoint : He.DefD := ⟨("BadPoint", some "__init__"), "__init__", "BadPoint.__init__", defArgs sBadPoint, defBody sBadPoint, defScope sBadPoint, [], []⟩
def dIBadInputs : He.DefD := ⟨("BadInputs", some "__init__"), "__init__", "BadInputs.__init__", defArgs sBadInputs, defBody sBadInputs, defScope sBadInputs, [], []⟩
def dIBadStanding : He.DefD := ⟨("BadStanding", some "__init__"), "__init__", "BadStanding.__init__", defArgs sBadStanding, defBody sBadStanding, defScope sBadStanding, [], []⟩
def dIBadChoice : He.DefD := ⟨("BadChoice", some "__init__"), "__init__", "BadChoice.__init__", defArgs sBadChoice, defBody sBadChoice, defScope sBadChoice, [], []⟩
def dIBadChoices : He.DefD := ⟨("BadChoices", some "__init__"), "__init__", "BadChoices.__init__", defArgs sBadChoices, defBody sBadChoices, defScope sBadChoices, [], []⟩
def dIBadMost : He.DefD := ⟨("BadMost", some "__init__"), "__init__", "BadMost.__init__", defArgs sBadMost, defBody sBadMost, defScope sBadMost, [], []⟩
def dIBadArgs : He.DefD := ⟨("BadArgs", some "__init__"), "__init__", "BadArgs.__init__", defArgs sBadArgs, defBody sBadArgs, defScope sBadArgs, [], []⟩
def dIBadAnswer : He.DefD := ⟨("BadAnswer", some "__init__"), "__init__", "BadAnswer.__init__", defArgs sBadAnswer, defBody sBadAnswer, defScope sBadAnswer, [], []⟩
def dIBadPaperText : He.DefD := ⟨("BadPaperText", some "__init__"), "__init__", "BadPaperText.__init__", defArgs sBadPaperText, defBody sBadPaperText, defScope sBadPaperText, [], []⟩
def dIBadTold : He.DefD := ⟨("BadTold", some "__init__"), "__init__", "BadTold.__init__", defArgs sBadTold, defBody sBadTold, defScope sBadTold, [], []⟩
def dIBadOrder : He.DefD := ⟨("BadOrder", some "__init__"), "__init__", "BadOrder.__init__", defArgs sBadOrder, defBody sBadOrder, defScope sBadOrder, [], []⟩
def dIBadPlace : He.DefD := ⟨("BadPlace", some "__init__"), "__init__", "BadPlace.__init__", defArgs sBadPlace, defBody sBadPlace, defScope sBadPlace, [], []⟩
def dIBadLineNumber : He.DefD := ⟨("BadLineNumber", some "__init__"), "__init__", "BadLineNumber.__init__", defArgs sBadLineNumber, defBody sBadLineNumber, defScope sBadLineNumber, [], []⟩
def dIBadRuns : He.DefD := ⟨("BadRuns", some "__init__"), "__init__", "BadRuns.__init__", defArgs sBadRuns, defBody sBadRuns, defScope sBadRuns, [], []⟩
def dIEnded : He.DefD := ⟨("Ended", some "__init__"), "__init__", "Ended.__init__", defArgs sEnded, defBody sEnded, defScope sEnded, [], []⟩
def dIBadSpot : He.DefD := ⟨("BadSpot", some "__init__"), "__init__", "BadSpot.__init__", defArgs sBadSpot, defBody sBadSpot, defScope sBadSpot, [], []⟩
def fn : List He.DefD := ([d_law_start, d_law_pick, d_law_between, d_law_same, d_law_kinds_of, d_law_others, d_law_is_other, d_law_made_a, d_law_made_at, d_law_object, d_law_very, d_law_caught, dlaw, dIBadOther, dIBadFacts, dIBadEntry, dIBadHeld, dIBadPapers, dIBadResult, dIBadMany] : List He.DefD) ++ ([dIBadWay, dICannotPutIn, dIBadEdit, dIBadSession, dIBadSessionText, dIBadRoad, dIBadExpression, dIBadValues, dIBadProcs, dIBadName, dIBadProcedure, dIBadProgram, dIBadExpressionText, dIBadProgramText, dIBadLine, dIBadPoint, dIBadInputs, dIBadStanding, dIBadChoice, dIBadChoices] : List He.DefD) ++ ([dIBadMost, dIBadArgs, dIBadAnswer, dIBadPaperText, dIBadTold, dIBadOrder, dIBadPlace, dIBadLineNumber, dIBadRuns, dIEnded, dIBadSpot] : List He.DefD)
def obX (n : Nat) (g : Addr → Option PySem.Obj) : Bool × He.AlD := (exB (He.frG g (He.asD g n)), He.obsD [] fn (He.frG g (He.asD g n)))
def SaysX (K : PySem.W.Frag) : Prop := (exB K, He.obsD [] fn K) = (true, He.valD fn)
def hookX (n : Nat) : PySem.W.Hook where
  α := Bool × He.AlD
  obs := fun s => obX n s.heap.get?
  val := fun _ => (true, He.valD fn)
  says := fun _ h => ∃ K : PySem.W.Frag, K.In h ∧ SaysX K
  of := fun _ _ e => ⟨_, He.frG_in, e⟩
  keeps := fun _ _ _ ⟨K, hK, c⟩ k => ⟨K, PySem.W.Frag.In.keeps hK k, c⟩
theorem obX_eq {n : Nat} {g : Addr → Option PySem.Obj} {s : Shared} (h : ∀ a, g a = s.heap.get? a) : obX n g = (hookX n).obs s := by
  have e : g = s.heap.get? := funext h
  rw [e] <;> rfl
abbrev R : PySem.W.OpenRow := PySem.W.OpenLaw.row PySem.Challenge.rw_runorproof_k95_errors_of_what_is_asked
abbrev hk : PySem.W.Hook := hookX 4
def ob (s : PySem.W.SharedT) : Bool × He.AlD := obX 4 (HandSHeadRun.getT s)
theorem ob_eq (s : PySem.W.SharedT) : ob s = hk.obs s.abs := obX_eq (HandSHeadRun.getT_eq s)
def names : List PySem.Str := (["RunError", "BadOther", "BadFacts", "BadEntry", "BadHeld", "BadPapers", "BadResult", "BadMany", "BadWay", "CannotPutIn", "BadEdit", "BadSession", "BadSessionText", "BadRoad", "NothingToUndo", "NothingToRedo", "BadExpression", "BadValues", "BadProcs", "BadName"] : List Str) ++ (["BadProcedure", "BadProgram", "BadExpressionText", "BadProgramText", "BadLine", "BadPoint", "BadInputs", "BadStanding", "BadChoice", "BadChoices", "BadMost", "BadArgs", "BadAnswer", "BadPaperText", "BadTold", "BadOrder", "BadPlace", "BadSpot", "BadLineNumber", "BadRuns"] : List Str) ++ (["Ended", "_law_start", "_law_pick", "_law_between", "_law_same", "_law_kinds_of", "_law_others", "_law_is_other", "_law_made_a", "_law_made_at", "_law_object", "_law_very", "_law_caught"] : List Str)
theorem run (w : World) : HandSHeadRun.RunEq R (PySem.W.view R.prog [57]) hk ob 12000 names w := by
  intro os
  kernel_rfl
end ER
set_option Elab.async false
set_option linter.all false
set_option maxRecDepth 100000
set_option maxHeartbeats 0
namespace ER
open PySem PySem.Spec PyProof.Rows L2
/-- each of a list, told one by one -/
def AllL {α : Type} (p : α → Prop) : List α → Prop
  | [] => True
  | x :: r => p x ∧ AllL p r
theorem allL {α : Type} {p : α → Prop} : ∀ {l : List α}, AllL p l → ∀ x ∈ l, p x
  | y :: r, h, x, m => by
    rcases List.mem_cons.mp m with m | m
    · rw [m]
      exact h.1
    · exact allL h.2 x m
theorem nodup_inj {α β : Type} {f : α → β} : ∀ {l : List α}, (l.map f).Nodup → ∀ x ∈ l, ∀ y ∈ l, f x = f y → x = y
  | a :: r, h, x, hx, y, hy, e => by
    rw [List.map_cons, List.nodup_cons] at h
    rcases List.mem_cons.mp hx with hx | hx
    · rcases List.mem_cons.mp hy with hy | hy
      · rw [hx, hy]
      · exact absurd (List.mem_map.mpr ⟨y, hy, by rw [← e, hx]⟩) h.1
    · rcases List.mem_cons.mp hy with hy | hy
      · exact absurd (List.mem_map.mpr ⟨x, hx, by rw [e, hy]⟩) h.1
      · exact nodup_inj h.2 x hx y hy e
section
variable {P : Program} {w : World} {K : PySem.W.Frag} {h : Heap} {mg : Str → Option Value}
theorem SaysX.ex (c : SaysX K) : exB K = true := congrArg (fun z : Bool × He.AlD => z.1) c
theorem SaysX.fnd (c : SaysX K) : He.SaysD [] fn K := congrArg (fun z : Bool × He.AlD => z.2) c
theorem facts (X : K.In h) (G : h.Ns mainGlobals mg) (c : SaysX K) (base : Heap) : Al P w K mg base := by
  obtain ⟨e1, c1⟩ := bb c.ex
  obtain ⟨e2, c1⟩ := bb c1
  obtain ⟨e3, c1⟩ := bb c1
  obtain ⟨e4, c1⟩ := bb c1
  obtain ⟨e5, c1⟩ := bb c1
  obtain ⟨e6, c1⟩ := bb c1
  obtain ⟨e7, e8⟩ := bb c1
  have gd : ∀ x ∈ defN, mg x = some (.ref (He.ga K x)) := fun x hx => PySem.W.mg_of X G (He.eqO_ok (List.all_eq_true.mp e1 x hx))
  have gf : ∀ x ∈ freeN, mg x = none := fun x hx => PySem.W.mg_none_of X G (He.eqO_ok (List.all_eq_true.mp e2 x hx))
  have gc : ∀ x ∈ errs, mg x = some (.ref (He.ga K x)) := fun x hx => PySem.W.mg_of X G (He.eqO_ok (bb (List.all_eq_true.mp e3 x hx)).1)
  have ec : ∀ x ∈ errs, EC K (He.ga K x) (bmOf K x) := fun x hx => ecB_ok (bb (List.all_eq_true.mp e3 x hx)).2
  have no : ∀ q ∈ flds, PySem.W.findIn K (.ref (He.ga K q.1)) q.2 = some none := fun q hq => He.eqO_ok (List.all_eq_true.mp e4 q hq)
  have iC : ∀ q ∈ flds, PySem.W.findIn K (.ref (He.ga K q.1)) "__init__" = some (some (.ref (iAd K q.1))) := fun q hq => He.eqO_ok (bb (List.all_eq_true.mp e5 q hq)).1
  have tI : ∀ q ∈ flds, PySem.W.typeIn K (.ref (iAd K q.1)) = some (.type "function") := fun q hq => of_decide_eq_true (bb (List.all_eq_true.mp e5 q hq)).2
  have d := c.fnd
  have cBadOther : CR P w K mg base "BadOther" "other" := by
    obtain ⟨fd, F⟩ := d.def_ 13 (d := dIBadOther) rfl
    exact ⟨no ("BadOther", "other") (by decide +kernel), iC ("BadOther", "other") (by decide +kernel), tI ("BadOther", "other") (by decide +kernel), fd, inBadOther F (ec "BadOther" (by decide +kernel)).ox (no ("BadOther", "other") (by decide +kernel)), (bnBadOther F).1, (bnBadOther F).2⟩
  have cBadFacts : CR P w K mg base "BadFacts" "facts" := by
    obtain ⟨fd, F⟩ := d.def_ 14 (d := dIBadFacts) rfl
    exact ⟨no ("BadFacts", "facts") (by decide +kernel), iC ("BadFacts", "facts") (by decide +kernel), tI ("BadFacts", "facts") (by decide +kernel), fd, inBadFacts F (ec "BadFacts" (by decide +kernel)).ox (no ("BadFacts", "facts") (by decide +kernel)), (bnBadFacts F).1, (bnBadFacts F).2⟩
  have cBadEntry : CR P w K mg base "BadEntry" "entry" := by
    obtain ⟨fd, F⟩ := d.def_ 15 (d := dIBadEntry) rfl
    exact ⟨no ("BadEntry", "entry") (by decide +kernel), iC ("BadEntry", "entry") (by decide +kernel), tI ("BadEntry", "entry") (by decide +kernel), fd, inBadEntry F (ec "BadEntry" (by decide +kernel)).ox (no ("BadEntry", "entry") (by decide +kernel)), (bnBadEntry F).1, (bnBadEntry F).2⟩
  have cBadHeld : CR P w K mg base "BadHeld" "held" := by
    obtain ⟨fd, F⟩ := d.def_ 16 (d := dIBadHeld) rfl
    exact ⟨no ("BadHeld", "held") (by decide +kernel), iC ("BadHeld", "held") (by decide +kernel), tI ("BadHeld", "held") (by decide +kernel), fd, inBadHeld F (ec "BadHeld" (by decide +kernel)).ox (no ("BadHeld", "held") (by decide +kernel)), (bnBadHeld F).1, (bnBadHeld F).2⟩
  have cBadPapers : CR P w K mg base "BadPapers" "index" := by
    obtain ⟨fd, F⟩ := d.def_ 17 (d := dIBadPapers) rfl
    exact ⟨no ("BadPapers", "index") (by decide +kernel), iC ("BadPapers", "index") (by decide +kernel), tI ("BadPapers", "index") (by decide +kernel), fd, inBadPapers F (ec "BadPapers" (by decide +kernel)).ox (no ("BadPapers", "index") (by decide +kernel)), (bnBadPapers F).1, (bnBadPapers F).2⟩
  have cBadResult : CR P w K mg base "BadResult" "number" := by
    obtain ⟨fd, F⟩ := d.def_ 18 (d := dIBadResult) rfl
    exact ⟨no ("BadResult", "number") (by decide +kernel), iC ("BadResult", "number") (by decide +kernel), tI ("BadResult", "number") (by decide +kernel), fd, inBadResult F (ec "BadResult" (by decide +kernel)).ox (no ("BadResult", "number") (by decide +kernel)), (bnBadResult F).1, (bnBadResult F).2⟩
  have cBadMany : CR P w K mg base "BadMany" "many" := by
    obtain ⟨fd, F⟩ := d.def_ 19 (d := dIBadMany) rfl
    exact ⟨no ("BadMany", "many") (by decide +kernel), iC ("BadMany", "many") (by decide +kernel), tI ("BadMany", "many") (by decide +kernel), fd, inBadMany F (ec "BadMany" (by decide +kernel)).ox (no ("BadMany", "many") (by decide +kernel)), (bnBadMany F).1, (bnBadMany F).2⟩
  have cBadWay : CR P w K mg base "BadWay" "way" := by
    obtain ⟨fd, F⟩ := d.def_ 20 (d := dIBadWay) rfl
    exact ⟨no ("BadWay", "way") (by decide +kernel), iC ("BadWay", "way") (by decide +kernel), tI ("BadWay", "way") (by decide +kernel), fd, inBadWay F (ec "BadWay" (by decide +kernel)).ox (no ("BadWay", "way") (by decide +kernel)), (bnBadWay F).1, (bnBadWay F).2⟩
  have cCannotPutIn : CR P w K mg base "CannotPutIn" "f" := by
    obtain ⟨fd, F⟩ := d.def_ 21 (d := dICannotPutIn) rfl
    exact ⟨no ("CannotPutIn", "f") (by decide +kernel), iC ("CannotPutIn", "f") (by decide +kernel), tI ("CannotPutIn", "f") (by decide +kernel), fd, inCannotPutIn F (ec "CannotPutIn" (by decide +kernel)).ox (no ("CannotPutIn", "f") (by decide +kernel)), (bnCannotPutIn F).1, (bnCannotPutIn F).2⟩
  have cBadEdit : CR P w K mg base "BadEdit" "edit" := by
    obtain ⟨fd, F⟩ := d.def_ 22 (d := dIBadEdit) rfl
    exact ⟨no ("BadEdit", "edit") (by decide +kernel), iC ("BadEdit", "edit") (by decide +kernel), tI ("BadEdit", "edit") (by decide +kernel), fd, inBadEdit F (ec "BadEdit" (by decide +kernel)).ox (no ("BadEdit", "edit") (by decide +kernel)), (bnBadEdit F).1, (bnBadEdit F).2⟩
  have cBadSession : CR P w K mg base "BadSession" "session" := by
    obtain ⟨fd, F⟩ := d.def_ 23 (d := dIBadSession) rfl
    exact ⟨no ("BadSession", "session") (by decide +kernel), iC ("BadSession", "session") (by decide +kernel), tI ("BadSession", "session") (by decide +kernel), fd, inBadSession F (ec "BadSession" (by decide +kernel)).ox (no ("BadSession", "session") (by decide +kernel)), (bnBadSession F).1, (bnBadSession F).2⟩
  have cBadSessionText : CR P w K mg base "BadSessionText" "line" := by
    obtain ⟨fd, F⟩ := d.def_ 24 (d := dIBadSessionText) rfl
    exact ⟨no ("BadSessionText", "line") (by decide +kernel), iC ("BadSessionText", "line") (by decide +kernel), tI ("BadSessionText", "line") (by decide +kernel), fd, inBadSessionText F (ec "BadSessionText" (by decide +kernel)).ox (no ("BadSessionText", "line") (by decide +kernel)), (bnBadSessionText F).1, (bnBadSessionText F).2⟩
  have cBadRoad : CR P w K mg base "BadRoad" "index" := by
    obtain ⟨fd, F⟩ := d.def_ 25 (d := dIBadRoad) rfl
    exact ⟨no ("BadRoad", "index") (by decide +kernel), iC ("BadRoad", "index") (by decide +kernel), tI ("BadRoad", "index") (by decide +kernel), fd, inBadRoad F (ec "BadRoad" (by decide +kernel)).ox (no ("BadRoad", "index") (by decide +kernel)), (bnBadRoad F).1, (bnBadRoad F).2⟩
  have cBadExpression : CR P w K mg base "BadExpression" "expression" := by
    obtain ⟨fd, F⟩ := d.def_ 26 (d := dIBadExpression) rfl
    exact ⟨no ("BadExpression", "expression") (by decide +kernel), iC ("BadExpression", "expression") (by decide +kernel), tI ("BadExpression", "expression") (by decide +kernel), fd, inBadExpression F (ec "BadExpression" (by decide +kernel)).ox (no ("BadExpression", "expression") (by decide +kernel)), (bnBadExpression F).1, (bnBadExpression F).2⟩
  have cBadValues : CR P w K mg base "BadValues" "given" := by
    obtain ⟨fd, F⟩ := d.def_ 27 (d := dIBadValues) rfl
    exact ⟨no ("BadValues", "given") (by decide +kernel), iC ("BadValues", "given") (by decide +kernel), tI ("BadValues", "given") (by decide +kernel), fd, inBadValues F (ec "BadValues" (by decide +kernel)).ox (no ("BadValues", "given") (by decide +kernel)), (bnBadValues F).1, (bnBadValues F).2⟩
  have cBadProcs : CR P w K mg base "BadProcs" "index" := by
    obtain ⟨fd, F⟩ := d.def_ 28 (d := dIBadProcs) rfl
    exact ⟨no ("BadProcs", "index") (by decide +kernel), iC ("BadProcs", "index") (by decide +kernel), tI ("BadProcs", "index") (by decide +kernel), fd, inBadProcs F (ec "BadProcs" (by decide +kernel)).ox (no ("BadProcs", "index") (by decide +kernel)), (bnBadProcs F).1, (bnBadProcs F).2⟩
  have cBadName : CR P w K mg base "BadName" "f" := by
    obtain ⟨fd, F⟩ := d.def_ 29 (d := dIBadName) rfl
    exact ⟨no ("BadName", "f") (by decide +kernel), iC ("BadName", "f") (by decide +kernel), tI ("BadName", "f") (by decide +kernel), fd, inBadName F (ec "BadName" (by decide +kernel)).ox (no ("BadName", "f") (by decide +kernel)), (bnBadName F).1, (bnBadName F).2⟩
  have cBadProcedure : CR P w K mg base "BadProcedure" "procedure" := by
    obtain ⟨fd, F⟩ := d.def_ 30 (d := dIBadProcedure) rfl
    exact ⟨no ("BadProcedure", "procedure") (by decide +kernel), iC ("BadProcedure", "procedure") (by decide +kernel), tI ("BadProcedure", "procedure") (by decide +kernel), fd, inBadProcedure F (ec "BadProcedure" (by decide +kernel)).ox (no ("BadProcedure", "procedure") (by decide +kernel)), (bnBadProcedure F).1, (bnBadProcedure F).2⟩
  have cBadProgram : CR P w K mg base "BadProgram" "program" := by
    obtain ⟨fd, F⟩ := d.def_ 31 (d := dIBadProgram) rfl
    exact ⟨no ("BadProgram", "program") (by decide +kernel), iC ("BadProgram", "program") (by decide +kernel), tI ("BadProgram", "program") (by decide +kernel), fd, inBadProgram F (ec "BadProgram" (by decide +kernel)).ox (no ("BadProgram", "program") (by decide +kernel)), (bnBadProgram F).1, (bnBadProgram F).2⟩
  have cBadExpressionText : CR P w K mg base "BadExpressionText" "text" := by
    obtain ⟨fd, F⟩ := d.def_ 32 (d := dIBadExpressionText) rfl
    exact ⟨no ("BadExpressionText", "text") (by decide +kernel), iC ("BadExpressionText", "text") (by decide +kernel), tI ("BadExpressionText", "text") (by decide +kernel), fd, inBadExpressionText F (ec "BadExpressionText" (by decide +kernel)).ox (no ("BadExpressionText", "text") (by decide +kernel)), (bnBadExpressionText F).1, (bnBadExpressionText F).2⟩
  have cBadProgramText : CR P w K mg base "BadProgramText" "line" := by
    obtain ⟨fd, F⟩ := d.def_ 33 (d := dIBadProgramText) rfl
    exact ⟨no ("BadProgramText", "line") (by decide +kernel), iC ("BadProgramText", "line") (by decide +kernel), tI ("BadProgramText", "line") (by decide +kernel), fd, inBadProgramText F (ec "BadProgramText" (by decide +kernel)).ox (no ("BadProgramText", "line") (by decide +kernel)), (bnBadProgramText F).1, (bnBadProgramText F).2⟩
  have cBadLine : CR P w K mg base "BadLine" "line" := by
    obtain ⟨fd, F⟩ := d.def_ 34 (d := dIBadLine) rfl
    exact ⟨no ("BadLine", "line") (by decide +kernel), iC ("BadLine", "line") (by decide +kernel), tI ("BadLine", "line") (by decide +kernel), fd, inBadLine F (ec "BadLine" (by decide +kernel)).ox (no ("BadLine", "line") (by decide +kernel)), (bnBadLine F).1, (bnBadLine F).2⟩
  have cBadPoint : CR P w K mg base "BadPoint" "point" := by
    obtain ⟨fd, F⟩ := d.def_ 35 (d := dIBadPoint) rfl
    exact ⟨no ("BadPoint", "point") (by decide +kernel), iC ("BadPoint", "point") (by decide +kernel), tI ("BadPoint", "point") (by decide +kernel), fd, inBadPoint F (ec "BadPoint" (by decide +kernel)).ox (no ("BadPoint", "point") (by decide +kernel)), (bnBadPoint F).1, (bnBadPoint F).2⟩
  have cBadInputs : CR P w K mg base "BadInputs" "inputs" := by
    obtain ⟨fd, F⟩ := d.def_ 36 (d := dIBadInputs) rfl
    exact ⟨no ("BadInputs", "inputs") (by decide +kernel), iC ("BadInputs", "inputs") (by decide +kernel), tI ("BadInputs", "inputs") (by decide +kernel), fd, inBadInputs F (ec "BadInputs" (by decide +kernel)).ox (no ("BadInputs", "inputs") (by decide +kernel)), (bnBadInputs F).1, (bnBadInputs F).2⟩
  have cBadStanding : CR P w K mg base "BadStanding" "standing" := by
    obtain ⟨fd, F⟩ := d.def_ 37 (d := dIBadStanding) rfl
    exact ⟨no ("BadStanding", "standing") (by decide +kernel), iC ("BadStanding", "standing") (by decide +kernel), tI ("BadStanding", "standing") (by decide +kernel), fd, inBadStanding F (ec "BadStanding" (by decide +kernel)).ox (no ("BadStanding", "standing") (by decide +kernel)), (bnBadStanding F).1, (bnBadStanding F).2⟩
  have cBadChoice : CR P w K mg base "BadChoice" "choice" := by
    obtain ⟨fd, F⟩ := d.def_ 38 (d := dIBadChoice) rfl
    exact ⟨no ("BadChoice", "choice") (by decide +kernel), iC ("BadChoice", "choice") (by decide +kernel), tI ("BadChoice", "choice") (by decide +kernel), fd, inBadChoice F (ec "BadChoice" (by decide +kernel)).ox (no ("BadChoice", "choice") (by decide +kernel)), (bnBadChoice F).1, (bnBadChoice F).2⟩
  have cBadChoices : CR P w K mg base "BadChoices" "index" := by
    obtain ⟨fd, F⟩ := d.def_ 39 (d := dIBadChoices) rfl
    exact ⟨no ("BadChoices", "index") (by decide +kernel), iC ("BadChoices", "index") (by decide +kernel), tI ("BadChoices", "index") (by decide +kernel), fd, inBadChoices F (ec "BadChoices" (by decide +kernel)).ox (no ("BadChoices", "index") (by decide +kernel)), (bnBadChoices F).1, (bnBadChoices F).2⟩
  have cBadMost : CR P w K mg base "BadMost" "most" := by
    obtain ⟨fd, F⟩ := d.def_ 40 (d := dIBadMost) rfl
    exact ⟨no ("BadMost", "most") (by decide +kernel), iC ("BadMost", "most") (by decide +kernel), tI ("BadMost", "most") (by decide +kernel), fd, inBadMost F (ec "BadMost" (by decide +kernel)).ox (no ("BadMost", "most") (by decide +kernel)), (bnBadMost F).1, (bnBadMost F).2⟩
  have cBadArgs : CR P w K mg base "BadArgs" "given" := by
    obtain ⟨fd, F⟩ := d.def_ 41 (d := dIBadArgs) rfl
    exact ⟨no ("BadArgs", "given") (by decide +kernel), iC ("BadArgs", "given") (by decide +kernel), tI ("BadArgs", "given") (by decide +kernel), fd, inBadArgs F (ec "BadArgs" (by decide +kernel)).ox (no ("BadArgs", "given") (by decide +kernel)), (bnBadArgs F).1, (bnBadArgs F).2⟩
  have cBadAnswer : CR P w K mg base "BadAnswer" "answer" := by
    obtain ⟨fd, F⟩ := d.def_ 42 (d := dIBadAnswer) rfl
    exact ⟨no ("BadAnswer", "answer") (by decide +kernel), iC ("BadAnswer", "answer") (by decide +kernel), tI ("BadAnswer", "answer") (by decide +kernel), fd, inBadAnswer F (ec "BadAnswer" (by decide +kernel)).ox (no ("BadAnswer", "answer") (by decide +kernel)), (bnBadAnswer F).1, (bnBadAnswer F).2⟩
  have cBadPaperText : CR P w K mg base "BadPaperText" "line" := by
    obtain ⟨fd, F⟩ := d.def_ 43 (d := dIBadPaperText) rfl
    exact ⟨no ("BadPaperText", "line") (by decide +kernel), iC ("BadPaperText", "line") (by decide +kernel), tI ("BadPaperText", "line") (by decide +kernel), fd, inBadPaperText F (ec "BadPaperText" (by decide +kernel)).ox (no ("BadPaperText", "line") (by decide +kernel)), (bnBadPaperText F).1, (bnBadPaperText F).2⟩
  have cBadTold : CR P w K mg base "BadTold" "told" := by
    obtain ⟨fd, F⟩ := d.def_ 44 (d := dIBadTold) rfl
    exact ⟨no ("BadTold", "told") (by decide +kernel), iC ("BadTold", "told") (by decide +kernel), tI ("BadTold", "told") (by decide +kernel), fd, inBadTold F (ec "BadTold" (by decide +kernel)).ox (no ("BadTold", "told") (by decide +kernel)), (bnBadTold F).1, (bnBadTold F).2⟩
  have cBadOrder : CR P w K mg base "BadOrder" "index" := by
    obtain ⟨fd, F⟩ := d.def_ 45 (d := dIBadOrder) rfl
    exact ⟨no ("BadOrder", "index") (by decide +kernel), iC ("BadOrder", "index") (by decide +kernel), tI ("BadOrder", "index") (by decide +kernel), fd, inBadOrder F (ec "BadOrder" (by decide +kernel)).ox (no ("BadOrder", "index") (by decide +kernel)), (bnBadOrder F).1, (bnBadOrder F).2⟩
  have cBadPlace : CR P w K mg base "BadPlace" "place" := by
    obtain ⟨fd, F⟩ := d.def_ 46 (d := dIBadPlace) rfl
    exact ⟨no ("BadPlace", "place") (by decide +kernel), iC ("BadPlace", "place") (by decide +kernel), tI ("BadPlace", "place") (by decide +kernel), fd, inBadPlace F (ec "BadPlace" (by decide +kernel)).ox (no ("BadPlace", "place") (by decide +kernel)), (bnBadPlace F).1, (bnBadPlace F).2⟩
  have cBadLineNumber : CR P w K mg base "BadLineNumber" "line" := by
    obtain ⟨fd, F⟩ := d.def_ 47 (d := dIBadLineNumber) rfl
    exact ⟨no ("BadLineNumber", "line") (by decide +kernel), iC ("BadLineNumber", "line") (by decide +kernel), tI ("BadLineNumber", "line") (by decide +kernel), fd, inBadLineNumber F (ec "BadLineNumber" (by decide +kernel)).ox (no ("BadLineNumber", "line") (by decide +kernel)), (bnBadLineNumber F).1, (bnBadLineNumber F).2⟩
  have cBadRuns : CR P w K mg base "BadRuns" "index" := by
    obtain ⟨fd, F⟩ := d.def_ 48 (d := dIBadRuns) rfl
    exact ⟨no ("BadRuns", "index") (by decide +kernel), iC ("BadRuns", "index") (by decide +kernel), tI ("BadRuns", "index") (by decide +kernel), fd, inBadRuns F (ec "BadRuns" (by decide +kernel)).ox (no ("BadRuns", "index") (by decide +kernel)), (bnBadRuns F).1, (bnBadRuns F).2⟩
  have cEnded : CR P w K mg base "Ended" "outcome" := by
    obtain ⟨fd, F⟩ := d.def_ 49 (d := dIEnded) rfl
    exact ⟨no ("Ended", "outcome") (by decide +kernel), iC ("Ended", "outcome") (by decide +kernel), tI ("Ended", "outcome") (by decide +kernel), fd, inEnded F (ec "Ended" (by decide +kernel)).ox (no ("Ended", "outcome") (by decide +kernel)), (bnEnded F).1, (bnEnded F).2⟩
  have cS : CR2 P w K mg base "BadSpot" "part" "place" := by
    obtain ⟨h1, h2⟩ := bb e7
    obtain ⟨h3, h4⟩ := bb h1
    obtain ⟨h5, h6⟩ := bb h2
    obtain ⟨fd, F⟩ := d.def_ 50 (d := dIBadSpot) rfl
    exact ⟨He.eqO_ok h3, of_decide_eq_true h4, fd, inBadSpot F (ec "BadSpot" (by decide +kernel)).ox (He.eqO_ok h5) (He.eqO_ok h6), F.bindsN fun _ _ _ _ _ _ us hl => match us, hl with | [_, _, _], _ => rfl⟩
  have W : Wd P w K mg base := ⟨gc, ec, nodup_inj (of_decide_eq_true e8), allL (p := fun q : Str × Str => CR P w K mg base q.1 q.2) (l := flds) ⟨cBadOther, cBadFacts, cBadEntry, cBadHeld, cBadPapers, cBadResult, cBadMany, cBadWay, cCannotPutIn, cBadEdit, cBadSession, cBadSessionText, cBadRoad, cBadExpression, cBadValues, cBadProcs, cBadName, cBadProcedure, cBadProgram, cBadExpressionText, cBadProgramText, cBadLine, cBadPoint, cBadInputs, cBadStanding, cBadChoice, cBadChoices, cBadMost, cBadArgs, cBadAnswer, cBadPaperText, cBadTold, cBadOrder, cBadPlace, cBadLineNumber, cBadRuns, cEnded, True.intro⟩, cS, fun x hx => List.all_eq_true.mp e6 x hx⟩
  have B : Bn mg := ⟨gf "isinstance" (by decide +kernel), gf "list" (by decide +kernel), gf "tuple" (by decide +kernel), gf "dict" (by decide +kernel), gf "bool" (by decide +kernel), gf "int" (by decide +kernel), gf "str" (by decide +kernel), gf "len" (by decide +kernel), gf "all" (by decide +kernel), gf "zip" (by decide +kernel), gf "abs" (by decide +kernel), gf "max" (by decide +kernel), gf "range" (by decide +kernel)⟩
  obtain ⟨fd0, F0⟩ := d.def_ 0 (d := d_law_start) rfl
  obtain ⟨fd1, F1⟩ := d.def_ 1 (d := d_law_pick) rfl
  obtain ⟨fd2, F2⟩ := d.def_ 2 (d := d_law_between) rfl
  obtain ⟨fd3, F3⟩ := d.def_ 3 (d := d_law_same) rfl
  obtain ⟨fd4, F4⟩ := d.def_ 4 (d := d_law_kinds_of) rfl
  obtain ⟨fd5, F5⟩ := d.def_ 5 (d := d_law_others) rfl
  obtain ⟨fd6, F6⟩ := d.def_ 6 (d := d_law_is_other) rfl
  obtain ⟨fd7, F7⟩ := d.def_ 7 (d := d_law_made_a) rfl
  obtain ⟨fd8, F8⟩ := d.def_ 8 (d := d_law_made_at) rfl
  obtain ⟨fd9, F9⟩ := d.def_ 9 (d := d_law_object) rfl
  obtain ⟨fd10, F10⟩ := d.def_ 10 (d := d_law_very) rfl
  obtain ⟨fd11, F11⟩ := d.def_ 11 (d := d_law_caught) rfl
  exact ⟨W, B, gf "ValueError" (by decide +kernel), gf "KeyError" (by decide +kernel), gf "IndexError" (by decide +kernel), gf "TypeError" (by decide +kernel), ⟨_, fd0, gd "_law_start" (by decide +kernel), F0⟩, ⟨_, fd1, gd "_law_pick" (by decide +kernel), F1⟩, ⟨_, fd2, gd "_law_between" (by decide +kernel), F2⟩, ⟨_, fd3, gd "_law_same" (by decide +kernel), F3⟩, ⟨_, fd4, gd "_law_kinds_of" (by decide +kernel), F4⟩, ⟨_, fd5, gd "_law_others" (by decide +kernel), F5⟩, ⟨_, fd6, gd "_law_is_other" (by decide +kernel), F6⟩, ⟨_, fd7, gd "_law_made_a" (by decide +kernel), F7⟩, ⟨_, fd8, gd "_law_made_at" (by decide +kernel), F8⟩, ⟨_, fd9, gd "_law_object" (by decide +kernel), F9⟩, ⟨_, fd10, gd "_law_very" (by decide +kernel), F10⟩, ⟨_, fd11, gd "_law_caught" (by decide +kernel), F11⟩⟩
theorem factsL (X : K.In h) (G : h.Ns mainGlobals mg) {f : Addr} (hfa : mg ("law" : Str) = some (.ref f)) (c : SaysX K) :
    ∃ fd : FuncData, (∀ (s : Shared) (v : Value), BindsTo s fd ⟨[v], []⟩ [("script", v)]) ∧ ∀ base : Heap, K.In base → base.Ns mainGlobals mg → FnOk P w K mg base CX0 6 f fd ["script"] (spLaw K) := by
  obtain ⟨fd, F⟩ := c.fnd.def_ 12 (d := dlaw) rfl
  have g : mg ("law" : Str) = some (.ref (He.ga K "law")) := by
    have e1 := (bb c.ex).1
    exact PySem.W.mg_of X G (He.eqO_ok (List.all_eq_true.mp e1 "law" (by decide +kernel)))
  have e := hfa.symm.trans g
  cases e
  have b := FunD.bindsA (ps := ["script"]) F fun _ _ _ _ _ _ us hl => match us, hl with | [_], _ => rfl
  exact ⟨fd, fun s v => b s [v] rfl, fun base _ _ => ok_law F (facts X G c base)⟩
end
end ER
open PySem PySem.W PySem.Calls PyProof.Rows
theorem PySem.Challenge.cw_runorproof_k95_errors_of_what_is_asked_holds : PySem.Challenge.rw_runorproof_k95_errors_of_what_is_asked.Holds := by
  w_on; o_law
  refine HandSHeadRun.head_any (r := OpenLaw.row PySem.Challenge.rw_runorproof_k95_errors_of_what_is_asked) (q := view (OpenLaw.row PySem.Challenge.rw_runorproof_k95_errors_of_what_is_asked).prog [57]) (H := ER.hk) (ob := ER.ob) (M := 12000) (loose := ER.names) (d := HandSHeadRun.topDef (OpenLaw.row PySem.Challenge.rw_runorproof_k95_errors_of_what_is_asked).prog 57) (kwd := []) ER.ob_eq
    (by kernel_rfl) (fun s => by kernel_rfl) ER.run (by kernel_rfl) (by kernel_rfl) (by kernel_rfl) (by rfl) (by first | assumption | decide +kernel) (by decide +kernel) ⟨rfl, rfl, rfl, rfl, rfl, by decide +kernel⟩ ?hw ?hc
  case hw => w_witness2
  case hc =>
    refine L2.walk_ofE (l := PySem.Challenge.rw_runorproof_k95_errors_of_what_is_asked) (n := 63) (k := 6) (x := "script") (CX := L2.CX0) rfl (by decide) (by kernel_rfl) ⟨rfl, by decide, by decide⟩ ?F (fun _ _ _ _ z => z)
    intro w mg fa h Y G hmg0
    obtain ⟨K, KX, c⟩ := Y
    have hmg : mg ("law" : PySem.Str) = some (.ref fa) := by
      have e : (HandSHeadRun.topDef (OpenLaw.row PySem.Challenge.rw_runorproof_k95_errors_of_what_is_asked).prog 57).name = ("law" : PySem.Str) := by kernel_rfl
      rw [← e]
      exact hmg0
    obtain ⟨fd, hb, hF⟩ := ER.factsL (P := (PySem.Challenge.rw_runorproof_k95_errors_of_what_is_asked).prog) (w := w) KX G hmg c
    exact ⟨K, fd, ER.spLaw K, KX, hb, fun H a ns hl _ hS => ⟨a, ns, rfl, hS, fun _ => rfl⟩, hF⟩
