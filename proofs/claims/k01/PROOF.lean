import PyProof.Rows.All
import Wide.All
import OpenK.AllK
import Wide.FinOn
import PyProof.EqAt
import PyProof.EqKinds
import PyProof.TupleCall
import KE.KFromBytes
import KE.KIsAll
import KE.KTryMore
import KE.KExcInit
import HandS.Base
import HandS.Call
import HandS.List
import HandS.Ends
import HandS.Exc
import HandS.ExcInit
import HandS.ExcIs
import HandS.Defaults
import HandS.MakeKw
import HandS.HeadHook1
import HandS.ExcValue
import HandS.Words
import HandS.WordsExc
import HandS.TryMany
import HandS.IsInst
import HandS.HeadEnd
import HandS.Zip
import HandS.HeadHook2
import HandS.WordsList
import HandS.Comp
import HandS.Iter
import HandS.Dict
import HandS.More
import HandS.Conv
import HandS.Codes
import HandS.CallLocal
import HandS.Head0
import HandS.Head1
import HandS.Head2
import KE.KStateDown
import PySem.Challenge.RW_semirail_k01_three_families
set_option Elab.async false
set_option linter.all false
set_option maxRecDepth 100000
set_option maxHeartbeats 0
/-! Exceptions of own classes as values: made by place and by name. -/
namespace PySem
namespace SrX
open PySem.W PySem.Calls PyProof.Rows PySem.HandSPX
section
variable {M : Model} {prog : Program} {w : World} {A : Around} {E : Value → Shared → Prop} {R : Result → Shared → Prop} {h : Heap} {g : Array GenState} {d : Drawn} {t : Nat} {os : OsState}
variable {nm q : Str} {C N : Addr} {bs bm bmB : List Value} {hdct : Bool} {sn : List Str} {sub : List Value} {ab : Bool} {col : Option Bool} {dd : Option Addr} {k0 k1 k2 k3 k5 : Option Value} {B newId initId : String}
theorem check_newK (F : ExcBaseFacts B newId initId bmB) (hT : ∀ X : String, bm.contains (.type X) = bmB.contains (.type X)) {rest : List Value} {kws : List (Str × Value)} {Q : Unit → Shared → Prop}
    (hC : h.get? C = some (excClassObj nm q C N bs bm hdct sn sub ab col dd k0 k1 k2 k3 k5 newId)) (hq : Q () ⟨h, g, d, t, os⟩) :
    wpAny M A (checkBuiltinCall newId ⟨.ref C :: rest, kws⟩) Q E ⟨h, g, d, t, os⟩ := by
  have hcont : (Value.ref C :: bm).contains (.type B) = true := by rw [List.contains_cons, hT, F.hasB, Bool.or_true]
  have hstar := F.noStar
  simp only [checkBuiltinCall, F.newKind, F.newSplit, F.newRow]
  repeat (first | refine wpAny_loadPart_at hC ?_ | (refine wpAny_isSubtype_exc hC ?_; rw [hcont]) | refine wpAny_staticBase_exc hC ?_ | refine wpAny_madeBy_exc hC ?_ | simp only [bne_self_eq_false, Bool.false_eq_true, if_false] | wp_step)
  exact hq
theorem new_K (F : ExcBaseFacts B newId initId bmB) (hT : ∀ X : String, bm.contains (.type X) = bmB.contains (.type X)) {rest : List Value} {kws : List (Str × Value)}
    (hC : h.get? C = some (excClassObj nm q C N bs bm hdct sn sub ab col dd k0 k1 k2 k3 k5 newId))
    (hq : R (.ok (.ret (.ref (h.objs.size + 1)))) ⟨(h.push (W.kdv_tup rest)).push (excO C h.objs.size), g, d, t, os⟩) (hrest : rest.length ≤ sizeLine) :
    codeAny (model prog w) A (.builtin newId ⟨.ref C :: rest, kws⟩) R ⟨h, g, d, t, os⟩ := by
  have hends := F.ends
  have hcB : (Value.ref C :: bm).contains (.type B) = true := by rw [List.contains_cons, hT, F.hasB, Bool.or_true]
  have hcA : (Value.ref C :: bm).contains (.type "AttributeError") = false := by rw [List.contains_cons, hT, F.noAttr]; rfl
  have hcN : (Value.ref C :: bm).contains (.type "NameError") = false := by rw [List.contains_cons, hT, F.noName]; rfl
  refine codeAny_builtinAt F.entry ?_
  unfold Builtin.«BaseException.__new__»
  refine wpAt_bind ?_
  show wpAt _ _ _ (stack >>= _) _ _ _
  refine wpAt_bind (wpAt_stack fun p below => wpAt_of_wpAny ?_)
  wp_walk
  refine wpAt_of_wpAny ?_
  rw [F.owner]
  repeat (first | with_reducible refine wpAny_madeHere_exc F.canon hC ?_ | with_reducible refine wpAny_loadPart_at hC ?_ | (with_reducible refine wpAny_isSubtype_exc hC ?_; first | rw [hcB] | rw [hcA] | rw [hcN]) | wp_step)
  show R _ _
  rw [Heap.size_push]
  exact hq
theorem type_call_K (F : ExcBaseFacts B newId initId bmB) (hT : ∀ X : String, bm.contains (.type X) = bmB.contains (.type X)) {rest : List Value} {kws : List (Str × Value)} {fI : Addr} {Q : Fin → Shared → Prop}
    (hC : h.get? C = some (excClassObj nm q C N bs bm hdct sn sub ab col dd k0 k1 k2 k3 k5 newId))
    (hi : W.Looks (model prog w) h (typeLookup (.ref C) "__init__") (some (.ref fI))) (hb : ∀ self, W.Looks (model prog w) h (bindSpecial (.ref fI) self) (.ref fI, [self])) (hrest : rest.length ≤ sizeLine)
    (hq : codeAny (model prog w) A (.call (.ref fI) ⟨.ref (h.objs.size + 1) :: rest, kws⟩)
      (fun r s' => match r with | .ok (.ret v) => v = .none ∧ Q (.done (.ret (.ref (h.objs.size + 1)))) s' | .ok _ => False | .error e => E e s')
      ⟨(h.push (W.kdv_tup rest)).push (excO C h.objs.size), g, d, t, os⟩) :
    wpAny (model prog w) A (Builtin.«type.__call__» ⟨.ref C :: rest, kws⟩) Q E ⟨h, g, d, t, os⟩ := by
  repeat (first | with_reducible refine wpAny_loadPart_at hC ?_ | with_reducible refine wpAny_madeBy_exc hC ?_ | wp_step)
  refine codeAny_call_builtin_code (Code.quiet_builtin _ F.quiet) (check_newK F hT hC ?_)
  refine new_K F hT hC ?_ hrest
  show wpAny _ _ _ _ _ _
  have k : ∀ b o, h.get? b = some o → ((h.push (W.kdv_tup rest)).push (excO C h.objs.size)).get? b = some o := fun b o e => Heap.get?_push_of_some _ (Heap.get?_push_of_some _ e)
  have hC₁ := k _ _ hC
  have hget : ((h.push (W.kdv_tup rest)).push (excO C h.objs.size)).get? (h.objs.size + 1) = some (excO C h.objs.size) := by heap_get
  have hcC : (Value.ref C :: bm).contains (.ref C) = true := by simp
  have i1 := hi.keeps k
  have b1 := (hb (.ref (h.objs.size + 1))).keeps k
  unfold isInstance
  repeat (first | with_reducible refine wpAny_loadPart_at hget ?_ | (with_reducible refine wpAny_isSubtype_exc hC₁ ?_; rw [hcC]) | wp_step)
  show wpAny _ _ (typeLookup (.ref C) _) _ _ _
  refine i1.at ?_
  refine wpAny_holding (wpAny_bind (b1.at ?_))
  refine wpAny_bind (wpAny_call (codeAny_mono hq fun r s' z => ?_))
  rcases r with e | (v | _ | _ | _) <;> first | exact z | exact z.elim | skip
  obtain ⟨rfl, z⟩ := z
  first
    | exact wpAny_pure (wpAny_pure z)
    | (wp_walk; exact z)
theorem check_type_callK {rest : List Value} {kws : List (Str × Value)} {Q : Unit → Shared → Prop} (hC : h.get? C = some (excClassObj nm q C N bs bm hdct sn sub ab col dd k0 k1 k2 k3 k5 newId))
    (hq : Q () ⟨h, g, d, t, os⟩) : wpAny M A (checkBuiltinCall "type.__call__" ⟨.ref C :: rest, kws⟩) Q E ⟨h, g, d, t, os⟩ := by
  have f3 := tc_sub
  have hT : (⟨h, g, d, t, os⟩ : Shared).TypeIs (.ref C) "type" := ⟨_, hC, rfl⟩
  simp only [checkBuiltinCall, tc_kind, tc_split]
  repeat (any_goals (first | assumption | with_reducible refine wpAny_loadPart_at hC ?_ | with_reducible refine wpAny_onRaise ?_ | with_reducible refine wpAny_map ?_ | wp_step))
theorem call_K (F : ExcBaseFacts B newId initId bmB) (hT : ∀ X : String, bm.contains (.type X) = bmB.contains (.type X)) {rest : List Value} {kws : List (Str × Value)} {fI : Addr}
    (hC : h.get? C = some (excClassObj nm q C N bs bm hdct sn sub ab col dd k0 k1 k2 k3 k5 newId))
    (hi : W.Looks (model prog w) h (typeLookup (.ref C) "__init__") (some (.ref fI))) (hb : ∀ self, W.Looks (model prog w) h (bindSpecial (.ref fI) self) (.ref fI, [self])) (hrest : rest.length ≤ sizeLine)
    (hq : codeAny (model prog w) (A.under (.builtin "type.__call__" ⟨.ref C :: rest, kws⟩)) (.call (.ref fI) ⟨.ref (h.objs.size + 1) :: rest, kws⟩) (W.InitBack (h.objs.size + 1) R)
      ⟨(h.push (W.kdv_tup rest)).push (excO C h.objs.size), g, d, t, os⟩) :
    codeAny (model prog w) A (.call (.ref C) ⟨rest, kws⟩) R ⟨h, g, d, t, os⟩ := by
  have f1 := tc_lookup
  have f2 := tc_bind (.ref C)
  have hTy : (⟨h, g, d, t, os⟩ : Shared).TypeIs (.ref C) "type" := ⟨_, hC, rfl⟩
  refine codeAny_of_tree ?_
  show wpAny _ _ (callAny (.ref C) _) _ _ _
  repeat (any_goals (first | assumption | with_reducible refine wpAny_loadPart_at hC ?_ | wp_step))
  refine ⟨rfl, ?_⟩
  refine codeAny_call_builtin_at (Code.quiet_builtin _ (by decide +kernel)) entry_typeCall (check_type_callK hC (type_call_K F hT hC hi hb hrest ?_))
  refine codeAny_mono hq fun r s' z => ?_
  rcases r with e | (v | _ | _ | _) <;> exact z
end
/-! ### self.name = v on an exception, over any built-in base -/
section
variable {prog : Program} {w : World} {A : Around} {E : Value → Shared → Prop} {R : Result → Shared → Prop} {hp : Heap} {g : Array GenState} {d : Drawn} {t : Nat} {os : OsState} {bmB : List Value}
theorem tail_ne {bmB l : List Value} (hb : bmB.isEmpty = false) (e : W.excTail bmB l = true) : l.isEmpty = false := by
  cases l with
  | nil =>
    have z : ([] : List Value) = bmB := beq_iff_eq.mp e
    rw [← z] at hb
    cases hb
  | cons _ _ => rfl
theorem osa_new {K : W.Frag} {name : Str} {tk : Tok} {v : Value} {x C : Addr} {fv : Array Value} {cd : ClassData} (hp0 : ∀ self, refuseLoop self "__setattr__" bmB = pure ()) (hbE : bmB.isEmpty = false) (hbO : bmB.contains (.type "object") = true)
    (X : K.In hp) (hx : hp.get? x = some { cls := .ref C, data := .fields fv }) (hcd : W.clsIn K C = some cd) (hm : W.excTail bmB cd.mro = true) (hh : cd.hasDict = true) (ha : W.findIn K (.ref C) name = some none)
    (hq : ∀ h' tk' dx, (∀ b o, b ≠ x → hp.get? b = some o → h'.get? b = some o) → hp.objs.size ≤ dx → dx ≠ x → h'.get? x = some { cls := .ref C, dict := some dx, data := .fields fv } →
      h'.Ns1 dx (fun y => if y = name then some v else none) → R (.ok (.ret .none)) ⟨h', g, d, tk', os⟩) :
    codeAny (model prog w) A (.call (.builtin "object.__setattr__") ⟨[.ref x, .str name tk, v], []⟩) R ⟨hp, g, d, t, os⟩ := by
  have I : W.InstAt hp x { cls := .ref C, data := .fields fv } C none := ⟨hx, rfl, rfl, trivial⟩
  have SF := F.store_object
  have ne := tail_ne hbE hm
  have hob : cd.mro.contains (.type "object") = true := (W.excTail_contains "object" _ hm).trans hbO
  have hxs : x ≠ hp.objs.size := Nat.ne_of_lt (Heap.lt_size hx)
  have sub : W.Looks (model prog w) hp (isInstance (.ref x) (.type "object")) true := I.type.andThen (W.looks_mroIn X (by unfold W.mroIn; rw [hcd, Option.bind_some, if_neg (by rw [ne]; decide), hob]))
  refine codeAny_call_builtin SF.slot.plain SF.entry (@W.check_slot (model prog w) _ _ ⟨hp, g, d, t, os⟩ "object.__setattr__" "object" "__setattr__" (.ref x) [.str name tk, v] [] _ SF.kind SF.split sub (SF.args (.ref x) (.str name tk) v) ?_)
  have hmr : W.Looks (model prog w) hp (mroOf (.ref C)) cd.mro := (W.looks_clsIn X hcd).andThen .now
  have L3 : W.Looks (model prog w) hp (Builtin.ObjectAttr.storeTaker? none) none := .now
  have hcls : W.Looks (model prog w) hp (classData C) cd := W.looks_clsIn X hcd
  rw [W.osa_eq, refuse_eq]
  refine wpAny_bind (wpAny_bind (I.type.at (wpAny_bind (hmr.at ?_))))
  rw [W.excTail_pass _ (hp0 _) _ hm]
  refine wpAny_pure (wpAny_bind (I.type.at (wpAny_bind ((W.looks_findIn X ha).at (wpAny_bind (L3.at ?_))))))
  show wpAny _ _ (Builtin.ObjectAttr.storeInOwnDict (.ref x) (.ref C) (.str name tk) name v false) _ _ _
  obtain ⟨nm, bs, mro, ns, qn, hd, sn, sb, ab, col, del⟩ := cd
  dsimp only at hh
  subst hh
  unfold Builtin.ObjectAttr.storeInOwnDict Builtin.ObjectAttr.ownDictForStores
  repeat (first | with_reducible refine store_in_new ?_ ?_ | with_reducible refine wpAny_loadPart_at hx ?_ | with_reducible refine hcls.at ?_ | wp_step)
  · exact ⟨_, #[], _, (Heap.get?_update_ne _ _ _ _ hxs.symm).trans (Heap.get?_push_at rfl rfl), rfl, fun e he => absurd he (by simp), fun _ => rfl⟩
  · intro h' tk' hn' hs
    have hx₁ : (hp.push { cls := .type "dict", data := .dict #[] }).get? x = some { cls := .ref C, data := .fields fv } := Heap.get?_push_of_some _ hx
    refine hq h' tk' hp.objs.size (fun b o hb ho => ?_) (Nat.le_refl _) hxs.symm ?_ hn'
    · exact (hs.2 b (Nat.ne_of_lt (Heap.lt_size ho))).trans ((Heap.get?_update_ne _ _ _ _ hb).trans (Heap.get?_push_of_some _ ho))
    · exact (hs.2 x hxs).trans (Heap.get?_update_self _ hx₁ rfl)
theorem osa_more {K : W.Frag} {name : Str} {tk : Tok} {v : Value} {x C dx : Addr} {fv : Array Value} {cd : ClassData} {m0 : Str → Option Value} {nl : List Str} (hp0 : ∀ self, refuseLoop self "__setattr__" bmB = pure ()) (hbE : bmB.isEmpty = false) (hbO : bmB.contains (.type "object") = true)
    (X : K.In hp) (hx : hp.get? x = some { cls := .ref C, dict := some dx, data := .fields fv }) (hns : hp.Ns1 dx m0) (hw : Within m0 nl) (hz : nl.length ≤ 1000) (hcd : W.clsIn K C = some cd) (hm : W.excTail bmB cd.mro = true) (hh : cd.hasDict = true)
    (ha : W.findIn K (.ref C) name = some none)
    (hq : ∀ h' tk', (∀ b o, b ≠ dx → hp.get? b = some o → h'.get? b = some o) → h'.Ns1 dx (fun y => if y = name then some v else m0 y) → R (.ok (.ret .none)) ⟨h', g, d, tk', os⟩) :
    codeAny (model prog w) A (.call (.builtin "object.__setattr__") ⟨[.ref x, .str name tk, v], []⟩) R ⟨hp, g, d, t, os⟩ := by
  obtain ⟨oD, esD, epD, hoD, hdD, _⟩ := hns.count hw
  have I : W.InstAt hp x { cls := .ref C, dict := some dx, data := .fields fv } C (some oD) := ⟨hx, rfl, rfl, hoD⟩
  have SF := F.store_object
  have ne := tail_ne hbE hm
  have hob : cd.mro.contains (.type "object") = true := (W.excTail_contains "object" _ hm).trans hbO
  have sub : W.Looks (model prog w) hp (isInstance (.ref x) (.type "object")) true := I.type.andThen (W.looks_mroIn X (by unfold W.mroIn; rw [hcd, Option.bind_some, if_neg (by rw [ne]; decide), hob]))
  refine codeAny_call_builtin SF.slot.plain SF.entry (@W.check_slot (model prog w) _ _ ⟨hp, g, d, t, os⟩ "object.__setattr__" "object" "__setattr__" (.ref x) [.str name tk, v] [] _ SF.kind SF.split sub (SF.args (.ref x) (.str name tk) v) ?_)
  have hmr : W.Looks (model prog w) hp (mroOf (.ref C)) cd.mro := (W.looks_clsIn X hcd).andThen .now
  have L3 : W.Looks (model prog w) hp (Builtin.ObjectAttr.storeTaker? none) none := .now
  have hcls : W.Looks (model prog w) hp (classData C) cd := W.looks_clsIn X hcd
  rw [W.osa_eq, refuse_eq]
  refine wpAny_bind (wpAny_bind (I.type.at (wpAny_bind (hmr.at ?_))))
  rw [W.excTail_pass _ (hp0 _) _ hm]
  refine wpAny_pure (wpAny_bind (I.type.at (wpAny_bind ((W.looks_findIn X ha).at (wpAny_bind (L3.at ?_))))))
  show wpAny _ _ (Builtin.ObjectAttr.storeInOwnDict (.ref x) (.ref C) (.str name tk) name v false) _ _ _
  obtain ⟨nm, bs, mro, ns, qn, hd, sn, sb, ab, col, del⟩ := cd
  dsimp only at hh
  subst hh
  unfold Builtin.ObjectAttr.storeInOwnDict Builtin.ObjectAttr.ownDictForStores
  repeat (first | with_reducible refine PySem.OEX.store_in_old hns hw hz ?_ | with_reducible refine wpAny_loadPart_at hx ?_ | with_reducible refine hcls.at ?_ | wp_step)
  intro h' tk' hn' hs
  exact hq h' tk' (fun b o hb ho => (hs.2 b hb).trans ho) hn'
end
end SrX
end PySem
namespace L2
open PySem PySem.Spec PyProof.Rows
/-- what the written part says of an own exception class at C, over some built-in base -/
structure ExT (K : PySem.W.Frag) (C : Addr) : Prop where
  cls : ∃ (B newId initId : String) (bmB : List Value), ExcBaseFacts B newId initId bmB ∧ (∀ self, refuseLoop self "__setattr__" bmB = pure ()) ∧ bmB.isEmpty = false ∧ bmB.contains (.type "object") = true ∧
    ∃ nm q N bs bm sn sub ab col dd k0 k1 k2 k3 k5, K.lookup C = some (excClassObj nm q C N bs bm true sn sub ab col dd k0 k1 k2 k3 k5 newId) ∧ PySem.W.excTail bmB bm = true
  sa : PySem.W.findIn K (.ref C) "__setattr__" = some (some (.builtin "object.__setattr__"))
  ga : PySem.W.findIn K (.ref C) "__getattribute__" = some (some (.builtin "BaseException.__getattribute__"))
  gg : PySem.W.findIn K (.ref C) "__getattr__" = some none
  exC : PySem.W.subIn K (.ref C) (.type "BaseException") = some true
  tyC : PySem.W.typeIn K (.ref C) = some (.type "type")
  kC : PySem.W.keepIn K (.ref C) = true
  hdC : PySem.W.hasDictIn K C = true
  ca : PySem.W.findIn K (.ref C) "__class__" = some (some (.builtin "object.__class__"))
  hm : PySem.W.mroIn K C (.type "object") = some true
def arBase : List Value := [.type "ArithmeticError", .type "Exception", .type "BaseException", .type "object"]
def lkBase : List Value := [.type "LookupError", .type "Exception", .type "BaseException", .type "object"]
/-- the class object, by a look -/
def exIn (K : PySem.W.Frag) (C : Addr) (bmB : List Value) (newId : String) : Bool := match K.lookup C with
  | some ⟨.type "type", _, .cls cd, sl⟩ => (match cd.mro, sl.toList with
    | .ref C' :: bm, [_, _, _, _, some (.builtin n), _] => C' == C && n == newId && !cd.hasDel && PySem.W.excTail bmB bm && cd.hasDict
    | _, _ => false)
  | _ => false
theorem exIn_ok {K : PySem.W.Frag} {C : Addr} {bmB : List Value} {newId : String} (q : exIn K C bmB newId = true) :
    ∃ nm qn N bs bm sn sub ab col dd k0 k1 k2 k3 k5, K.lookup C = some (excClassObj nm qn C N bs bm true sn sub ab col dd k0 k1 k2 k3 k5 newId) ∧ PySem.W.excTail bmB bm = true := by
  unfold exIn at q
  split at q
  · rename_i dd cd sl ho
    split at q
    · rename_i C' bm k0 k1 k2 k3 n k5 hm hs
      simp only [Bool.and_eq_true, beq_iff_eq, Bool.not_eq_true'] at q
      obtain ⟨⟨⟨⟨rfl, rfl⟩, hdel⟩, ht⟩, hdc⟩ := q
      obtain ⟨nm, bs, mro, ns, qn, hd, sn, sub, ab, col, del⟩ := cd
      dsimp only at hm hdel hdc
      subst hm hdel hdc
      have hsl : sl = #[k0, k1, k2, k3, some (.builtin n), k5] := by
        obtain ⟨l⟩ := sl
        simp only at hs
        rw [hs]
      subst hsl
      exact ⟨nm, qn, ns, bs, bm, sn, sub, ab, col, dd, k0, k1, k2, k3, k5, ho, ht⟩
    · cases q
  · cases q
def exB (K : PySem.W.Frag) (C : Addr) : Bool := (exIn K C He.veBase "ValueError.__new__" || (exIn K C arBase "ArithmeticError.__new__" || exIn K C lkBase "LookupError.__new__")) &&
  (decide (PySem.W.findIn K (.ref C) "__setattr__" = some (some (.builtin "object.__setattr__"))) && (decide (PySem.W.findIn K (.ref C) "__getattribute__" = some (some (.builtin "BaseException.__getattribute__"))) &&
  (decide (PySem.W.findIn K (.ref C) "__getattr__" = some none) && (decide (PySem.W.subIn K (.ref C) (.type "BaseException") = some true) && (decide (PySem.W.typeIn K (.ref C) = some (.type "type")) &&
  (PySem.W.keepIn K (.ref C) && (PySem.W.hasDictIn K C && (decide (PySem.W.findIn K (.ref C) "__class__" = some (some (.builtin "object.__class__"))) && decide (PySem.W.mroIn K C (.type "object") = some true)))))))))
theorem exB_ok {K : PySem.W.Frag} {C : Addr} (h : exB K C = true) : ExT K C := by
  unfold exB at h
  simp only [Bool.and_eq_true, Bool.or_eq_true, decide_eq_true_eq] at h
  obtain ⟨h0, h1, h2, h3, h4, h5, h6, h7, h8, h9⟩ := h
  refine ⟨?_, h1, h2, h3, h4, h5, h6, h7, h8, h9⟩
  rcases h0 with h0 | h0 | h0
  · exact ⟨_, _, _, _, F.excBase_ValueError, F.store_ValueError.passes, rfl, by decide +kernel, exIn_ok h0⟩
  · exact ⟨_, _, _, _, F.excBase_ArithmeticError, F.store_ArithmeticError.passes, rfl, by decide +kernel, exIn_ok h0⟩
  · exact ⟨_, _, _, _, F.excBase_LookupError, F.store_LookupError.passes, rfl, by decide +kernel, exIn_ok h0⟩
section
variable {X : Cx} {pins : List (Addr × Obj)} {σ : St} {H : Hp} {s : Shared} {a C dx : Addr} {f : Str} {y : V} {u : Value} {fs : List (Str × V)} {Q : Unit → Shared → Prop} {E : Value → Shared → Prop} {A : Around}
/-- self.f = y, the first field -/
theorem xst_new (T : ExT X.K C) (I : Inv X pins σ H s) (e : H a = some (exo a C none)) (hno : PySem.W.findIn X.K (.ref C) f = some none) (ry : RelV y u)
    (h : ∀ dx s', H dx = none → dx ≠ a → Inv X pins σ (upd (upd H dx (exd dx [(f, y)])) a (exo a C (some dx))) s' → Q () s') : wpAny (model X.prog X.w) A (setAttr (.ref a) f u) Q E s := by
  obtain ⟨B, newId, initId, bmB, _, pas, hbE, hbO, nm, q, N, bs, bm, sn, sub, ab, col, dd, k0, k1, k2, k3, k5, hC, hbm⟩ := T.cls
  have hcl : PySem.W.clsIn X.K C = some { name := nm, bases := bs, mro := .ref C :: bm, ns := N, qualname := q, hasDict := true, slotNames := sn, subclasses := sub, abstract := ab, collection := col, hasDel := false } := by unfold PySem.W.clsIn; rw [hC] <;> rfl
  obtain ⟨t1, ho⟩ := exo_at I.hok e
  obtain ⟨hp, g, d, t, os⟩ := s
  refine PySem.W.set_plain I.kIn (ox := { cls := .ref C, dict := none, data := .fields #[.ref t1, .none, .none, .none, .bool false, .none] }) (od := none) ⟨ho, rfl, rfl, trivial⟩ T.sa ?_
  refine PySem.SrX.osa_new pas hbE hbO I.kIn ho hcl (show PySem.W.excTail bmB (.ref C :: bm) = true from hbm) rfl hno (fun h' tk' dx k dn dne hx hn => ?_)
  have hnd : H dx = none := I.hok.fresh dn
  have nd : ∀ {b : Addr} {o : Obj}, hp.get? b = some o → b ≠ dx := fun {b o} q => Nat.ne_of_lt (Nat.lt_of_lt_of_le (Heap.lt_size q) dn)
  have na : ∀ {b : Addr}, H b = none → b ≠ a := fun {b} n z => by
    rw [z, e] at n
    cases n
  have Un1 : Un X.fs [] H (upd (upd H dx (exd dx [(f, y)])) a (exo a C (some dx))) hp h' := {
    keep := fun b o q n _ _ => k b o (na n) q
    slot := fun b o q n _ _ => ⟨o.slots, k b o (na n) q⟩
    free := fun b o q n _ => by rw [upd_ne (na n), upd_ne (nd q)]; exact n
    there := fun b o q _ => by
      by_cases hb : b = a
      · exact ⟨_, by rw [hb]; exact hx⟩
      · exact ⟨o, k b o hb q⟩
    tups := fun b xs q => by rw [upd_ne (at_ne e q exo_tup), upd_ne (ne_of_none q hnd)]; exact q
    frzs := fun b o v q => by rw [upd_ne (at_ne e q exo_frz), upd_ne (ne_of_none q hnd)]; exact q
    tbls := fun b ps q => ⟨#[], by rw [upd_ne (at_ne e q exo_tbl), upd_ne (ne_of_none q hnd), q]; simp⟩ }
  refine h dx _ hnd dne (I.un (t' := tk') Un1 fun b o q => ?_)
  by_cases hb : b = a
  · subst hb
    rw [upd_same] at q
    cases q
    exact exo_ok hx
  · rw [upd_ne hb] at q
    by_cases hd : b = dx
    · subst hd
      rw [upd_same] at q
      cases q
      exact exd_ok hn (relO_put (fs := []) ry fun g => True.intro)
    · rw [upd_ne hd] at q
      exact (I.hok b o q).stay (fun c v hc z => k c v (by
          rcases hc with hc | hc
          · rw [hc]
            exact hb
          · exact at_ne e hc exo_own) z)
        (fun c hc => by rw [upd_ne (at_ne e hc exo_own), upd_ne (ne_of_none hc hnd)]; exact hc) (fun c xs hc => by rw [upd_ne (at_ne e hc exo_tup), upd_ne (ne_of_none hc hnd)]; exact hc)
/-- self.f = y, a further field -/
theorem xst_more (T : ExT X.K C) (I : Inv X pins σ H s) (e : H a = some (exo a C (some dx))) (ed : H dx = some (exd dx fs)) (hl : fs.length ≤ 900) (hno : PySem.W.findIn X.K (.ref C) f = some none) (ry : RelV y u)
    (h : ∀ s', Inv X pins σ (upd H dx (exd dx ((f, y) :: fs))) s' → Q () s') : wpAny (model X.prog X.w) A (setAttr (.ref a) f u) Q E s := by
  obtain ⟨B, newId, initId, bmB, _, pas, hbE, hbO, nm, q, N, bs, bm, sn, sub, ab, col, dd, k0, k1, k2, k3, k5, hC, hbm⟩ := T.cls
  have hcl : PySem.W.clsIn X.K C = some { name := nm, bases := bs, mro := .ref C :: bm, ns := N, qualname := q, hasDict := true, slotNames := sn, subclasses := sub, abstract := ab, collection := col, hasDel := false } := by unfold PySem.W.clsIn; rw [hC] <;> rfl
  obtain ⟨t1, ho⟩ := exo_at I.hok e
  obtain ⟨mA, hns, rel⟩ := exd_at I.hok ed
  have hw := within_of rel
  obtain ⟨hp, g, d, t, os⟩ := s
  obtain ⟨oD, _, _, hoD, _, _⟩ := hns.count hw
  refine PySem.W.set_plain I.kIn (ox := { cls := .ref C, dict := some dx, data := .fields #[.ref t1, .none, .none, .none, .bool false, .none] }) (od := some oD) ⟨ho, rfl, rfl, hoD⟩ T.sa ?_
  refine PySem.SrX.osa_more pas hbE hbO I.kIn ho hns hw (by rw [List.length_map]; omega) hcl (show PySem.W.excTail bmB (.ref C :: bm) = true from hbm) rfl hno (fun h' tk' k hn => ?_)
  have hd : ∃ o, h'.get? dx = some o := by
    obtain ⟨o, _, _, e', _⟩ := hn
    exact ⟨o, e'⟩
  exact h _ (I.write (t' := tk') (x := dx) (e := dx) (o := exd dx ((f, y) :: fs)) (by rw [ed]; exact True.intro) (.inl rfl) k hd (exd_ok hn (relO_put ry rel)))
end
/-- self.f = e in an exception's __init__ -/
def tXst (K : PySem.W.Frag) (f : Str) (to te : TE) : TS := fun D σ H => te σ H fun y H1 => to σ H1 fun x H2 => ∃ a C : Addr, x = .ref a ∧ ExT K C ∧ PySem.W.findIn K (.ref C) f = some none ∧
  ((H2 a = some (exo a C none) ∧ ∀ dx, H2 dx = none → dx ≠ a → D.nx σ (upd (upd H2 dx (exd dx [(f, y)])) a (exo a C (some dx)))) ∨
    ∃ (dx : Addr) (fs : List (Str × V)), H2 a = some (exo a C (some dx)) ∧ H2 dx = some (exd dx fs) ∧ fs.length ≤ 900 ∧ D.nx σ (upd H2 dx (exd dx ((f, y) :: fs))))
theorem ps_xst {X : Cx} {o e : Expr} {to te : TE} {f : Str} {p' pos : Pos} (ho : PE X o to) (he : PE X e te) (hs : swapsWith e (some (.Attribute o f p')) pos.line X.env = pure false := by rfl) : PS X (.Assign [.Attribute o f p'] e pos) (tXst X.K f to te) := by
  refine ⟨fun pins s σ H D I h => ?_⟩
  refine plainObj_wpAny_Assign_Attribute (thn (he.run pins s σ H _ I h) fun v s1 ⟨y, H1, I1, r1, q1⟩ => thn (ho.run pins s1 σ H1 _ I1 q1) fun u s2 ⟨x, H2, I2, r2, a, C, ex, T, hno, q⟩ => ?_) hs
  subst ex
  obtain rfl : u = Value.ref a := r2
  rcases q with ⟨ea, q⟩ | ⟨dx, fs, ea, ed, hl, q⟩
  · exact xst_new T I2 ea hno r1 fun dx s' n ne J => ⟨σ, _, J, q dx n ne⟩
  · exact xst_more T I2 ea ed hl hno r1 fun s' J => ⟨σ, _, J, q⟩
end L2
namespace L2
open PySem PySem.Spec PyProof.Rows
/-- an exception object, raised or not: its class, its dict -/
def exV (a : Addr) (cls : Value) (d : Option Addr) : HO := .ext fun h => ∃ (oe : Obj) (vs : Array Value), h.get? a = some oe ∧ Zc cls d oe ∧ oe.data = .fields vs
theorem exV_ok {P : Program} {w : World} {H : Hp} {h : Heap} {a : Addr} {cls : Value} {d : Option Addr} {oe : Obj} {vs : Array Value} (e : h.get? a = some oe) (z : Zc cls d oe) (dt : oe.data = .fields vs) : ObjOk P w H h a (exV a cls d) :=
  ⟨⟨oe, vs, e, z, dt⟩, ⟨oe, e⟩, fun _ _ ⟨o, v, q, r⟩ k => ⟨o, v, k o q, r⟩⟩
theorem exV_at {P : Program} {w : World} {H : Hp} {h : Heap} {a : Addr} {cls : Value} {d : Option Addr} (hok : HOk P w H h) (he : H a = some (exV a cls d)) : ∃ (oe : Obj) (vs : Array Value), h.get? a = some oe ∧ Zc cls d oe ∧ oe.data = .fields vs := by
  have x : ObjOk P w H h a (.ext fun h => ∃ (oe : Obj) (vs : Array Value), h.get? a = some oe ∧ Zc cls d oe ∧ oe.data = .fields vs) := hok a _ he
  exact x.1
section
variable {X : Cx} {pins : List (Addr × Obj)} {σ : St} {H1 : Hp} {s1 : Shared}
/-- the making of an own exception, up to the end of its __init__ -/
theorem run_mkX {CX : CXT} {C fI : Addr} {k : Nat} {fd : FuncData} {ps : List Str} {sp : Sp} {us bs : List Value} {kws : List (Str × Value)} {vs : List V} {R : Addr → Addr → List (Str × V) → Hp → Prop} {Q : Value → Shared → Prop}
    (T : ExT X.K C) (iC : PySem.W.findIn X.K (.ref C) "__init__" = some (some (.ref fI))) (tI : PySem.W.typeIn X.K (.ref fI) = some (.type "function"))
    (F1 : FnOk X.prog X.w X.K X.mg X.base CX k fI fd ps sp) (hr : Room (k + 1) X.A) (hx : Passes CX X (fun _ _ _ => False)) (hus : us.length ≤ sizeLine)
    (hb : ∀ (s : Shared) (a : Addr), X.K.In s.heap → BindsTo s fd ⟨.ref a :: us, kws⟩ (ps.zip (.ref a :: bs))) (r : Vals vs bs) (I1 : Inv X pins σ H1 s1)
    (h : ∀ a, H1 a = none → sp (.ref a :: vs) (upd H1 a (exo a C none)) (fun v H2 => v = .non ∧ ∃ (d : Addr) (fs : List (Str × V)), H2 a = some (exo a C (some d)) ∧ H2 d = some (exd d fs) ∧ H1 d = none ∧ R a d fs H2) (fun _ _ _ => False))
    (hQ : ∀ (a d : Addr) (fs : List (Str × V)) (H2 : Hp) (s' : Shared) (G : Heap) (t0 : Addr), R a d fs H2 → H1 a = none → Inv X pins σ (upd (del H2 a) d (.xd fs)) { s' with heap := G } → (∀ b o, G.get? b = some o → s'.heap.get? b = some o) → G.get? a = none →
      s'.heap.get? a = some ({ cls := .ref C, dict := some d, data := .fields #[.ref t0, .none, .none, .none, .bool false, .none] } : Obj) → (upd (del H2 a) d (.xd fs)) a = none → AllBare s'.gens → Q (.ref a) s') :
    wpAny (model X.prog X.w) X.A (call (.ref C) us kws) Q X.xe s1 := by
  obtain ⟨B, newId, initId, bmB, FB, pas, hbE, hbO, nm, q, N, bs', bm, sn, sub, ab, col, dd, k0, k1, k2, k3, k5, hC, hbm⟩ := T.cls
  obtain ⟨hp, g, dr, tk, os⟩ := s1
  have hsz : hp.objs.size ≤ hp.objs.size + 1 := Nat.le_succ _
  have hn : H1 (hp.objs.size + 1) = none := I1.hok.fresh hsz
  have hq := h (hp.objs.size + 1) hn
  have kk : ∀ b o, hp.get? b = some o → ((hp.push (PySem.W.kdv_tup us)).push (PySem.HandSPX.excO C hp.objs.size)).get? b = some o := fun b o e => Heap.get?_push_of_some _ (Heap.get?_push_of_some _ e)
  have hget : ((hp.push (PySem.W.kdv_tup us)).push (PySem.HandSPX.excO C hp.objs.size)).get? (hp.objs.size + 1) = some (PySem.HandSPX.excO C hp.objs.size) := by heap_get
  have I2 : Inv X pins σ (upd H1 (hp.objs.size + 1) (exo (hp.objs.size + 1) C none)) ⟨(hp.push (PySem.W.kdv_tup us)).push (PySem.HandSPX.excO C hp.objs.size), g, dr, tk, os⟩ :=
    I1.laid (t' := tk) (a := hp.objs.size + 1) (o := exo (hp.objs.size + 1) C none) (h' := (hp.push (PySem.W.kdv_tup us)).push (PySem.HandSPX.excO C hp.objs.size)) kk hsz (exo_ok hget)
  have r2 : Vals (V.ref (hp.objs.size + 1) :: vs) (Value.ref (hp.objs.size + 1) :: bs) := .cons rfl r
  refine wpAny_call (PySem.SrX.call_K FB (fun Y => PySem.W.excTail_contains Y bm hbm) (I1.kIn _ _ hC) (PySem.W.looks_findIn I1.kIn iC) (fun self => PySem.W.bind_fn I1.kIn self tI) hus
    (codeAny_mono (F1.run _ X.stack _ _ ⟨Value.ref (hp.objs.size + 1) :: us, kws⟩ (Value.ref (hp.objs.size + 1) :: bs) _ _ (fun _ _ _ => False) (hr.make C us kws) (I2.env0.make C us kws) (hb _ _ I2.kIn) r2 hq) fun r s' hq' => ?_))
  cases r with
  | error er => exact hx pins σ _ _ er s' I2 hq'
  | ok fl =>
    cases fl with
    | ret u =>
      obtain ⟨v, H2, os2, bare2, un2, hok2, rv, ev, d, fs, ea, ed, hd1, q2⟩ := hq'
      subst ev
      obtain ⟨h2, g2, d2, t2, os'⟩ := s'
      obtain ⟨t0, G, J, kG, ge, hoe, na⟩ := mk_end0 (d2 := d2) (t2 := t2) I1 hsz kk un2 hok2 os2 bare2 ea ed hd1
      exact ⟨rv, hQ _ d fs H2 ⟨h2, g2, d2, t2, os'⟩ G t0 q2 hn J kG ge hoe na bare2⟩
    | next => exact False.elim hq'
    | brk => exact False.elim hq'
    | cont => exact False.elim hq'
end
/-! ### the promise of an __init__ that stores its one, its two arguments -/
def spI1 (C : Addr) (f : Str) : Sp := fun vs H Q _ => ∃ (a : Addr) (v : V), vs = [.ref a, v] ∧ H a = some (exo a C none) ∧ ∀ dx, H dx = none → dx ≠ a → Q .non (upd (upd H dx (exd dx [(f, v)])) a (exo a C (some dx)))
def spI2 (C : Addr) (f g : Str) : Sp := fun vs H Q _ => ∃ (a : Addr) (v u : V), vs = [.ref a, v, u] ∧ H a = some (exo a C none) ∧ ∀ dx, H dx = none → dx ≠ a → Q .non (upd (upd (upd H dx (exd dx [(f, v)])) a (exo a C (some dx))) dx (exd dx [(g, u), (f, v)]))
/-- what is left behind the making, seen from ahead of it -/
theorem made1 {H1 : Hp} {a d C : Addr} {f : Str} {v : V} (da : d ≠ a) (na : H1 a = none) : upd (del (upd (upd (upd H1 a (exo a C none)) d (exd d [(f, v)])) a (exo a C (some d))) a) d (.xd [(f, v)]) = upd H1 d (.xd [(f, v)]) := by
  funext b
  by_cases h1 : b = d
  · rw [h1, upd_same, upd_same]
  · rw [upd_ne h1, upd_ne h1]
    by_cases h2 : b = a
    · rw [h2, del_same, na]
    · rw [del_ne h2, upd_ne h2, upd_ne h1, upd_ne h2]
theorem made2 {H1 : Hp} {a d C : Addr} {f g : Str} {v u : V} (da : d ≠ a) (na : H1 a = none) :
    upd (del (upd (upd (upd (upd H1 a (exo a C none)) d (exd d [(f, v)])) a (exo a C (some d))) d (exd d [(g, u), (f, v)])) a) d (.xd [(g, u), (f, v)]) = upd H1 d (.xd [(g, u), (f, v)]) := by
  funext b
  by_cases h1 : b = d
  · rw [h1, upd_same, upd_same]
  · rw [upd_ne h1, upd_ne h1]
    by_cases h2 : b = a
    · rw [h2, del_same, na]
    · rw [del_ne h2, upd_ne h1, upd_ne h2, upd_ne h1, upd_ne h2]
/-- an own exception class with such an __init__ -/
structure Ex1 (P : Program) (w : World) (K : PySem.W.Frag) (mg : Str → Option Value) (base : Heap) (C fI : Addr) (fd : FuncData) (f : Str) : Prop where
  T : ExT K C
  no : PySem.W.findIn K (.ref C) f = some none
  iC : PySem.W.findIn K (.ref C) "__init__" = some (some (.ref fI))
  tI : PySem.W.typeIn K (.ref fI) = some (.type "function")
  ok : FnOk P w K mg base CX0 1 fI fd ["self", f] (spI1 C f)
  bp : ∀ (s : Shared) (a u : Value), BindsTo s fd ⟨[a, u], []⟩ [("self", a), (f, u)]
  bk : ∀ (s : Shared) (a u : Value), BindsTo s fd ⟨[a], [(f, u)]⟩ [("self", a), (f, u)]
structure Ex2 (P : Program) (w : World) (K : PySem.W.Frag) (mg : Str → Option Value) (base : Heap) (C fI : Addr) (fd : FuncData) (f g : Str) : Prop where
  T : ExT K C
  no : PySem.W.findIn K (.ref C) f = some none
  no2 : PySem.W.findIn K (.ref C) g = some none
  iC : PySem.W.findIn K (.ref C) "__init__" = some (some (.ref fI))
  tI : PySem.W.typeIn K (.ref fI) = some (.type "function")
  ok : FnOk P w K mg base CX0 1 fI fd ["self", f, g] (spI2 C f g)
  bp : ∀ (s : Shared) (a u v : Value), BindsTo s fd ⟨[a, u, v], []⟩ [("self", a), (f, u), (g, v)]
  bk : ∀ (s : Shared) (a u v : Value), BindsTo s fd ⟨[a], [(g, v), (f, u)]⟩ [("self", a), (f, u), (g, v)]
/-- X(e) that is raised -/
def tRz1 (C : Addr) (f : Str) (ta : TE) : St → Hp → XK → Prop := fun σ H Q => ta σ H fun v H1 => ∀ d, H1 d = none → Q (.ref C) (some d) (upd H1 d (.xd [(f, v)]))
def tRz2 (C : Addr) (f g : Str) (ta tb : TE) : St → Hp → XK → Prop := fun σ H Q => ta σ H fun v H1 => tb σ H1 fun u H2 => ∀ d, H2 d = none → Q (.ref C) (some d) (upd H2 d (.xd [(g, u), (f, v)]))
/-- X(f = e) as a value -/
def tEv1 (C : Addr) (f : Str) (ta : TE) : TE := fun σ H Q => ta σ H fun v H1 => ∀ a d, H1 a = none → H1 d = none → d ≠ a → Q (.ref a) (upd (upd H1 d (.xd [(f, v)])) a (exV a (.ref C) (some d)))
/-- X(g = e2, f = e1) as a value -/
def tEv2 (C : Addr) (f g : Str) (tb ta : TE) : TE := fun σ H Q => tb σ H fun u H1 => ta σ H1 fun v H2 => ∀ a d, H2 a = none → H2 d = none → d ≠ a → Q (.ref a) (upd (upd H2 d (.xd [(g, u), (f, v)])) a (exV a (.ref C) (some d)))
section
variable {X : Cx} {C fI : Addr} {fd : FuncData} {f g x : Str} {e e2 : Expr} {te te2 : TE} {p pos : Pos} {pins : List (Addr × Obj)} {σ : St} {H1 : Hp} {s1 : Shared}
theorem one_line (v : Value) : [v].length ≤ sizeLine := by
  show 1 ≤ sizeLine
  rw [sizeLine_eq]
  omega
theorem two_line (v u : Value) : [v, u].length ≤ sizeLine := by
  show 2 ≤ sizeLine
  rw [sizeLine_eq]
  omega
theorem no_line : ([] : List Value).length ≤ sizeLine := Nat.zero_le _
/-- the call of such a class, one argument (by place or by name) -/
theorem run_ex1 {us : List Value} {kws : List (Str × Value)} {u : Value} {v : V} {Q : Value → Shared → Prop} (L : Ex1 X.prog X.w X.K X.mg X.base C fI fd f) (hr : Room 2 X.A) (hus : us.length ≤ sizeLine) (hb : ∀ (s : Shared) (a : Value), BindsTo s fd ⟨a :: us, kws⟩ [("self", a), (f, u)]) (r1 : RelV v u) (I1 : Inv X pins σ H1 s1)
    (hQ : ∀ (a d : Addr) (s' : Shared) (G : Heap) (t0 : Addr), H1 a = none → H1 d = none → d ≠ a → Inv X pins σ (upd H1 d (.xd [(f, v)])) { s' with heap := G } → (∀ b o, G.get? b = some o → s'.heap.get? b = some o) → G.get? a = none →
      s'.heap.get? a = some ({ cls := .ref C, dict := some d, data := .fields #[.ref t0, .none, .none, .none, .bool false, .none] } : Obj) → AllBare s'.gens → Q (.ref a) s') :
    wpAny (model X.prog X.w) X.A (call (.ref C) us kws) Q X.xe s1 := by
  refine run_mkX (R := fun a d fs H2 => H1 d = none ∧ d ≠ a ∧ fs = [(f, v)] ∧ H2 = upd (upd (upd H1 a (exo a C none)) d (exd d [(f, v)])) a (exo a C (some d))) L.T L.iC L.tI L.ok hr pass0 hus (fun s a _ => hb s _) (.cons r1 .nil) I1 (fun a na => ?_) ?_
  · refine ⟨a, v, rfl, upd_same, fun dx hd ne => ?_⟩
    rw [upd_ne ne] at hd
    exact ⟨rfl, dx, _, upd_same, by rw [upd_ne ne, upd_same], hd, hd, ne, rfl, rfl⟩
  · rintro a d fs H2 s' G t0 ⟨hd, ne, rfl, rfl⟩ na J kG ge hoe nn ab
    rw [made1 ne na] at J nn
    exact hQ a d s' G t0 na hd ne J kG ge hoe ab
theorem run_ex2 {us : List Value} {kws : List (Str × Value)} {u u2 : Value} {v v2 : V} {Q : Value → Shared → Prop} (L : Ex2 X.prog X.w X.K X.mg X.base C fI fd f g) (hr : Room 2 X.A) (hus : us.length ≤ sizeLine) (hb : ∀ (s : Shared) (a : Value), BindsTo s fd ⟨a :: us, kws⟩ [("self", a), (f, u), (g, u2)]) (r1 : RelV v u) (r2 : RelV v2 u2) (I1 : Inv X pins σ H1 s1)
    (hQ : ∀ (a d : Addr) (s' : Shared) (G : Heap) (t0 : Addr), H1 a = none → H1 d = none → d ≠ a → Inv X pins σ (upd H1 d (.xd [(g, v2), (f, v)])) { s' with heap := G } → (∀ b o, G.get? b = some o → s'.heap.get? b = some o) → G.get? a = none →
      s'.heap.get? a = some ({ cls := .ref C, dict := some d, data := .fields #[.ref t0, .none, .none, .none, .bool false, .none] } : Obj) → AllBare s'.gens → Q (.ref a) s') :
    wpAny (model X.prog X.w) X.A (call (.ref C) us kws) Q X.xe s1 := by
  refine run_mkX (R := fun a d fs H2 => H1 d = none ∧ d ≠ a ∧ fs = [(g, v2), (f, v)] ∧ H2 = upd (upd (upd (upd H1 a (exo a C none)) d (exd d [(f, v)])) a (exo a C (some d))) d (exd d [(g, v2), (f, v)])) L.T L.iC L.tI L.ok hr pass0 hus (fun s a _ => hb s _) (.cons r1 (.cons r2 .nil)) I1 (fun a na => ?_) ?_
  · refine ⟨a, v, v2, rfl, upd_same, fun dx hd ne => ?_⟩
    rw [upd_ne ne] at hd
    exact ⟨rfl, dx, _, by rw [upd_ne (Ne.symm ne), upd_same], upd_same, hd, hd, ne, rfl, rfl⟩
  · rintro a d fs H2 s' G t0 ⟨hd, ne, rfl, rfl⟩ na J kG ge hoe nn ab
    rw [made2 ne na] at J nn
    exact hQ a d s' G t0 na hd ne J kG ge hoe ab
theorem mkp_of {a d : Addr} {s' : Shared} {G : Heap} {t0 : Addr} {fs : List (Str × V)} {Q : XK} (T : ExT X.K C) (na : H1 a = none) (ne : d ≠ a) (J : Inv X pins σ (upd H1 d (.xd fs)) { s' with heap := G }) (kG : ∀ b o, G.get? b = some o → s'.heap.get? b = some o) (ge : G.get? a = none)
    (hoe : s'.heap.get? a = some ({ cls := .ref C, dict := some d, data := .fields #[.ref t0, .none, .none, .none, .bool false, .none] } : Obj)) (ab : AllBare s'.gens) (q : Q (.ref C) (some d) (upd H1 d (.xd fs))) : MkP X pins σ Q (.ref a) s' := by
  have nn : (upd H1 d (.xd fs)) a = none := by
    rw [upd_ne (Ne.symm ne)]
    exact na
  exact ⟨a, _, _, { s' with heap := G }, _, .ref C, some d, rfl, J, kG, ge, hoe, ⟨rfl, rfl⟩, rfl, rfl, nn, rfl, ab, raises_own T.exC T.tyC, q⟩
theorem ep_of {a d : Addr} {s' : Shared} {G : Heap} {t0 : Addr} {fs : List (Str × V)} {Q : VK} (na : H1 a = none) (ne : d ≠ a) (J : Inv X pins σ (upd H1 d (.xd fs)) { s' with heap := G }) (kG : ∀ b o, G.get? b = some o → s'.heap.get? b = some o) (ge : G.get? a = none)
    (hoe : s'.heap.get? a = some ({ cls := .ref C, dict := some d, data := .fields #[.ref t0, .none, .none, .none, .bool false, .none] } : Obj)) (q : Q (.ref a) (upd (upd H1 d (.xd fs)) a (exV a (.ref C) (some d)))) : EP X pins σ Q (.ref a) s' := by
  have nn : (upd H1 d (.xd fs)) a = none := by
    rw [upd_ne (Ne.symm ne)]
    exact na
  have J2 : Inv X pins σ (upd (upd H1 d (.xd fs)) a (exV a (.ref C) (some d))) s' := J.laidN (t' := s'.toks) kG ge nn (exV_ok hoe ⟨rfl, rfl⟩ rfl)
  exact ⟨.ref a, _, J2, rfl, q⟩
theorem pmk_ex1 (L : Ex1 X.prog X.w X.K X.mg X.base C fI fd f) (hr : Room 2 X.A) (hg : Gl X x) (hm : X.mg x = some (.ref C)) (ha : PE X e te) (hdb : (x == ("__debug__" : Str)) = false := by decide)
    (he : starEach (e :: []) X.env = (false, eval e X.env) :: starEach [] X.env := by rfl) :
    PMk X (.Call (.Name x p) [e] [] pos) (tRz1 C f te) := by
  intro pins s σ H Q I h
  refine wpAny_Call_Name_kw (ld_glob I hg hm ?_ hdb)
  refine PySem.W.callWith_K (h₀ := X.base) I.ok.mod.kin L.T.kC ?_ he (by rfl)
  rw [he]
  show wpAny _ _ (spliced ((false, eval e X.env) :: backTo pos (starEach [] X.env))) _ _ s
  refine Calls.spliced_cons (thn (ha.run pins s σ H _ I h) fun u s1 ⟨v, H1, I1, r1, q1⟩ => ?_)
  refine Calls.spliced_nil ⟨I1.kIn, ?_⟩
  show wpAny _ _ (call (.ref C) [u]) _ _ _
  exact run_ex1 L hr (one_line u) (fun s a => L.bp s a u) r1 I1 fun a d s' G t0 na hd ne J kG ge hoe ab => mkp_of L.T na ne J kG ge hoe ab (q1 d hd)
theorem pmk_ex2 (L : Ex2 X.prog X.w X.K X.mg X.base C fI fd f g) (hr : Room 2 X.A) (hg : Gl X x) (hm : X.mg x = some (.ref C)) (ha : PE X e te) (hb : PE X e2 te2) (hdb : (x == ("__debug__" : Str)) = false := by decide)
    (he : starEach (e :: [e2]) X.env = (false, eval e X.env) :: starEach [e2] X.env := by rfl) (he2 : starEach (e2 :: []) X.env = (false, eval e2 X.env) :: starEach [] X.env := by rfl) :
    PMk X (.Call (.Name x p) [e, e2] [] pos) (tRz2 C f g te te2) := by
  intro pins s σ H Q I h
  refine wpAny_Call_Name_kw (ld_glob I hg hm ?_ hdb)
  refine PySem.W.callWith_K (h₀ := X.base) I.ok.mod.kin L.T.kC ?_ he (by rw [he2]; rfl)
  rw [he, he2]
  show wpAny _ _ (spliced ((false, eval e X.env) :: (false, (eval e2 X.env)) :: backTo pos (starEach [] X.env))) _ _ s
  refine Calls.spliced_cons (thn (ha.run pins s σ H _ I h) fun u s1 ⟨v, H1, I1, r1, q1⟩ => ?_)
  refine Calls.spliced_cons (thn (hb.run pins s1 σ H1 _ I1 q1) fun u2 s2 ⟨v2, H2, I2, r2, q2⟩ => ?_)
  refine Calls.spliced_nil ⟨I2.kIn, ?_⟩
  show wpAny _ _ (call (.ref C) [u, u2]) _ _ _
  exact run_ex2 L hr (two_line u u2) (fun s a => L.bp s a u u2) r1 r2 I2 fun a d s' G t0 na hd ne J kG ge hoe ab => mkp_of L.T na ne J kG ge hoe ab (q2 d hd)
theorem pe_ev1 {kws : List Keyword} {tk : TA} (L : Ex1 X.prog X.w X.K X.mg X.base C fI fd f) (hr : Room 2 X.A) (hg : Gl X x) (hm : X.mg x = some (.ref C)) (hkw : PK X kws tk)
    (hall : (backToKw pos (keywordEach kws X.env)).all (·.1.isSome) = true := by rfl) (hks : (backToKw pos (keywordEach kws X.env)).filterMap (·.1) = [f] := by rfl) (hdb : (x == ("__debug__" : Str)) = false := by decide)
    (hpl : ((backTo pos (starEach [] X.env)).any (·.1) || (backToKw pos (keywordEach kws X.env)).any (·.1.isNone)) = false := by rfl) :
    PE X (.Call (.Name x p) [] kws pos) (fun σ H Q => tk σ H fun zs H1 => ∃ v, zs = [v] ∧ ∀ a d, H1 a = none → H1 d = none → d ≠ a → Q (.ref a) (upd (upd H1 d (.xd [(f, v)])) a (exV a (.ref C) (some d)))) := by
  refine ⟨fun pins s σ H Q I h => ?_⟩
  refine wpAny_Call_Name_kw (ld_glob I hg hm ?_ hdb)
  refine PySem.W.callWith_KW0 (h₀ := X.base) I.ok.mod.kin L.T.kC hall ?_ hpl
  refine thn (hkw.run pos pins s σ H _ I h) fun ws s2 ⟨zs, H2, I2, rz, v, ev, q2⟩ => ⟨I2.kIn, ?_⟩
  subst ev
  rw [hks]
  obtain ⟨u, rfl, rv⟩ : ∃ u, ws = [u] ∧ RelV v u := by
    cases rz with
    | cons rv rn =>
      cases rn
      exact ⟨_, rfl, rv⟩
  · show wpAny _ _ (call (.ref C) [] [(f, u)]) _ _ _
    exact run_ex1 L hr no_line (fun s a => L.bk s a u) rv I2 fun a d s' G t0 na hd ne J kG ge hoe ab => ep_of na ne J kG ge hoe (q2 a d na hd ne)
theorem pe_ev2 {kws : List Keyword} {tk : TA} (L : Ex2 X.prog X.w X.K X.mg X.base C fI fd f g) (hr : Room 2 X.A) (hg : Gl X x) (hm : X.mg x = some (.ref C)) (hkw : PK X kws tk)
    (hall : (backToKw pos (keywordEach kws X.env)).all (·.1.isSome) = true := by rfl) (hks : (backToKw pos (keywordEach kws X.env)).filterMap (·.1) = [g, f] := by rfl) (hdb : (x == ("__debug__" : Str)) = false := by decide)
    (hpl : ((backTo pos (starEach [] X.env)).any (·.1) || (backToKw pos (keywordEach kws X.env)).any (·.1.isNone)) = false := by rfl) :
    PE X (.Call (.Name x p) [] kws pos) (fun σ H Q => tk σ H fun zs H1 => ∃ u v, zs = [u, v] ∧ ∀ a d, H1 a = none → H1 d = none → d ≠ a → Q (.ref a) (upd (upd H1 d (.xd [(g, u), (f, v)])) a (exV a (.ref C) (some d)))) := by
  refine ⟨fun pins s σ H Q I h => ?_⟩
  refine wpAny_Call_Name_kw (ld_glob I hg hm ?_ hdb)
  refine PySem.W.callWith_KW0 (h₀ := X.base) I.ok.mod.kin L.T.kC hall ?_ hpl
  refine thn (hkw.run pos pins s σ H _ I h) fun ws s2 ⟨zs, H2, I2, rz, v2, v, ev, q2⟩ => ⟨I2.kIn, ?_⟩
  subst ev
  rw [hks]
  obtain ⟨u2, u, rfl, ru, rv⟩ := vals2 rz
  · show wpAny _ _ (call (.ref C) [] [(g, u2), (f, u)]) _ _ _
    exact run_ex2 L hr no_line (fun s a => L.bk s a u u2) rv ru I2 fun a d s' G t0 na hd ne J kG ge hoe ab => ep_of na ne J kG ge hoe (q2 a d na hd ne)
end
end L2
namespace PySem.W
open PySem PySem.Spec PySem.Calls PyProof.Rows
section
variable {prog : Program} {w : World} {A : Around} {E : Value → Shared → Prop} {s : Shared} {K : Frag} {x D : Addr} {ox : Obj} {od : Option Obj}
theorem findObj_dataO {C : Addr} {name : Str} {a g : Value} (hc : (clsIn K C).isSome = true) (ha : findIn K (.ref C) name = some (some a)) (hg : specialIn K a "__get__" = some (some g)) (ht : takesIn K a = some true) : findObj K C od name = some (.bind g a) := by
  obtain ⟨cd, hc⟩ := Option.isSome_iff_exists.mp hc
  unfold findObj
  rw [hc, Option.bind_some, ha, Option.bind_some]
  simp [hg, ht]
theorem kin_classO {Q : Option Value → Shared → Prop} (hga : findIn K (.ref D) "__getattribute__" = some (some (.builtin "BaseException.__getattribute__"))) (hgt : findIn K (.ref D) "__getattr__" = some none) (hsub : subIn K (.ref D) (.type "BaseException") = some true)
    (hdct : hasDictIn K D = true) (ha : findIn K (.ref D) "__class__" = some (some (.builtin "object.__class__")))
    (hn : specialIn K (.builtin "object.__class__") "__get__" = some (some (.builtin "getset_descriptor.__get__"))) (htk : takesIn K (.builtin "object.__class__") = some true) (hm : mroIn K D (.type "object") = some true)
    (X : K.In s.heap) (I : InstAt s.heap x ox D od) (h : Q (some (.ref D)) { s with toks := s.toks + 1 }) : wpAny (model prog w) A (getAttr? (.ref x) "__class__") Q E s := by
  have hf : findObj K D od "__class__" = some (.bind (.builtin "getset_descriptor.__get__") (.builtin "object.__class__")) := findObj_dataO (by obtain ⟨cd, hc, _⟩ := any_some hdct; rw [hc]; rfl) ha hn htk
  obtain ⟨hp, g, d, t, os⟩ := s
  have L0 := I.type (M := model prog w)
  have L1 := looks_findIn (M := model prog w) X hga
  have L2 := looks_findIn (M := model prog w) X hgt
  have L3 := looks_find (M := model prog w) X I hf
  have sub : Looks (model prog w) hp (isInstance (.ref x) (.type "BaseException")) true := L0.andThen (looks_subIn X hsub)
  have hx0 : (false && onTheHeap (Value.builtin "BaseException.__getattribute__")) = false := rfl
  have hx2 : (Value.builtin "BaseException.__getattribute__" == Value.builtin "object.__getattribute__") = false := by decide +kernel
  have hx1 : (onTheHeap (Value.ref D) && Value.builtin "BaseException.__getattribute__" == Value.builtin "object.__getattribute__") = false := by rw [hx2]; rfl
  unfold getAttr? getAttrBy? getAttrBy
  refine wpAny_bind (wpAny_mkText (wpAny_bind (wpAny_attempt (wpAny_holding (wpAny_bind (L0.at (wpAny_bind (L1.at ?_))))))))
  show wpAny _ _ (if (onTheHeap (Value.ref D) && Value.builtin "BaseException.__getattribute__" == Value.builtin "object.__getattribute__") = true then _ else _) _ _ _
  rw [hx1, if_neg Bool.false_ne_true]
  unfold getAttrByItsOwn hookBefore
  refine wpAny_bind ?_
  rw [if_pos (show onTheHeap (Value.ref D) = true from rfl)]
  refine L2.at ?_
  refine wpAny_bind (wpAny_attempt (wpAny_holding ?_))
  unfold callGetattribute
  rw [hx0, if_neg Bool.false_ne_true]
  unfold boundAndCalled
  rw [PySem.F.excAttr_ValueError.ga.bind (.ref x)]
  refine wpAny_bind (wpAny_pure ?_)
  show wpAny _ _ (call (.builtin "BaseException.__getattribute__") [.ref x, .str "__class__" t]) _ _ _
  refine wpAny_call (codeAny_call_builtin PySem.F.excAttr_ValueError.ga.plain PySem.F.entry_bexc_ga ?_)
  refine @check_slot (model prog w) _ _ ⟨hp, g, d, t + 1, os⟩ "BaseException.__getattribute__" "BaseException" "__getattribute__" (.ref x) [.str "__class__" t] [] _ (by decide +kernel) (by decide +kernel) sub (PySem.F.args_bexc_ga (.ref x) (.str "__class__" t)) ?_
  unfold Builtin.«object.__getattribute__»
  refine wpAny_bind (wpAny_of_eq (a := ((Value.ref x : Value), [Value.str "__class__" t])) (by first | rfl | (simp only [slotArgs]; rfl)) ?_)
  refine wpAny_bind (wpAny_pure (wpAny_bind (L0.at (wpAny_bind (L3.at ?_)))))
  show wpAny _ _ (holding [Value.builtin "object.__class__"] (call (.builtin "getset_descriptor.__get__") [.builtin "object.__class__", .ref x, .ref D]) >>= ret) _ _ _
  refine wpAny_bind (wpAny_holding (wpAny_call (class_get (s := ⟨hp, g, d, t + 1, os⟩) (ox := ox) (od := od) X I hm ?_)))
  refine wpAny_pure ?_
  show wpAny _ _ (handedOut (.ref D)) _ _ _
  rw [handedOut_of (v := .ref D) rfl]
  first
    | exact wpAny_pure (wpAny_pure h)
    | exact wpAny_pure h
    | exact wpAny_pure (wpAny_bind (wpAny_pure (wpAny_pure h)))
theorem kitx_excO (hga : findIn K (.ref D) "__getattribute__" = some (some (.builtin "BaseException.__getattribute__"))) (hgt : findIn K (.ref D) "__getattr__" = some none) (hsub : subIn K (.ref D) (.type "BaseException") = some true) (hdct : hasDictIn K D = true) (ha : findIn K (.ref D) "__class__" = some (some (.builtin "object.__class__")))
    (hn : specialIn K (.builtin "object.__class__") "__get__" = some (some (.builtin "getset_descriptor.__get__"))) (htk : takesIn K (.builtin "object.__class__") = some true) (hm : mroIn K D (.type "object") = some true) :
    KitX K (.ref x) (.ref D) (fun h => InstAt h x ox D od) where
  ty := fun _ _ _ I => I.type
  it := fun _ _ X _ => by
    obtain ⟨cdD, hcD, _⟩ := any_some hdct
    unfold clsIn at hcD
    split at hcD
    · rename_i c' d' cd' sl' ho
      intro A' Q' E' s' k q
      unfold isType loadHead
      exact wpAny_bind (wpAny_loadPart (k _ _ (X _ _ ho)) (wpAny_pure q))
    · cases hcD
  ne := fun h tp dd its n sl X htp => by
    obtain ⟨cdD, hcD, _⟩ := any_some hdct
    refine Bool.eq_false_iff.mpr fun q => ?_
    have e : D = tp := Value.ref.inj (beq_iff_eq.mp q)
    subst e
    unfold clsIn at hcD
    split at hcD
    · rename_i c' d' cd' sl' ho
      have z := (X _ _ ho).symm.trans htp
      cases z
    · cases hcD
  ca := fun X I k => kin_classO hga hgt hsub hdct ha hn htk hm X I k
end
end PySem.W
namespace L2
open PySem PySem.Spec PyProof.Rows
/-- at a an exception of the class at D with these fields -/
def ExAt (H : Hp) (a D : Addr) (fs : List (Str × V)) : Prop := ∃ dd, H a = some (exV a (.ref D) (some dd)) ∧ H dd = some (.xd fs)
theorem spec_class {K : PySem.W.Frag} : PySem.W.specialIn K (.builtin "object.__class__") "__get__" = some (some (.builtin "getset_descriptor.__get__")) := by
  first
    | rfl
    | decide +kernel
theorem takes_class {K : PySem.W.Frag} : PySem.W.takesIn K (.builtin "object.__class__") = some true := by
  first
    | rfl
    | decide +kernel
section
variable {X : Cx} {pins : List (Addr × Obj)} {σ : St} {H : Hp} {s : Shared} {a D : Addr} {fs : List (Str × V)}
theorem ExAt.inst (I : Inv X pins σ H s) (e : ExAt H a D fs) : ∃ (ox od : Obj) (mA : Str → Option Value), PySem.W.InstAt s.heap a ox D (some od) ∧ (∀ f, RelO (fs.lookup f) (mA f)) ∧ ∀ name, PySem.W.lookIn name od = some (mA name) := by
  obtain ⟨dd, ea, ed⟩ := e
  obtain ⟨oe, vs, ho, hz, hd⟩ := exV_at I.hok ea
  have hx : ObjOk X.prog X.w H s.heap dd (.xd fs) := I.hok dd _ ed
  obtain ⟨mA, hns, hr⟩ := hx
  obtain ⟨od, hod, hl⟩ := lookIn_ns hns
  exact ⟨oe, od, mA, ⟨ho, hz.1, by unfold PySem.W.notCls; rw [hd] <;> rfl, by rw [hz.2]; exact hod⟩, hr, hl⟩
/-- isinstance(e, c), e such an exception -/
def rIsX (K : PySem.W.Frag) : List V → Hp → VK → Prop := fun xs H Q => ∃ (a D : Addr) (fs : List (Str × V)) (c : V) (cv : Value) (b : Bool), xs = [.ref a, c] ∧ ExAt H a D fs ∧ ExT K D ∧ ClsV c cv ∧ PySem.W.kitOne K (.ref D) cv = some b ∧ Q (.bl b) H
theorem call_isX : CallR X (.builtin "isinstance") (rIsX X.K) := by
  intro pins s σ H xs us Q I r h
  obtain ⟨a, D, fs, c, cv, b, rfl, hx, T, k, e, q⟩ := h
  obtain ⟨u1, u2, rfl, r1, r2⟩ := vals2 r
  have e2 := k.eq r2
  subst e2
  cases (show u1 = Value.ref a from r1)
  obtain ⟨ox, od, mA, J, _, _⟩ := hx.inst I
  exact PySem.W.kia_one (PySem.W.kitx_excO T.ga T.gg T.exC T.hdC T.ca spec_class takes_class T.hm) I.kIn J e (fun z => nomatch z) fun tk => ⟨.bl b, H, I.tok tk, rfl, q⟩
/-- e.f of such an exception -/
def tXg (K : PySem.W.Frag) (f : Str) (te : TE) : TE := fun σ H Q => te σ H fun x H1 => ∃ (a D : Addr) (fs : List (Str × V)) (v : V), x = .ref a ∧ ExAt H1 a D fs ∧ ExT K D ∧ PySem.W.findIn K (.ref D) f = some none ∧ fs.lookup f = some v ∧ Q v H1
theorem pe_xg {e : Expr} {te : TE} {pos : Pos} {n : Str} (he : PE X e te) (hb : attributeBase e n X.env (eval e X.env) = eval e X.env := by rfl) : PE X (.Attribute e n pos) (tXg X.K n te) := by
  refine ⟨fun pins s σ H Q I h => ?_⟩
  refine attr_of hb (thn (he.run pins s σ H _ I h) fun u s1 hh => ?_)
  obtain ⟨x, H1, I1, rx, a, D, fs, v, ex, hx, T, hno, l, q⟩ := hh
  subst ex
  obtain rfl : u = Value.ref a := rx
  obtain ⟨ox, od, mA, J, hr, hl⟩ := hx.inst I1
  obtain ⟨u, hu, ru⟩ := RelO.some_of (v := v) (o := mA n) (by rw [← l]; exact hr n)
  exact HandSPX.exc_get I1.kIn J T.ga T.gg T.exC (PySem.W.findObj_own T.hdC hno rfl (by rw [hl, hu])) (handed_of ru) ⟨v, H1, I1.tok _, ru, q⟩
/-- an exception that was pinned is tracked from here on -/
theorem Inv.track {oe : Obj} {o : HO} (I : Inv X ((a, oe) :: pins) σ H s) (n0 : X.s_0.heap.get? a = none) (np : ∀ p ∈ X.pn ++ pins, p.1 ≠ a) (new : ObjOk X.prog X.w (upd H a o) s.heap a o) : Inv X pins σ (upd H a o) s := by
  have hmem : (a, oe) ∈ X.pn ++ ((a, oe) :: pins) := List.mem_append_right _ (List.mem_cons_self ..)
  obtain ⟨ha, na, nL, nF, nC⟩ := I.pin (a, oe) hmem
  have na' : H a = none := na
  have ne0 : ∀ b ob, X.s_0.heap.get? b = some ob → b ≠ a := fun b ob e z => by
    rw [z, n0] at e
    cases e
  have neS : ∀ b u, H b = some u → b ≠ a := fun b u e => ne_of_none e na'
  have neC : ∀ x c, X.env.cells.lookup x = some c → c ≠ a := fun x c e z => by
    obtain ⟨v, ob, ho, hd⟩ := I.cell x c e
    rw [z] at ho
    have ha2 : s.heap.get? a = some oe := ha
    rw [ha2] at ho
    cases ho
    exact nC v hd
  refine ⟨I.ok, I.os, I.bare, ⟨I.base.keep, I.base.slot, fun b ob e n hx => ?_, I.base.there, fun b xs e => ?_, fun b ob u e => ?_, fun b ps e => ?_⟩, I.loc, I.cell, ?_, fun x c e => ?_, fun p hp => ?_, fun b u e => ?_, I.len⟩
  · rw [upd_ne (ne0 b ob e)]
    exact I.base.free b ob e n hx
  · have q := I.base.tups b xs e
    rw [upd_ne (neS b _ q)]
    exact q
  · have q := I.base.frzs b ob u e
    rw [upd_ne (neS b _ q)]
    exact q
  · obtain ⟨m, q⟩ := I.base.tbls b ps e
    exact ⟨m, by rw [upd_ne (neS b _ q)]; exact q⟩
  · rw [upd_ne (Ne.symm nL)]
    exact I.free
  · rw [upd_ne (neC x c e)]
    exact I.freeC x c e
  · have hp' : p ∈ X.pn ++ ((a, oe) :: pins) := by
      rcases List.mem_append.mp hp with h | h
      · exact List.mem_append_left _ h
      · exact List.mem_append_right _ (List.mem_cons_of_mem _ h)
    obtain ⟨e, n, ne, nf, d⟩ := I.pin p hp'
    exact ⟨e, by rw [upd_ne (np p hp)]; exact n, ne, nf, d⟩
  · by_cases hb : b = a
    · subst hb
      rw [upd_same] at e
      cases e
      exact new
    · rw [upd_ne hb] at e
      exact (I.hok b u e).stay (fun c v _ q => q) (fun c q => by rw [upd_ne (neS c _ q)]; exact q) fun c xs q => by rw [upd_ne (neS c _ q)]; exact q
theorem Inv.unsuiteP {q : Addr × Obj} {pn' : List (Addr × Obj)} (I : Inv (X.suite a (q :: (X.pn ++ pins))) pn' σ H s) (ok : X.Ok) : Inv X (q :: pins) σ H s :=
  ⟨ok, I.os, I.bare, I.base, I.loc, I.cell, I.free, I.freeC, fun p hp => I.pin p (List.mem_append_left _ (by
    rcases List.mem_append.mp hp with h | h
    · exact List.mem_cons_of_mem _ (List.mem_append_left _ h)
    · rcases List.mem_cons.mp h with h | h
      · rw [h]
        exact List.mem_cons_self ..
      · exact List.mem_cons_of_mem _ (List.mem_append_right _ h))), I.hok, I.len⟩
end
/-- what the clauses «except x as n» wish of an exception of the body; behind a suite the exception stands as an object -/
def wKeep (K : PySem.W.Frag) (Wout : WX) (D : Ends) (i : Nat) : List (Value × (Addr → Value → Option Addr → TS)) → WX
  | [] => Wout
  | (c, ts) :: r => fun cls d σ H => ∃ b, PySem.W.exmOne K cls c = some b ∧ (b = true → ∀ a, H a = none → ts a cls d { nx := fun σ' H' => D.nx (σ'.set i none) (upd H' a (exV a cls d)), rt := fun v H' => D.rt v (upd H' a (exV a cls d)), bk := fun σ' H' => D.bk (σ'.set i none) (upd H' a (exV a cls d)), ct := fun σ' H' => D.ct (σ'.set i none) (upd H' a (exV a cls d)) } (σ.set i (some (.ref a))) H) ∧
      (b = false → wKeep K Wout D i r cls d σ H)
inductive HdsAs (X : Cx) (i : Nat) (n : Str) : List ExceptHandler → List (Value × (Addr → Value → Option Addr → TS)) → Prop
  | nil : HdsAs X i n [] []
  | cons {x : Str} {c : Value} {ts : Addr → Value → Option Addr → TS} {b₀ : Stmt} {suite : List Stmt} {np pos' : Pos} {hds : List ExceptHandler} {l : List (Value × (Addr → Value → Option Addr → TS))} (hc : Names X x c)
      (hsu : ∀ (a : Addr) (oe : Obj) (cls : Value) (d : Option Addr) (pn : List (Addr × Obj)), Zc cls d oe → (∃ vs, oe.data = .fields vs) → PSs (X.suite a ((a, oe) :: pn)) (b₀ :: suite) (ts a cls d)) (r : HdsAs X i n hds l) :
      HdsAs X i n (.ExceptHandler (some (.Name x np)) (some n) (b₀ :: suite) pos' :: hds) ((c, ts) :: l)
section
variable {X : Cx} {body : List Stmt} {h₀ : ExceptHandler} {hds : List ExceptHandler} {l : List (Value × (Addr → Value → Option Addr → TS))} {pos : Pos} {tb : WX → TS} {Wout : WX} {i : Nat} {n : Str}
theorem ps_try_keep (hs : X.stack = X.env :: X.outer) (hf : X.env.frame = some X.env.locals) (hN : X.N.Nodup) (hi : X.N[i]? = some n) (hln : X.env.kindOf n = some .local) (tk : Takes X Wout) (hex : X.ex = [])
    (hb : ∀ (W : WX) (pn : List (Addr × Obj)) (xe : Value → Shared → Prop), Takes (X.tr pn xe) W → PassesOwn (model X.prog X.w) X.A X.env xe → PSs (X.tr pn xe) body (tb W))
    (hh : HdsAs X i n (h₀ :: hds) l) : PS X (.Try body (h₀ :: hds) [] [] pos) (fun D σ H => tb (wKeep X.K Wout D i l) D σ H) := by
  refine ⟨fun pins s σ H D I h => ?_⟩
  have ok := I.ok
  have hfr : X.A.frames = some (X.env :: X.outer) := by rw [ok.frames, hs]
  have hloc : Loc X.env.scope n := .inl hln
  refine wpAny_Try_except ?_
  refine wpAny_mono ((hb (wKeep X.K Wout D i l) (X.pn ++ pins) (fun e s₁ => wpAny (model X.prog X.w) X.A (noteFrame e X.env) (fun _ s₂ => wpAny (model X.prog X.w) X.A (setFlight e none) (fun _ s₃ =>
    wpAny (model X.prog X.w) X.A (handleBy e X.env (h₀ :: hds)) (SP X pins D) X.xe s₃) X.xe s₂) X.xe s₁) (fun u s' xx => ?_) PassesOwn.looking).run [] s σ H D (I.toTry _) h) (fun f s1 hsp => ?_) (fun e s1 he => he)
  · obtain ⟨a, B, sI, pins', σ', H', cls, d, rfl, J', nb, up, sky, na, os, ag, w⟩ := xx
    have J : Inv X pins σ' H' sI := J'.ofTry ok
    have sky' : Sky B (X.env :: X.outer) a (Zc cls d) X.env.locals s'.heap := by rw [← hs]; exact sky
    show wpAny (model X.prog X.w) X.A (noteFrame (.ref a) X.env) _ _ _
    refine Sky.land Zc.steady hfr hf sky' fun h3 fl3 up3 => ?_
    have J3 : Inv X pins σ' H' { s' with heap := h3 } := J.landed nb fl3.1 (up.trans up3) os ag
    obtain ⟨oe3, vs3, he3, hz3, hd3⟩ := fl3.there
    have nfr : a ∉ frs (X.env :: X.outer) := fun hm => by
      obtain ⟨_, o', e', hnf⟩ := fl3.2.2.1.mem hm
      rw [he3] at e'
      cases e'
      exact hnf _ hd3
    have nL : a ≠ X.env.locals := fun z => nfr (List.mem_filterMap.mpr ⟨X.env, List.mem_cons_self, by rw [hf, z]⟩)
    have nF : a ∉ X.fs := fun hm => by
      obtain ⟨e, he, q⟩ := List.mem_filterMap.mp hm
      exact nfr (List.mem_filterMap.mpr ⟨e, List.mem_cons_of_mem _ he, q⟩)
    have nB : B.get? a = none := fl3.2.1
    have nfr' : a ∉ frs X.stack := by rw [hs]; exact nfr
    have nI : ∀ b o, sI.heap.get? b = some o → b ≠ a := fun b o e z => by
      subst z
      have q := nb b o e nfr'
      rw [nB] at q
      cases q
    have n0 : X.s_0.heap.get? a = none := by
      cases e : X.s_0.heap.get? a with
      | none => rfl
      | some o =>
        obtain ⟨o', q⟩ := J.base.there a o e (by rw [hex]; exact fun z => nomatch z)
        exact absurd rfl (nI a o' q)
    have np : ∀ p ∈ X.pn ++ pins, p.1 ≠ a := fun p hp => nI p.1 p.2 (J.pin p hp).1
    have S3 := J3.suite he3 hd3 na nL nF
    have go : ∀ {hds' : List ExceptHandler} {l' : List (Value × (Addr → Value → Option Addr → TS))}, HdsAs X i n hds' l' → wKeep X.K Wout D i l' cls d σ' H' →
        wpAny (model X.prog X.w) X.A (handleBy (.ref a) X.env hds') (SP X pins D) X.xe { s' with heap := h3 } := by
      intro hds' l' hk
      induction hk with
      | nil =>
        intro w
        refine wpAny_handleBy_nil ?_
        obtain ⟨k1, k2, k3, oe, vs, T, oT, ts', he, hz, hd, h1, hr⟩ := id fl3
        unfold PySem.passOn
        refine wpAny_bind (wpAny_field he hd h1 ?_)
        rw [if_neg (show ¬ ((Value.ref T == Value.none) = true) from by simp)]
        have fin : wpAny (model X.prog X.w) X.A (setFlight (.ref a) X.env.frame) (fun _ s4 => wpAny (model X.prog X.w) X.A (throw (.ref a) : Sem Flow) (SP X pins D) X.xe s4) X.xe { s' with heap := h3 } := by
          rw [hf]
          refine HandSPX.setFlight_upZ fl3 fun h4 hh4 up4 => wpAny_throw (tk _ _ ?_)
          exact ⟨a, B, sI, pins, σ', H', cls, d, rfl, J, nb, (up.trans up3).trans up4, .inr (.inr (by rw [hs]; exact hh4)), na, os, ag, w⟩
        first
          | exact wpAny_bind (wpAny_pure (wpAny_bind fin))
          | exact wpAny_bind fin
      | @cons x c ts b₀ suite np' pos' hds2 l2 hc hsu r ih =>
        intro w
        obtain ⟨b, hb1, hyes, hno⟩ := w
        refine wpAny_handleBy_cons (codeAny_handlers_test ?_) (by intro q; cases q)
        have LT : PySem.W.Looks (model X.prog X.w) h3 (typeOf (.ref a)) cls := fun A Q E s k q => wpAny_typeOf_ref (k _ _ he3) (by rw [hz3.1]; exact q)
        have LM := PySem.W.exm_one (M := model X.prog X.w) (J3.kIn) LT hb1
        have test : ∀ {Q : Value → Shared → Prop} {E : Value → Shared → Prop}, Q c { s' with heap := h3 } → wpAny (model X.prog X.w) (X.A.mark (some (.ref a))) (eval (.Name x np') X.env) Q E { s' with heap := h3 } := fun {Q E} q => by
          obtain ⟨hg, hdbg, hm | ⟨hm, hv, hnn⟩⟩ := hc
          · exact ld_glob (X := X.suite a ((a, oe3) :: (X.pn ++ pins))) S3 hg hm q hdbg
          · exact ld_blt (X := X.suite a ((a, oe3) :: (X.pn ++ pins))) S3 hg hm hv q hnn hdbg
        refine test (LM.here ?_)
        cases b with
        | true =>
          refine codeAny_handlers_suite_as ?_
          refine HandSPX.lands_againZ fl3 fun h4 fl4 up4 => ?_
          have J4 : Inv X pins σ' H' { s' with heap := h4 } := J.landed nb fl4.1 ((up.trans up3).trans up4) os ag
          obtain ⟨oe4, vs4, he4, hz4, hd4⟩ := fl4.there
          have S4 := J4.suite he4 hd4 na nL nF
          refine store_ok (X := X.suite a ((a, oe4) :: (X.pn ++ pins))) (v := .ref a) S4 hN hi hloc rfl (fun s5 S5 => ?_) (.inr hln)
          refine wpAny_mono ((hsu a oe4 cls d (X.pn ++ pins) hz4 ⟨_, hd4⟩).run [] s5 _ H' _ S5 (hyes rfl a na)) (fun f s6 hsp => ?_) (fun _ _ z => False.elim z)
          have end_ : ∀ {σ6 : St} {H6 : Hp} {Q : Shared → Prop}, Inv (X.suite a ((a, oe4) :: (X.pn ++ pins))) [] σ6 H6 s6 → (∀ s7, Inv X pins (σ6.set i none) (upd H6 a (exV a cls d)) s7 → Q s7) →
              wpAny (model X.prog X.w) X.A (do bindName X.env n .none; unbindBehindTheSuite X.env n pos') (fun _ s7 => Q s7) X.xe s6 := fun {σ6 H6 Q} S6 hq => gone_ok (S6.unsuiteP ok) hN hi hln fun s7 J7 => hq s7 (by
                have q7 := J7.pin (a, oe4) (List.mem_append_right _ (List.mem_cons_self ..))
                exact J7.track n0 np (exV_ok q7.1 hz4 hd4))
          cases f with
          | next =>
            obtain ⟨σ6, H6, S6, q6⟩ := hsp
            exact end_ S6 fun s7 J7 => ⟨_, _, J7, q6⟩
          | brk =>
            obtain ⟨σ6, H6, S6, q6⟩ := hsp
            exact end_ S6 fun s7 J7 => ⟨_, _, J7, q6⟩
          | cont =>
            obtain ⟨σ6, H6, S6, q6⟩ := hsp
            exact end_ S6 fun s7 J7 => ⟨_, _, J7, q6⟩
          | ret u =>
            obtain ⟨v6, σ6, H6, S6, r6, q6⟩ := hsp
            exact end_ S6 fun s7 J7 => ⟨_, _, _, J7, r6, q6⟩
        | false =>
          show wpAny _ X.A (handleBy (.ref a) X.env hds2) _ _ _
          exact ih (hno rfl)
    exact go hh w
  · cases f with
    | next =>
      obtain ⟨σ', H', J', q⟩ := hsp
      exact wpAny_execs_nil ⟨σ', H', J'.ofTry ok, q⟩
    | brk =>
      obtain ⟨σ', H', J', q⟩ := hsp
      exact ⟨σ', H', J'.ofTry ok, q⟩
    | cont =>
      obtain ⟨σ', H', J', q⟩ := hsp
      exact ⟨σ', H', J'.ofTry ok, q⟩
    | ret u =>
      obtain ⟨v, σ', H', J', r, q⟩ := hsp
      exact ⟨v, σ', H', J'.ofTry ok, r, q⟩
end
end L2
namespace L2
open PySem PySem.Spec PyProof.Rows
/-- a def keeps its promise wherever no repr runs around it -/
structure GOk (P : Program) (w : World) (K : PySem.W.Frag) (mg : Str → Option Value) (base : Heap) (CX : CXT) (k : Nat) (f : Addr) (fd : FuncData) (ps : List Str) (sp : Sp) : Prop where
  len : ∀ vs H Q E, sp vs H Q E → vs.length = ps.length
  run : ∀ (A : Around) (outer : List Env) (s : Shared) (H : Hp) (args : Args) (us : List Value) (vs : List V) (Q : VK) (E : XK), A.guards = some [] → Room k A → Env0 P w K mg base A outer s H → BindsTo s fd args (ps.zip us) → Vals vs us → sp vs H Q E →
    codeAny (model P w) A (.call (.ref f) args) (CR CX outer P w H s Q E) s
section
variable {P : Program} {w : World} {K : PySem.W.Frag} {mg : Str → Option Value} {base : Heap} {CX : CXT} {j k : Nat} {f : Addr} {fd : FuncData} {ps : List Str} {sp sp' : Sp}
theorem GOk.of (F : FnOk P w K mg base CX k f fd ps sp) : GOk P w K mg base CX k f fd ps sp := ⟨F.len, fun A outer s H args us vs Q E _ => F.run A outer s H args us vs Q E⟩
theorem GOk.mono (F : GOk P w K mg base CX j f fd ps sp) (h : j ≤ k) : GOk P w K mg base CX k f fd ps sp := ⟨F.len, fun A outer s H args us vs Q E g hr => F.run A outer s H args us vs Q E g (hr.mono h)⟩
theorem GOk.imp (F : GOk P w K mg base CX k f fd ps sp) (h : ∀ vs H Q E, sp' vs H Q E → sp vs H Q E) : GOk P w K mg base CX k f fd ps sp' :=
  ⟨fun vs H Q E q => F.len vs H Q E (h _ _ _ _ q), fun A outer s H args us vs Q E g hr he hb hv hs => F.run A outer s H args us vs Q E g hr he hb hv (h _ _ _ _ hs)⟩
/-- a def of the text, by its body -/
theorem FunD.okG {x qual : Str} {params : Arguments} {body : List Stmt} {scope : Scope} {dvs : List V} {kws : List (Str × V)} {N : List Str} (F : FunD K x qual params body scope dvs kws f fd) (S : FnScope N ps scope) (len : ∀ vs H Q E, sp vs H Q E → vs.length = ps.length)
    (hbody : ∀ (cdv : Value) (A : Around) (outer : List Env) (s : Shared) (H : Hp) (vs : List V) (Q : VK) (E : XK), A.guards = some [] → Room k (A.deeper (envOfC qual scope s.heap.objs.size f cdv)) → sp vs H Q E →
      ∃ t, PSs (cxOf CX P w K mg base N qual scope f cdv A outer s H E) body t ∧ t { nx := fun _ H' => Q .non H', rt := Q } (start N vs) H) : GOk P w K mg base CX (k + 1) f fd ps sp := by
  obtain ⟨oc, od, dV, kV, doc, pm, an, cdv, ct, osl, rfl, lk, hcd, _, _⟩ := F.ex
  refine ⟨len, fun A outer s H args us vs Q E hgd hr e0 hb r hsp => ?_⟩
  have KX : K.In s.heap := e0.mod.kin.keeps fun b o e => (e0.bs b o e).1
  have lim : s.heap.NoLimit := e0.mod.nolimit.keeps fun b o e => (e0.bs b o e).1
  refine codeAny_call_function hr.depth (KX _ _ lk) rfl S.co S.gen rfl (PySem.W.codeRec_of KX hcd) (hb _ _ _ _ ?_)
  refine wpAny_newFunctionEnv_cells S.kind (fun ⟨n, v⟩ hy => ?_) fun env he s1 x => ?_
  · rcases S.par n (List.of_mem_zip hy).1 with q | q
    · exact .inl q
    · exact .inr ⟨q, PySem.W.cellsFrom_some _ _ _ (.inl q)⟩
  subst he
  refine ⟨lim.keeps x.toInCall.keep, codeAny_func ?_⟩
  obtain ⟨t, ht, hq⟩ := hbody cdv A outer s H vs Q E hgd (hr.deeper _) hsp
  have I : Inv (cxOf CX P w K mg base N qual scope f cdv A outer s H E) [] (start N vs) H s1 := inv_start S hr.hd e0 (len _ _ _ _ hsp) r x
  refine wpAny_mono (ht.run [] s1 (start N vs) H _ I hq) (fun fl s' hs => ?_) fun e s' hs => hs
  have fin : ∀ {σ' : St} {H' : Hp} {v : V} {u : Value}, Inv (cxOf CX P w K mg base N qual scope f cdv A outer s H E) [] σ' H' s' → RelV v u → Q v H' → CE outer P w H s Q u s' :=
    fun {σ' H' v u} J rv q => ⟨v, H', J.os, J.bare, J.base, J.hok, rv, q⟩
  cases fl with
  | ret u =>
    obtain ⟨v, σ', H', J, rv, q⟩ := hs
    exact fin J rv q
  | next =>
    obtain ⟨σ', H', J, q⟩ := hs
    exact fin (v := V.non) (u := Value.none) J rfl q
  | brk =>
    obtain ⟨_, _, _, q⟩ := hs
    exact False.elim q
  | cont =>
    obtain ⟨_, _, _, q⟩ := hs
    exact False.elim q
end
section
variable {X : Cx} {CX : CXT} {k n : Nat} {f : Addr} {fd : FuncData} {ps ks : List Str} {sp : Sp} {E : XK} {ES : St → XK} {x : Str} {p pos : Pos} {e : Expr} {es : List Expr} {kws : List Keyword} {t tk : TA} {dvs : List V} {ds : List Value} {g : List Value → List Value → List Value} {gV : List V → List V → List V}
theorem run_G {pins : List (Addr × Obj)} {σ : St} {H : Hp} {s : Shared} {Q : VK} {us bs : List Value} {kw : List (Str × Value)} {vs : List V} (F : GOk X.prog X.w X.K X.mg X.base CX k f fd ps sp) (hG : X.A.guards = some []) (hr : Room k X.A) (hb : BindsTo s fd ⟨us, kw⟩ (ps.zip bs)) (hx : PassesAt CX X σ E)
    (I : Inv X pins σ H s) (r : Vals vs bs) (h : sp vs H Q E) : wpAny (model X.prog X.w) X.A (call (.ref f) us kw) (EP X pins σ Q) X.xe s := by
  refine wpAny_call (codeAny_mono (F.run X.A X.stack s H ⟨us, kw⟩ bs vs Q E hG hr I.env0 hb r h) fun r s' hq => ?_)
  cases r with
  | error e => exact hx pins H s e s' I hq
  | ok fl =>
    cases fl with
    | ret u => exact I.after hq
    | next => exact False.elim hq
    | brk => exact False.elim hq
    | cont => exact False.elim hq
/-- f(e, ..) where what is raised is wished for at the caller's slots -/
theorem pe_callG (F : GOk X.prog X.w X.K X.mg X.base CX k f fd ps sp) (hG : X.A.guards = some []) (hr : Room k X.A) (hg : Gl X x) (hm : X.mg x = some (.ref f)) (hk : PySem.W.keepIn X.K (.ref f) = true) (hb : Binds X.K fd ps ds) (hd : Vals dvs ds) (hx : ∀ σ, PassesAt CX X σ (ES σ))
    (ha : PA X (e :: es) t) (hdb : (x == ("__debug__" : Str)) = false := by decide) (he : starEach (e :: es) X.env = (false, eval e X.env) :: starEach es X.env := by rfl) (hpl : (backTo pos (starEach es X.env)).any (·.1) = false := by rfl) :
    PE X (.Call (.Name x p) (e :: es) [] pos) (fun σ H Q => t σ H fun vs H1 => sp (vs ++ dvs) H1 Q (ES σ)) := by
  refine ⟨fun pins s σ H Q I h => ?_⟩
  refine wpAny_Call_Name_kw (ld_glob I hg hm ?_ hdb)
  refine PySem.W.callWith_K (h₀ := X.base) I.ok.mod.kin hk (thn (ha.run pos pins s σ H _ I h) fun us s1 ⟨vs, H1, I1, r, q⟩ => ⟨I1.kIn, ?_⟩) he hpl
  have r2 : Vals (vs ++ dvs) (us ++ ds) := r.append hd
  have hl : (us ++ ds).length = ps.length := by rw [← r2.length]; exact F.len _ _ _ _ q
  exact run_G F hG hr (hb s1 us I1.kIn hl) (hx σ) I1 r2 q
/-- f(e, .., k = v, ..) -/
theorem pe_callGN (F : GOk X.prog X.w X.K X.mg X.base CX k f fd ps sp) (hG : X.A.guards = some []) (hr : Room k X.A) (hg : Gl X x) (hm : X.mg x = some (.ref f)) (hk : PySem.W.keepIn X.K (.ref f) = true) (hb : KBn X.K fd ps n ks g gV) (hx : ∀ σ, PassesAt CX X σ (ES σ))
    (ha : PA X (e :: es) t) (hkw : PK X kws tk) (hall : (backToKw pos (keywordEach kws X.env)).all (·.1.isSome) = true := by rfl) (hks : (backToKw pos (keywordEach kws X.env)).filterMap (·.1) = ks := by rfl)
    (hdb : (x == ("__debug__" : Str)) = false := by decide) (he : starEach (e :: es) X.env = (false, eval e X.env) :: starEach es X.env := by rfl)
    (hpl : ((backTo pos (starEach (e :: es) X.env)).any (·.1) || (backToKw pos (keywordEach kws X.env)).any (·.1.isNone)) = false := by rfl) :
    PE X (.Call (.Name x p) (e :: es) kws pos) (fun σ H Q => t σ H fun vs H1 => tk σ H1 fun zs H2 => vs.length = n ∧ zs.length = ks.length ∧ sp (gV vs zs) H2 Q (ES σ)) := by
  refine ⟨fun pins s σ H Q I h => ?_⟩
  refine wpAny_Call_Name_kw (ld_glob I hg hm ?_ hdb)
  refine PySem.W.callWith_KW (h₀ := X.base) I.ok.mod.kin hk hall (thn (ha.run pos pins s σ H _ I h) fun us s1 ⟨vs, H1, I1, r, q⟩ => ?_) hpl he
  refine thn (hkw.run pos pins s1 σ H1 _ I1 q) fun ws s2 ⟨zs, H2, I2, rz, l1, l2, q2⟩ => ⟨I2.kIn, ?_⟩
  rw [hks]
  exact run_G F hG hr (hb.to s2 us ws I2.kIn (r.length.symm.trans l1) (rz.length.symm.trans l2)) (hx σ) I2 (hb.rel r rz) q2
/-- where nothing is let out -/
theorem passN {X : Cx} : ∀ σ, PassesAt CX0 X σ ((fun _ => E0) σ) := fun _ _ _ _ _ _ _ h => h.elim
end
/-- repr of data at any depth -/
def rReprD (K : PySem.W.Frag) : List V → Hp → VK → Prop := fun xs H Q => ∃ (v : V) (d : PyData), xs = [v] ∧ Dp K H v d ∧ d.showable = true ∧ d.shown.length ≤ sizeLine ∧ d.depth ≤ 64 ∧ Q (.str d.shown) H
mutual
theorem Dp.noDict {K : PySem.W.Frag} {H : Hp} : ∀ (d : PyData) (v : V), Dp K H v d → d.hasDict = false
  | .none, _, _ => by simp only [PyData.hasDict]
  | .bool _, _, _ => by simp only [PyData.hasDict]
  | .int _, _, _ => by simp only [PyData.hasDict]
  | .str _, _, _ => by simp only [PyData.hasDict]
  | .list ds, _, h => by
    cases h with
    | lst _ a =>
      simp only [PyData.hasDict]
      exact Dp.noDictAll ds _ a
  | .tuple ds, _, h => by
    cases h with
    | tup _ a =>
      simp only [PyData.hasDict]
      exact Dp.noDictAll ds _ a
  | .dict _, _, h => by cases h
theorem Dp.noDictAll {K : PySem.W.Frag} {H : Hp} : ∀ (ds : List PyData) (vs : List V), DpAll K H vs ds → PyData.hasDictAll ds = false
  | [], _, _ => by simp only [PyData.hasDictAll]
  | d :: ds, _, h => by
    cases h with
    | cons a b => simp only [PyData.hasDictAll, Dp.noDict d _ a, Dp.noDictAll ds _ b, Bool.or_self]
end
theorem call_reprD {X : Cx} (hG : X.A.guards = some []) (hu : X.A.units + 66 < cLine) : CallR X (.builtin "repr") (rReprD X.K) := by
  intro pins s σ H xs us Q I r h
  obtain ⟨v, d, rfl, hd, hs, hz, hdp, q⟩ := h
  obtain ⟨u, rfl, rv⟩ := vals1 r
  have nd := Dp.noDict d v hd
  obtain ⟨as, hR⟩ := Dp.reads I d v u hd rv
  cases hd with
  | non =>
    obtain rfl : u = Value.none := rv
    exact PySem.P.repr_of_none ⟨.str _, H, I.tok _, ⟨_, rfl⟩, by simpa only [PyData.shown] using q⟩
  | bl b =>
    obtain rfl : u = Value.bool b := rv
    exact PySem.P.repr_of_bool ⟨.str _, H, I.tok _, ⟨_, rfl⟩, by simpa only [PyData.shown] using q⟩
  | int i =>
    obtain ⟨t, rfl⟩ := rv
    exact PySem.P.repr_of_int (by simpa [PyData.showable] using hs) ⟨.str _, H, I.tok _, ⟨_, rfl⟩, by simpa only [PyData.shown] using q⟩
  | str x =>
    obtain ⟨t, rfl⟩ := rv
    exact PySem.P.repr_of_str ⟨.str _, H, I.tok _, ⟨_, rfl⟩, by simpa only [PyData.shown] using q⟩ (by simpa only [PyData.shown] using hz)
  | lst _ _ =>
    obtain rfl : u = Value.ref _ := rv
    exact repr_of_reads' hR hs (PyData.noDict_hsm nd) hG (by omega) (fun _ _ e => e) (fun h' u tk hk => ⟨.str _, H, I.kept (t' := tk) hk, ⟨_, rfl⟩, q⟩) hz
  | tup _ _ =>
    obtain rfl : u = Value.ref _ := rv
    exact repr_of_reads' hR hs (PyData.noDict_hsm nd) hG (by omega) (fun _ _ e => e) (fun h' u tk hk => ⟨.str _, H, I.kept (t' := tk) hk, ⟨_, rfl⟩, q⟩) hz
theorem Room.u66 {k : Nat} {A : Around} (hr : Room k A) : A.units + 66 < cLine := by have := hr.un; omega
/-! ### the end -/
theorem law_callG {P : Program} {w : World} {K : PySem.W.Frag} {mg mb : Str → Option Value} {CX : CXT} {k : Nat} {fa a : Addr} {fd : FuncData} {x : Str} {sp : Sp} {s₁ : Shared} {vs : List Value} {ns : List Int}
    (KX : K.In s₁.heap) (hns : s₁.heap.Ns mainGlobals mg) (hb : s₁.heap.Ns builtinsNs mb) (hbb : ∀ x : Str, x ≠ "__name__" → mb x = bootBuiltins x) (hlim : s₁.heap.NoLimit) (hg : s₁.gens = #[])
    (ha : s₁.heap.get? a = some { cls := .type "list", data := .seq vs.toArray }) (hi : IntsAre vs ns) (hl : ns.length ≤ sizeLine) (hr : Room k callerA)
    (F : ∀ base : Heap, K.In base → base.Ns mainGlobals mg → GOk P w K mg base CX k fa fd [x] sp) (hbind : ∀ (s : Shared) (u : Value), BindsTo s fd ⟨[u], []⟩ [(x, u)])
    (hsp : ∀ H : Hp, Only H → SqL K H a (ns.map V.int) → sp [.ref a] H (fun v _ => v = .bl true) fun _ _ _ => False)
    (hCX : ∀ H e s', CX [] H s₁ (fun _ _ _ => False) e s' → False) :
    codeAny (model P w) callerA (.call (.ref fa) ⟨[.ref a], []⟩) (fun r s' => r = .ok (.ret (.bool true)) ∧ OldK s₁.heap s'.heap ∧ s'.os = s₁.os ∧ AllBare s'.gens) s₁ := by
  have rv := vals_ints hi
  have lenV := hi.length
  have core : ∀ H : Hp, Only H → SqL K H a (ns.map V.int) → HOk P w H s₁.heap → (∀ b, H b ≠ none → b = a) → (H a ≠ none → K.lookup a = none) →
      codeAny (model P w) callerA (.call (.ref fa) ⟨[.ref a], []⟩) (fun r s' => r = .ok (.ret (.bool true)) ∧ OldK s₁.heap s'.heap ∧ s'.os = s₁.os ∧ AllBare s'.gens) s₁ := by
    intro H hO hS hok hA hK
    have onlyA : ∀ {b : Addr} {u : HO}, H b = some u → b = a := fun {b u} q => hA b (by rw [q]; simp)
    have base_of : ∀ {b : Addr} {o : Obj}, s₁.heap.get? b = some o → H b = none → (hidT s₁.heap H).get? b = some o := fun e n => hidT_get e n
    have noA : ∀ {b : Addr} {o : Obj} {es : Array DictEntry} {ep : Nat}, s₁.heap.get? b = some o → o.data = .dict es ep → H b = none := fun {b o es ep} e d => by
      cases q : H b with
      | none => rfl
      | some u =>
        have e' := onlyA q
        subst e'
        rw [ha] at e
        cases e
        exact nomatch (show Data.seq vs.toArray _ = Data.dict es ep from d)
    have nsK : ∀ {b : Addr} {m : Str → Option Value}, s₁.heap.Ns b m → (hidT s₁.heap H).Ns b m := fun {b m} ⟨o, es, ep, e, d, r⟩ => ⟨o, es, ep, base_of e (noA e d), d, r⟩
    have hKb : K.In (hidT s₁.heap H) := fun b o e => base_of (KX b o e) (by
      cases q : H b with
      | none => rfl
      | some u =>
        have e' := onlyA q
        subst e'
        rw [hK (by rw [q]; simp)] at e
        cases e)
    have hM : Mod K mg (hidT s₁.heap H) := ⟨hKb, nsK hns, ⟨mb, nsK hb, hbb⟩, let ⟨mc, h1, h2⟩ := hlim; ⟨mc, nsK h1, h2⟩⟩
    have e0 : Env0 P w K mg (hidT s₁.heap H) callerA [] s₁ H := ⟨rfl, hM, fun b o e => of_hidT e, Nat.le_of_eq (hidT_size _ _), trivial, fun b hb => absurd (show b ∈ ([] : List Addr) from hb) (by simp), hok, .of_eq hg⟩
    refine codeAny_mono ((F _ hKb (nsK hns)).run callerA [] s₁ H ⟨[.ref a], []⟩ [.ref a] [.ref a] _ _ rfl hr e0 (hbind s₁ (.ref a)) (.cons rfl .nil) (hsp H hO hS)) fun r s' h => ?_
    cases r with
    | error e => exact (hCX H e s' h).elim
    | ok fl =>
      cases fl with
      | next => exact False.elim h
      | brk => exact False.elim h
      | cont => exact False.elim h
      | ret u =>
        obtain ⟨v, H', os, bare, un, hok', r', q⟩ := h
        have q' : v = .bl true := q
        subst q'
        obtain rfl : u = Value.bool true := r'
        refine ⟨rfl, OldK.of_keep fun b o e => ?_, os, bare⟩
        cases q : H b with
        | none => exact un.keep b o e q (by intro z; exact absurd (show b ∈ ([] : List Addr) from z) (by simp)) (by simp)
        | some u =>
          rcases hO b with z | ⟨ob, xs, z⟩
          · rw [q] at z
            cases z
          · have z2 := un.frzs b ob _ z
            obtain ⟨e1, _⟩ := hok b _ z
            obtain ⟨e2, _⟩ := hok' b _ z2
            rw [e] at e1
            cases e1
            exact e2
  cases hk : K.lookup a with
  | some o =>
    have e := KX a o hk
    rw [ha] at e
    cases e
    refine core (fun _ => none) (fun _ => .inl rfl) (.inr ⟨_, vs.toArray, _, hk, rfl, rfl, rfl, by rw [List.size_toArray, lenV]; exact hl, by simpa using rv⟩) (fun b u z => by have z' : (none : Option HO) = some u := z; cases z') (fun b z => absurd rfl z) fun z => absurd rfl z
  | none =>
    refine core (fun b => if b = a then some (.frz { cls := .type "list", data := .seq vs.toArray } (.lst (ns.map V.int))) else none) (fun b => ?_) (.inl (.inr ⟨{ cls := .type "list", data := .seq vs.toArray }, if_pos rfl⟩)) (fun b u z => ?_) (fun b z => ?_) fun _ => hk
    · by_cases hb : b = a
      · exact .inr ⟨_, _, if_pos hb⟩
      · exact .inl (if_neg hb)
    · by_cases hb : b = a
      · have z' := (if_pos hb).symm.trans z
        cases z'
        subst hb
        exact ⟨ha, by rw [List.length_map]; exact hl, vs, _, rv, ha⟩
      · have z' := (if_neg hb).symm.trans z
        cases z'
    · by_cases hb : b = a
      · exact hb
      · exact absurd (if_neg hb) z
theorem walk_ofG {l : PySem.W.OpenLaw} {n k : Nat} {q : Program} {loose : List Str} {XP : (Str → Option Value) → Heap → Prop} {YP : World → Heap → Prop} {d : DefRec} {CX : CXT} {x : Str}
    (hn : l.most = some n) (hn2 : n ≤ sizeLine) (hdf : d.params.defaults = []) (hr : Room k callerA)
    (F : ∀ (w : World) (mg : Str → Option Value) (fa : Addr) (h : Heap), YP w h → h.Ns mainGlobals mg → mg d.name = some (.ref fa) →
      ∃ (K : PySem.W.Frag) (fd : FuncData) (sp : Sp), K.In h ∧ (∀ (s : Shared) (u : Value), BindsTo s fd ⟨[u], []⟩ [(x, u)]) ∧
        (∀ (H : Hp) (a : Addr) (ns : List Int), ns.length ≤ n → Only H → SqL K H a (ns.map V.int) → sp [.ref a] H (fun v _ => v = .bl true) fun _ _ _ => False) ∧
        ∀ base : Heap, K.In base → base.Ns mainGlobals mg → GOk l.prog w K mg base CX k fa fd [x] sp)
    (hCX : ∀ (H : Hp) (s : Shared) (e : Value) (s' : Shared), CX [] H s (fun _ _ _ => False) e s' → False) :
    PySem.W.WalkO q loose XP YP l.row.toRowW d [] (fun f vs => PySem.call f vs) := by
  refine Att.attach_call hn hdf fun w s₀ s₁ mg mb fa o pm cd doc a vs ns G Y ho hd hcd hmg hobj hints hlen hg => ?_
  obtain ⟨K, fd, sp, KX, hb, hsp, hF⟩ := F w mg fa _ Y G.T.g hmg
  exact law_callG KX G.T.g G.T.b G.T.builtins G.T.nolimit hg hobj hints (Nat.le_trans hlen hn2) hr hF hb (fun H hO hS => hsp H a ns hlen hO hS) fun H e s' => hCX H s₁ e s'
end L2
namespace L2
open PySem PySem.Spec PyProof.Rows
section
variable {P : Program} {w : World} {K : PySem.W.Frag} {mg : Str → Option Value} {base : Heap} {C fI : Addr} {fd : FuncData} {f g qual x : Str} {params : Arguments} {body : List Stmt} {scope : Scope} {q1 q2 q3 q4 r1 r2 r3 r4 : Pos}
/-- how a call binds, by the def's own text -/
theorem FunD.to {dvs : List V} {kws : List (Str × V)} {args : Args} {binds : List (Str × Value)} {s : Shared} (F : FunD K x qual params body scope [] kws fI fd)
    (h : ∀ (kV doc pm : Value) (an : Option Addr) (cdv ct : Value), bindArgs (PySem.W.fnOf x qual params body scope .none kV doc pm an cdv ct) args = pure binds) : BindsTo s fd args binds := by
  obtain ⟨oc, od, dV, kV, doc, pm, an, cdv, ct, osl, rfl, lk, hcd, hD, hK⟩ := F.ex
  rcases hD with ⟨_, rfl⟩ | ⟨e, _⟩
  · exact .of_eq (h kV doc pm an cdv ct)
  · exact absurd rfl e
theorem ok_init1 (F : FunD K "__init__" qual params [.Assign [.Attribute (.Name "self" q1) f q2] (.Name f q3) q4] scope [] [] fI fd) (S : FnScope ["self", f] ["self", f] scope) (hs : scope.names.lookup ("self" : Str) = some NameKind.local) (hf : scope.names.lookup f = some NameKind.local)
    (hd : (f == ("__debug__" : Str)) = false) (hc : (f == ("__classdict__" : Str)) = false) (T : ExT K C) (no : PySem.W.findIn K (.ref C) f = some none) : FnOk P w K mg base CX0 1 fI fd ["self", f] (spI1 C f) := by
  refine F.ok S (fun vs H Q E h => ?_) (fun cdv A outer s H vs Q E hr h => ?_)
  · obtain ⟨a, v, rfl, _⟩ := h
    rfl
  · obtain ⟨a, v, rfl, ha, k⟩ := h
    refine ⟨_, pss_one (ps_xst (pv 0 rfl (Or.inl hs)) (pv 1 rfl (Or.inl hf) hd hc)), ?_⟩
    exact ⟨v, rfl, .ref a, rfl, a, C, rfl, T, no, .inl ⟨ha, fun dx h1 h2 => k dx h1 h2⟩⟩
theorem ok_init2 (F : FunD K "__init__" qual params [.Assign [.Attribute (.Name "self" q1) f q2] (.Name f q3) q4, .Assign [.Attribute (.Name "self" r1) g r2] (.Name g r3) r4] scope [] [] fI fd) (S : FnScope ["self", f, g] ["self", f, g] scope)
    (hs : scope.names.lookup ("self" : Str) = some NameKind.local) (hf : scope.names.lookup f = some NameKind.local) (hg : scope.names.lookup g = some NameKind.local)
    (hd : (f == ("__debug__" : Str)) = false) (hc : (f == ("__classdict__" : Str)) = false) (hd2 : (g == ("__debug__" : Str)) = false) (hc2 : (g == ("__classdict__" : Str)) = false) (T : ExT K C) (no : PySem.W.findIn K (.ref C) f = some none) (no2 : PySem.W.findIn K (.ref C) g = some none) :
    FnOk P w K mg base CX0 1 fI fd ["self", f, g] (spI2 C f g) := by
  refine F.ok S (fun vs H Q E h => ?_) (fun cdv A outer s H vs Q E hr h => ?_)
  · obtain ⟨a, v, u, rfl, _⟩ := h
    rfl
  · obtain ⟨a, v, u, rfl, ha, k⟩ := h
    refine ⟨_, pss_cons (ps_xst (pv 0 rfl (Or.inl hs)) (pv 1 rfl (Or.inl hf) hd hc)) (pss_one (ps_xst (pv 0 rfl (Or.inl hs)) (pv 2 rfl (Or.inl hg) hd2 hc2))), ?_⟩
    refine ⟨v, rfl, .ref a, rfl, a, C, rfl, T, no, .inl ⟨ha, fun dx h1 h2 => ?_⟩⟩
    refine ⟨u, rfl, .ref a, rfl, a, C, rfl, T, no2, .inr ⟨dx, [(f, v)], upd_same, ?_, (by show 1 ≤ 900; decide), k dx h1 h2⟩⟩
    rw [upd_ne h2, upd_same]
end
/-- data stay -/
theorem SqT.same {K : PySem.W.Frag} {H H' : Hp} {a : Addr} {xs : List V} (e : Same H H') (h : SqT K H a xs) : SqT K H' a xs := by
  rcases h with (h | ⟨o, h⟩) | h
  · exact .inl (.inl (e _ _ h))
  · exact .inl (.inr ⟨o, e _ _ h⟩)
  · exact .inr h
mutual
theorem Dp.same {K : PySem.W.Frag} {H H' : Hp} (e : Same H H') : ∀ (d : PyData) (v : V), Dp K H v d → Dp K H' v d
  | .none, _, h => by cases h; exact .non
  | .bool _, _, h => by cases h; exact .bl _
  | .int _, _, h => by cases h; exact .int _
  | .str _, _, h => by cases h; exact .str _
  | .list ds, _, h => by
    cases h with
    | lst s a => exact .lst (e.seq s) (Dp.sameAll e ds _ a)
  | .tuple ds, _, h => by
    cases h with
    | tup s a => exact .tup (s.same e) (Dp.sameAll e ds _ a)
  | .dict _, _, h => by cases h
theorem Dp.sameAll {K : PySem.W.Frag} {H H' : Hp} (e : Same H H') : ∀ (ds : List PyData) (vs : List V), DpAll K H vs ds → DpAll K H' vs ds
  | [], _, h => by cases h; exact .nil
  | d :: ds, _, h => by
    cases h with
    | cons a b => exact .cons (Dp.same e d _ a) (Dp.sameAll e ds _ b)
end
theorem Same.new {H : Hp} {a : Addr} {o : HO} (h : H a = none) : Same H (upd H a o) := fun b u e => by
  rw [upd_ne (ne_of_none e h)]
  exact e
theorem ExAt.same {H H' : Hp} {a D : Addr} {fs : List (Str × V)} (e : Same H H') (x : ExAt H a D fs) : ExAt H' a D fs := by
  obtain ⟨dd, h1, h2⟩ := x
  exact ⟨dd, e _ _ h1, e _ _ h2⟩
end L2
namespace He
open PySem PySem.Spec PyProof.Rows L2
/-! ### a Hook with looks of one's own -/
def obsX (fa : List Fa) (fn : List DefD) (more : PySem.W.Frag → Bool) (K : PySem.W.Frag) : AlD := ((fa.all fun f => f.ok K) && ((fn.all fun d => d.ok K) && more K), fn.map fun d => fnW K d.at_)
def SaysX (fa : List Fa) (fn : List DefD) (more : PySem.W.Frag → Bool) (K : PySem.W.Frag) : Prop := obsX fa fn more K = valD fn
def obsXG (n : Nat) (fa : List Fa) (fn : List DefD) (more : PySem.W.Frag → Bool) (g : Addr → Option Obj) : AlD := obsX fa fn more (frG g (asD g n))
def hookX (n : Nat) (fa : List Fa) (fn : List DefD) (more : PySem.W.Frag → Bool) : PySem.W.Hook where
  α := AlD
  obs := fun s => obsXG n fa fn more s.heap.get?
  val := fun _ => valD fn
  says := fun _ h => ∃ K : PySem.W.Frag, K.In h ∧ SaysX fa fn more K
  of := fun _ _ e => ⟨_, frG_in, e⟩
  keeps := fun _ _ _ ⟨K, hK, c⟩ k => ⟨K, PySem.W.Frag.In.keeps hK k, c⟩
theorem obsXG_eq {n : Nat} {fa : List Fa} {fn : List DefD} {more : PySem.W.Frag → Bool} {g : Addr → Option Obj} {s : Shared} (h : ∀ a, g a = s.heap.get? a) : obsXG n fa fn more g = (hookX n fa fn more).obs s := by
  have e : g = s.heap.get? := funext h
  rw [e] <;> rfl
section
variable {fa : List Fa} {fn : List DefD} {more : PySem.W.Frag → Bool} {K : PySem.W.Frag}
theorem SaysX.all (c : SaysX fa fn more K) : (fa.all fun f => f.ok K) = true ∧ (fn.all fun d => d.ok K) = true ∧ more K = true := by
  obtain ⟨h1, h2⟩ := ba (show ((fa.all fun f => f.ok K) && ((fn.all fun d => d.ok K) && more K)) = true from congrArg (fun z : AlD => z.1) c)
  obtain ⟨h3, h4⟩ := ba h2
  exact ⟨h1, h3, h4⟩
theorem SaysX.fact (c : SaysX fa fn more K) (i : Nat) {f : Fa} (h : fa[i]? = some f := by rfl) : f.ok K = true := List.all_eq_true.mp c.all.1 f (List.mem_of_getElem? h)
theorem SaysX.def_ (c : SaysX fa fn more K) (i : Nat) {d : DefD} (h : fn[i]? = some d := by rfl) : ∃ fd, FunD K d.name d.qual d.params d.body d.scope (d.dvs K) (d.kws K) (fAd K d.at_) fd := by
  have e : fn.map (fun d => fnW K d.at_) = fn.map DefD.val := congrArg (fun z : AlD => z.2) c
  have e2 : (fn.map fun d => fnW K d.at_)[i]? = (fn.map DefD.val)[i]? := by rw [e]
  rw [List.getElem?_map, List.getElem?_map, h] at e2
  exact DefD.funD (Option.some.inj e2) (List.all_eq_true.mp c.all.2.1 d (List.mem_of_getElem? h))
end
end He
/-! Readings turned into what they ask, by simp. -/
namespace L2
open PySem PySem.Spec PyProof.Rows
section
variable {σ : St} {H : Hp} {Q : VK} {D : Ends} {v u x y : V} {i j : Int} {n : Nat} {P : Prop}
theorem rd_var0 : tVar 0 (some v :: σ) H Q = Q v H := by
  apply propext
  exact ⟨fun ⟨w, e, q⟩ => by cases e; exact q, fun q => ⟨v, rfl, q⟩⟩
theorem rd_varS {o : Option V} : tVar (n + 1) (o :: σ) H Q = tVar n σ H Q := rfl
theorem rd_C : tC v σ H Q = Q v H := rfl
theorem rd_op {r : R2} {ta tb : TE} : tOp r ta tb σ H Q = ta σ H fun x H1 => tb σ H1 fun y H2 => r x y H2 Q := rfl
theorem rd_un {r : V → Hp → VK → Prop} {ta : TE} : tUn r ta σ H Q = ta σ H fun x H1 => r x H1 Q := rfl
theorem rd_I {C : Int → Int → Prop} {g : Int → Int → V} : rI C g (.int i) (.int j) H Q = (C i j ∧ Q (g i j) H) := by
  apply propext
  exact ⟨fun ⟨_, _, e1, e2, q⟩ => by cases e1; cases e2; exact q, fun q => ⟨i, j, rfl, rfl, q⟩⟩
theorem rd_I0 {g : Int → Int → V} : rI0 g (.int i) (.int j) H Q = Q (g i j) H := by
  apply propext
  exact ⟨fun ⟨_, _, e1, e2, q⟩ => by cases e1; cases e2; exact q, fun q => ⟨i, j, rfl, rfl, q⟩⟩
theorem rd_U {g : Int → V} : rU g (.int i) H Q = Q (g i) H := by
  apply propext
  exact ⟨fun ⟨_, e1, q⟩ => by cases e1; exact q, fun q => ⟨i, rfl, q⟩⟩
theorem rd_eqI : rEq (.int i) (.int j) H Q = Q (.bl (decide (i = j))) H := by
  have e : decide (V.int i = V.int j) = decide (i = j) := by
    by_cases h : i = j
    · rw [decide_eq_true h, decide_eq_true (by rw [h])]
    · rw [decide_eq_false h, decide_eq_false (fun z => h (V.int.inj z))]
  apply propext
  unfold rEq
  rw [e]
  exact ⟨fun q => q.2, fun q => ⟨rfl, q⟩⟩
theorem rd_eqS {a b : Str} : rEq (.str a) (.str b) H Q = Q (.bl (decide (a = b))) H := by
  have e : decide (V.str a = V.str b) = decide (a = b) := by
    by_cases h : a = b
    · rw [decide_eq_true h, decide_eq_true (by rw [h])]
    · rw [decide_eq_false h, decide_eq_false (fun z => h (V.str.inj z))]
  apply propext
  unfold rEq
  rw [e]
  exact ⟨fun q => q.2, fun q => ⟨rfl, q⟩⟩
theorem rd_neS {a b : Str} : rNe (.str a) (.str b) H Q = Q (.bl (!decide (a = b))) H := by
  have e : decide (V.str a = V.str b) = decide (a = b) := by
    by_cases h : a = b
    · rw [decide_eq_true h, decide_eq_true (by rw [h])]
    · rw [decide_eq_false h, decide_eq_false (fun z => h (V.str.inj z))]
  apply propext
  unfold rNe
  rw [e]
  exact ⟨fun q => q.2, fun q => ⟨rfl, q⟩⟩
theorem rd_neI : rNe (.int i) (.int j) H Q = Q (.bl (!decide (i = j))) H := by
  have e : decide (V.int i = V.int j) = decide (i = j) := by
    by_cases h : i = j
    · rw [decide_eq_true h, decide_eq_true (by rw [h])]
    · rw [decide_eq_false h, decide_eq_false (fun z => h (V.int.inj z))]
  apply propext
  unfold rNe
  rw [e]
  exact ⟨fun q => q.2, fun q => ⟨rfl, q⟩⟩
theorem rd_isN {ta : TE} : tIsN ta σ H Q = ta σ H fun x H1 => Q (.bl (decide (x = .non))) H1 := rfl
theorem rd_notN {ta : TE} : tNotN ta σ H Q = ta σ H fun x H1 => Q (.bl (!decide (x = .non))) H1 := rfl
theorem rd_B {t : TE} {q : Bool → Hp → Prop} : tB t σ H q = t σ H fun x H1 => ∃ c, x = .bl c ∧ q c H1 := rfl
theorem rd_test {t : TE} {q : Bool → Hp → Prop} : tTest t σ H q = t σ H fun x H1 => ∃ c, x = .bl c ∧ q c H1 := rfl
theorem rd_exbl {b : Bool} {p : Bool → Prop} : (∃ c, V.bl b = .bl c ∧ p c) = p b := by
  apply propext
  exact ⟨fun ⟨_, e, q⟩ => by cases e; exact q, fun q => ⟨b, rfl, q⟩⟩
theorem rd_and {t s : TT} {q : Bool → Hp → Prop} : tAnd t s σ H q = t σ H fun c H1 => if c = true then s σ H1 q else q false H1 := rfl
theorem rd_or {t s : TT} {q : Bool → Hp → Prop} : tOr t s σ H q = t σ H fun c H1 => if c = true then q true H1 else s σ H1 q := rfl
theorem rd_not {t : TT} {q : Bool → Hp → Prop} : tNot t σ H q = t σ H fun c H1 => q (!c) H1 := rfl
theorem rd_andV {ta tb : TE} : tAndV ta tb σ H Q = ta σ H fun x H1 => ∃ c, x = .bl c ∧ if c = true then tb σ H1 Q else Q (.bl false) H1 := rfl
theorem rd_orV {ta tb : TE} : tOrV ta tb σ H Q = ta σ H fun x H1 => ∃ c, x = .bl c ∧ if c = true then Q (.bl true) H1 else tb σ H1 Q := rfl
theorem rd_notV {ta : TE} : tNotV ta σ H Q = ta σ H fun x H1 => ∃ c, x = .bl c ∧ Q (.bl (!c)) H1 := rfl
theorem rd_if {t : TT} {ta tb : TE} : tIf t ta tb σ H Q = t σ H fun c H1 => if c = true then ta σ H1 Q else tb σ H1 Q := rfl
theorem rd_next : tNext D σ H = D.nx σ H := rfl
theorem rd_seq {t s : TS} : tSeq t s D σ H = t { D with nx := s D } σ H := rfl
theorem rd_drop {te : TE} : tDrop te D σ H = te σ H fun _ H1 => D.nx σ H1 := rfl
theorem rd_ret {te : TE} : tRet te D σ H = te σ H D.rt := rfl
theorem rd_retN : tRetN D σ H = D.rt .non H := rfl
theorem rd_ifS {c : TT} {t s : TS} : tIfS c t s D σ H = c σ H fun b H1 => if b = true then t D σ H1 else s D σ H1 := rfl
theorem rd_gName {q : St → Hp → Prop} {k : Nat} : gName k v σ H q = q (σ.set k (some v)) H := rfl
theorem rd_gNil {q : St → Hp → Prop} {vs : List V} : gNil vs σ H q = (vs = [] ∧ q σ H) := rfl
theorem rd_gCons {t : TG} {s : TGs} {q : St → Hp → Prop} {vs : List V} : gCons t s (v :: vs) σ H q = t v σ H fun σ' H' => s vs σ' H' q := by
  apply propext
  exact ⟨fun ⟨_, _, e, q⟩ => by cases e; exact q, fun q => ⟨v, vs, rfl, q⟩⟩
theorem rd_gNil0 {q : St → Hp → Prop} : gNil [] σ H q = q σ H := by
  apply propext
  exact ⟨fun h => h.2, fun h => ⟨rfl, h⟩⟩
theorem rd_asg {te : TE} {g : TG} : tAsg te g D σ H = te σ H fun x H1 => g x σ H1 D.nx := rfl
theorem rd_nil {q : List V → Hp → Prop} : tNil σ H q = q [] H := rfl
theorem rd_cons {ta : TE} {tr : TA} {q : List V → Hp → Prop} : tCons ta tr σ H q = ta σ H fun x H1 => tr σ H1 fun xs H2 => q (x :: xs) H2 := rfl
theorem rd_tup {t : TA} : tTup t σ H Q = t σ H fun xs H1 => xs.length ≤ sizeLine ∧ ∀ p, H1 p = none → Q (.ref p) (upd H1 p (.tup xs)) := rfl
theorem rd_lst {t : TA} : tLst t σ H Q = t σ H fun xs H1 => xs.length ≤ sizeLine ∧ ∀ p, H1 p = none → Q (.ref p) (upd H1 p (.lst xs)) := rfl
theorem rd_CB {r : List V → Hp → VK → Prop} {t : TA} : tCB r t σ H Q = t σ H fun vs H1 => r vs H1 Q := rfl
theorem rd_par {ta : TA} {k l : Nat} : tPar k l ta D σ H = ta σ H fun vs H1 => ∃ a b, vs = [a, b] ∧ D.nx ((σ.set k (some a)).set l (some b)) H1 := rfl
theorem rd_ex2 {a b : V} {p : V → V → Prop} : (∃ c d, [a, b] = [c, d] ∧ p c d) = p a b := by
  apply propext
  exact ⟨fun ⟨_, _, e, q⟩ => by cases e; exact q, fun q => ⟨a, b, rfl, q⟩⟩
theorem rd_start {N : List Str} {vs : List V} : L2.start N vs = vs.map some ++ List.replicate (N.length - vs.length) none := rfl
theorem rd_set0 {o p : Option V} : List.set (o :: σ) 0 p = p :: σ := rfl
theorem rd_setS {o p : Option V} : List.set (o :: σ) (n + 1) p = o :: List.set σ n p := rfl
theorem ifT {b : Bool} {A B : Prop} (e : b = true) (h : A) : if b = true then A else B := by
  rw [if_pos e]
  exact h
theorem ifF {b : Bool} {A B : Prop} (e : b = false) (h : B) : if b = true then A else B := by
  rw [e, if_neg Bool.false_ne_true]
  exact h
theorem if2 {b : Bool} {A B : Prop} (h1 : b = true → A) (h2 : b = false → B) : if b = true then A else B := by
  cases b with
  | true => exact ifT rfl (h1 rfl)
  | false => exact ifF rfl (h2 rfl)
end
end L2
namespace J
open PySem PySem.Spec L2
/-! ### values with their contents -/
/-- a value: what never changes is told whole; what may change is an ob, a number in the store -/
inductive W where
  | non | bl (b : Bool) | int (i : Int) | str (x : Str) | ty (n : String) | gl (x : Str) | ob (n : Nat)
  | tup (xs : List W) | lst (xs : List W) | rl (xs : List W) | dic (kvs : List (Key × W)) | ins (C : Str) (fs : List (Str × W)) | exc (C : Str) (fs : List (Str × W))
abbrev Z := List (Option W)
abbrev Sl := List (Option W)
structure Exn where
  C : Str
  fs : List (Str × W)
inductive Res (α : Type) where
  | ok (a : α) (z : Z) | ex (x : Exn) (z : Z) | bad
/-- where a name of the module stands -/
def cA (K : PySem.W.Frag) (x : Str) : Addr := He.ga K x
/-- a is the place of something that may change -/
def Lv (mu : List Addr) (z : Z) (a : Addr) : Prop := ∃ (n : Nat) (w : W), mu[n]? = some a ∧ z[n]? = some (some w)
/-- written in the module: a tuple, a list -/
def WrT (K : PySem.W.Frag) (a : Addr) (vs : List V) : Prop := ∃ (o : Obj) (its : Array Value) (n : Nat), K.lookup a = some o ∧ o.cls = .type "tuple" ∧ o.data = .seq its n ∧ its.size ≤ sizeLine ∧ Vals vs its.toList
def WrL (K : PySem.W.Frag) (a : Addr) (vs : List V) : Prop := ∃ (o : Obj) (its : Array Value) (n : Nat), K.lookup a = some o ∧ o.cls = .type "list" ∧ o.dict = none ∧ o.data = .seq its n ∧ its.size ≤ sizeLine ∧ Vals vs its.toList
/-- the module, the heap, the places of what may change, its contents, places that may change and have no number -/
structure En where
  K : PySem.W.Frag
  H : Hp
  mu : List Addr
  z : Z
  ex : List Addr
def En.L (e : En) (a : Addr) : Prop := Lv e.mu e.z a ∨ a ∈ e.ex
mutual
inductive RW (e : En) : W → V → Prop
  | non : RW e .non .non
  | bl (b : Bool) : RW e (.bl b) (.bl b)
  | int (i : Int) : RW e (.int i) (.int i)
  | str (x : Str) : RW e (.str x) (.str x)
  | ty (n : String) : RW e (.ty n) (.ty n)
  | gl (x : Str) : RW e (.gl x) (.ref (cA e.K x))
  | ob {n : Nat} {a : Addr} : e.mu[n]? = some a → RW e (.ob n) (.ref a)
  | tup {a : Addr} {xs : List W} {vs : List V} : Rd e.H a (.tup vs) → ¬ e.L a → RWs e xs vs → RW e (.tup xs) (.ref a)
  | tupK {a : Addr} {xs : List W} {vs : List V} : WrT e.K a vs → RWs e xs vs → RW e (.tup xs) (.ref a)
  | lst {a : Addr} {xs : List W} {vs : List V} : e.H a = some (.lst vs) → ¬ e.L a → RWs e xs vs → RW e (.lst xs) (.ref a)
  | rl {a : Addr} {xs : List W} {vs : List V} : Rd e.H a (.lst vs) → ¬ e.L a → RWs e xs vs → RW e (.rl xs) (.ref a)
  | rlK {a : Addr} {xs : List W} {vs : List V} : WrL e.K a vs → RWs e xs vs → RW e (.rl xs) (.ref a)
  | dic {a : Addr} {kvs : List (Key × W)} {us : List (Key × V)} : e.H a = some (.dK us) → ¬ e.L a → RKs e kvs us → RW e (.dic kvs) (.ref a)
  | ins {C : Str} {a dx : Addr} {fs : List (Str × W)} {us : List (Str × V)} : e.H a = some (.ins (cA e.K C) dx us) → ¬ e.L a → RFs e fs us → RW e (.ins C fs) (.ref a)
  | exc {C : Str} {a d : Addr} {fs : List (Str × W)} {us : List (Str × V)} : e.H a = some (exV a (.ref (cA e.K C)) (some d)) → e.H d = some (.xd us) → ¬ e.L a → ¬ e.L d → RFs e fs us → RW e (.exc C fs) (.ref a)
inductive RWs (e : En) : List W → List V → Prop
  | nil : RWs e [] []
  | cons {x : W} {v : V} {xs : List W} {vs : List V} : RW e x v → RWs e xs vs → RWs e (x :: xs) (v :: vs)
inductive RKs (e : En) : List (Key × W) → List (Key × V) → Prop
  | nil : RKs e [] []
  | cons {k : Key} {x : W} {v : V} {xs : List (Key × W)} {vs : List (Key × V)} : RW e x v → RKs e xs vs → RKs e ((k, x) :: xs) ((k, v) :: vs)
inductive RFs (e : En) : List (Str × W) → List (Str × V) → Prop
  | nil : RFs e [] []
  | cons {k : Str} {x : W} {v : V} {xs : List (Str × W)} {vs : List (Str × V)} : RW e x v → RFs e xs vs → RFs e ((k, x) :: xs) ((k, v) :: vs)
end
/-- what may change, at its place -/
inductive Ce (e : En) (a : Addr) : W → Prop
  | lst {xs : List W} {vs : List V} : e.H a = some (.lst vs) → RWs e xs vs → Ce e a (.lst xs)
  | dic {kvs : List (Key × W)} {us : List (Key × V)} : e.H a = some (.dK us) → RKs e kvs us → Ce e a (.dic kvs)
  | ins {C : Str} {dx : Addr} {fs : List (Str × W)} {us : List (Str × V)} : e.H a = some (.ins (cA e.K C) dx us) → RFs e fs us → Ce e a (.ins C fs)
structure SR (e : En) : Prop where
  len : e.mu.length = e.z.length
  nd : e.mu.Nodup
  there : ∀ a ∈ e.mu, ∃ o, e.H a = some o
  thex : ∀ a ∈ e.ex, a ∉ e.mu ∧ ∃ o, e.H a = some o
  cell : ∀ (n : Nat) (w : W) (a : Addr), e.z[n]? = some (some w) → e.mu[n]? = some a → Ce e a w
/-- from one state to a later one -/
structure Gq (e e' : En) : Prop where
  K : e'.K = e.K
  ex : ∃ t, e'.ex = t ++ e.ex
  pre : ∃ t, e'.mu = e.mu ++ t
  live : ∀ a, e'.L a → e.L a ∨ e.H a = none
  keep : ∀ a o, e.H a = some o → ¬ e.L a → e'.H a = some o
/-- .. in which what has no number stays -/
structure Gr (e e' : En) : Prop extends Gq e e' where
  keepx : ∀ a ∈ e.ex, e'.H a = e.H a
theorem Gq.refl (e : En) : Gq e e := ⟨rfl, ⟨[], rfl⟩, ⟨[], by simp⟩, fun _ h => .inl h, fun _ _ h _ => h⟩
theorem Gr.refl (e : En) : Gr e e := ⟨Gq.refl e, fun _ _ => rfl⟩
theorem Gq.memx {e e' : En} (g : Gq e e') {a : Addr} (h : a ∈ e.ex) : a ∈ e'.ex := by
  obtain ⟨t, ht⟩ := g.ex
  rw [ht]; exact List.mem_append_right _ h
theorem Gq.trans {e e1 e2 : En} (a : Gq e e1) (b : Gq e1 e2) : Gq e e2 := by
  refine ⟨b.K.trans a.K, ?_, ?_, fun x h => ?_, fun x o h n => ?_⟩
  · obtain ⟨t, ht⟩ := a.ex
    obtain ⟨u, hu⟩ := b.ex
    exact ⟨u ++ t, by rw [hu, ht, List.append_assoc]⟩
  · obtain ⟨t, ht⟩ := a.pre
    obtain ⟨u, hu⟩ := b.pre
    exact ⟨t ++ u, by rw [hu, ht, List.append_assoc]⟩
  · rcases b.live x h with q | q
    · exact a.live x q
    · by_cases l : e.L x
      · exact .inl l
      · cases hx : e.H x with
        | none => exact .inr rfl
        | some o => rw [a.keep x o hx l] at q; cases q
  · refine b.keep x o (a.keep x o h n) fun l => ?_
    rcases a.live x l with q | q
    · exact n q
    · rw [h] at q; cases q
theorem Gr.trans {e e1 e2 : En} (a : Gr e e1) (b : Gr e1 e2) : Gr e e2 := ⟨a.toGq.trans b.toGq, fun x h => (b.keepx x (a.toGq.memx h)).trans (a.keepx x h)⟩
theorem Gq.off {e e' : En} (g : Gq e e') {a : Addr} {o : HO} (h : e.H a = some o) (n : ¬ e.L a) : ¬ e'.L a := fun l => by
  rcases g.live a l with q | q
  · exact n q
  · rw [h] at q; cases q
theorem Gq.at {e e' : En} (g : Gq e e') {n : Nat} {a : Addr} (h : e.mu[n]? = some a) : e'.mu[n]? = some a := by
  obtain ⟨t, ht⟩ := g.pre
  rw [ht]
  have hn : n < e.mu.length := by
    rcases Nat.lt_or_ge n e.mu.length with q | q
    · exact q
    · rw [List.getElem?_eq_none q] at h; cases h
  rw [List.getElem?_append_left hn]; exact h
section
variable {e e' : En} (k : e'.K = e.K) (hm : ∀ (n : Nat) (a : Addr), e.mu[n]? = some a → e'.mu[n]? = some a) (ho : ∀ (a : Addr) (u : HO), e.H a = some u → ¬ e.L a → e'.H a = some u ∧ ¬ e'.L a)
include k hm ho
theorem rd_to {a : Addr} {u : HO} (h : Rd e.H a u) (n : ¬ e.L a) : Rd e'.H a u ∧ ¬ e'.L a := by
  rcases h with h | ⟨o, h⟩
  · exact ⟨.inl (ho a _ h n).1, (ho a _ h n).2⟩
  · exact ⟨.inr ⟨o, (ho a _ h n).1⟩, (ho a _ h n).2⟩
mutual
theorem RW.to : ∀ {w : W} {v : V}, RW e w v → RW e' w v
  | _, _, .non => .non
  | _, _, .bl b => .bl b
  | _, _, .int i => .int i
  | _, _, .str x => .str x
  | _, _, .ty n => .ty n
  | _, _, .gl a => by have q := RW.gl (e := e') a; rw [k] at q; exact q
  | _, _, .ob h => .ob (hm _ _ h)
  | _, _, .tup h n r => .tup (rd_to k hm ho h n).1 (rd_to k hm ho h n).2 (RWs.to r)
  | _, _, .tupK h r => .tupK (by rw [k]; exact h) (RWs.to r)
  | _, _, .lst h n r => .lst (ho _ _ h n).1 (ho _ _ h n).2 (RWs.to r)
  | _, _, .rl h n r => .rl (rd_to k hm ho h n).1 (rd_to k hm ho h n).2 (RWs.to r)
  | _, _, .rlK h r => .rlK (by rw [k]; exact h) (RWs.to r)
  | _, _, .dic h n r => .dic (ho _ _ h n).1 (ho _ _ h n).2 (RKs.to r)
  | _, _, .ins h n r => .ins (by rw [k]; exact (ho _ _ h n).1) (ho _ _ h n).2 (RFs.to r)
  | _, _, .exc h h2 n n2 r => .exc (by rw [k]; exact (ho _ _ h n).1) (ho _ _ h2 n2).1 (ho _ _ h n).2 (ho _ _ h2 n2).2 (RFs.to r)
theorem RWs.to : ∀ {w : List W} {v : List V}, RWs e w v → RWs e' w v
  | _, _, .nil => .nil
  | _, _, .cons a b => .cons (RW.to a) (RWs.to b)
theorem RKs.to : ∀ {w : List (Key × W)} {v : List (Key × V)}, RKs e w v → RKs e' w v
  | _, _, .nil => .nil
  | _, _, .cons a b => .cons (RW.to a) (RKs.to b)
theorem RFs.to : ∀ {w : List (Str × W)} {v : List (Str × V)}, RFs e w v → RFs e' w v
  | _, _, .nil => .nil
  | _, _, .cons a b => .cons (RW.to a) (RFs.to b)
end
theorem Ce.to {a : Addr} {w : W} (h : Ce e a w) (ha : e'.H a = e.H a) : Ce e' a w := by
  cases h with
  | lst h r => exact .lst (ha.trans h) (RWs.to k hm ho r)
  | dic h r => exact .dic (ha.trans h) (RKs.to k hm ho r)
  | ins h r => exact .ins (by rw [k]; exact ha.trans h) (RFs.to k hm ho r)
end
theorem Gq.two {e e' : En} (g : Gq e e') : ∀ (a : Addr) (u : HO), e.H a = some u → ¬ e.L a → e'.H a = some u ∧ ¬ e'.L a := fun a u h n => ⟨g.keep a u h n, g.off h n⟩
theorem RW.monoq {e e' : En} (g : Gq e e') {w : W} {v : V} (h : RW e w v) : RW e' w v := RW.to g.K (fun _ _ => g.at) g.two h
theorem RWs.monoq {e e' : En} (g : Gq e e') {w : List W} {v : List V} (h : RWs e w v) : RWs e' w v := RWs.to g.K (fun _ _ => g.at) g.two h
theorem RKs.monoq {e e' : En} (g : Gq e e') {w : List (Key × W)} {v : List (Key × V)} (h : RKs e w v) : RKs e' w v := RKs.to g.K (fun _ _ => g.at) g.two h
theorem RFs.monoq {e e' : En} (g : Gq e e') {w : List (Str × W)} {v : List (Str × V)} (h : RFs e w v) : RFs e' w v := RFs.to g.K (fun _ _ => g.at) g.two h
theorem RW.mono {e e' : En} (g : Gr e e') {w : W} {v : V} (h : RW e w v) : RW e' w v := h.monoq g.toGq
theorem RWs.mono {e e' : En} (g : Gr e e') {w : List W} {v : List V} (h : RWs e w v) : RWs e' w v := h.monoq g.toGq
theorem RKs.mono {e e' : En} (g : Gr e e') {w : List (Key × W)} {v : List (Key × V)} (h : RKs e w v) : RKs e' w v := h.monoq g.toGq
theorem RFs.mono {e e' : En} (g : Gr e e') {w : List (Str × W)} {v : List (Str × V)} (h : RFs e w v) : RFs e' w v := h.monoq g.toGq
theorem Ce.mono {e e' : En} (g : Gr e e') {a : Addr} {w : W} (h : Ce e a w) (ha : e'.H a = e.H a) : Ce e' a w := Ce.to g.K (fun _ _ => g.at) g.two h ha
theorem RWs.length {e : En} : ∀ {w : List W} {v : List V}, RWs e w v → w.length = v.length
  | _, _, .nil => rfl
  | _, _, .cons _ b => by rw [List.length_cons, List.length_cons, RWs.length b]
theorem RWs.append {e : En} : ∀ {w w2 : List W} {v v2 : List V}, RWs e w v → RWs e w2 v2 → RWs e (w ++ w2) (v ++ v2)
  | _, _, _, _, .nil, h => h
  | _, _, _, _, .cons a b, h => .cons a (RWs.append b h)
theorem RWs.get {e : En} : ∀ {w : List W} {v : List V} {i : Nat} {x : W}, RWs e w v → w[i]? = some x → ∃ y, v[i]? = some y ∧ RW e x y
  | _, _, 0, _, .cons a b, h => ⟨_, rfl, by cases h; exact a⟩
  | _, _, i + 1, _, .cons a b, h => RWs.get (i := i) b h
theorem RWs.set {e : En} {x : W} {y : V} (r : RW e x y) : ∀ {w : List W} {v : List V} (i : Nat), RWs e w v → RWs e (w.set i x) (v.set i y)
  | _, _, _, .nil => .nil
  | _, _, 0, .cons a b => .cons r b
  | _, _, i + 1, .cons a b => .cons a (RWs.set r i b)
theorem RWs.drop {e : En} : ∀ {w : List W} {v : List V} (n : Nat), RWs e w v → RWs e (w.drop n) (v.drop n)
  | _, _, 0, h => h
  | _, _, _ + 1, .nil => .nil
  | _, _, n + 1, .cons _ b => RWs.drop n b
theorem RWs.take {e : En} : ∀ {w : List W} {v : List V} (n : Nat), RWs e w v → RWs e (w.take n) (v.take n)
  | _, _, 0, _ => .nil
  | _, _, _ + 1, .nil => .nil
  | _, _, n + 1, .cons a b => .cons a (RWs.take n b)
theorem RWs.erase {e : En} : ∀ {w : List W} {v : List V} (n : Nat), RWs e w v → RWs e (w.eraseIdx n) (v.eraseIdx n)
  | _, _, _, .nil => .nil
  | _, _, 0, .cons _ b => b
  | _, _, n + 1, .cons a b => .cons a (RWs.erase n b)
/-! ### slots -/
structure SlO (e : En) (r : Sl) (s : L2.St) : Prop where
  len : r.length = s.length
  at_ : ∀ (i : Nat) (w : W), r[i]? = some (some w) → ∃ v, s[i]? = some (some v) ∧ RW e w v
theorem SlO.monoq {e e' : En} {r : Sl} {s : L2.St} (g : Gq e e') (h : SlO e r s) : SlO e' r s := ⟨h.len, fun i w q => by obtain ⟨v, a, b⟩ := h.at_ i w q; exact ⟨v, a, b.monoq g⟩⟩
theorem SlO.mono {e e' : En} {r : Sl} {s : L2.St} (g : Gr e e') (h : SlO e r s) : SlO e' r s := h.monoq g.toGq
theorem SlO.set {e : En} {r : Sl} {s : L2.St} {i : Nat} {w : W} {v : V} (h : SlO e r s) (q : RW e w v) : SlO e (r.set i (some w)) (s.set i (some v)) := by
  refine ⟨by rw [List.length_set, List.length_set]; exact h.len, fun j x hj => ?_⟩
  rw [List.getElem?_set] at hj
  by_cases c : i = j
  · subst c
    rw [if_pos rfl] at hj
    by_cases l : i < r.length
    · rw [if_pos l] at hj
      cases hj
      exact ⟨v, by rw [List.getElem?_set, if_pos rfl, if_pos (h.len ▸ l)], q⟩
    · rw [if_neg l] at hj; cases hj
  · rw [if_neg c] at hj
    obtain ⟨y, a, b⟩ := h.at_ j x hj
    exact ⟨y, by rw [List.getElem?_set, if_neg c]; exact a, b⟩
theorem SlO.forget {e : En} {r : Sl} {s : L2.St} {i : Nat} {o : Option V} (h : SlO e r s) : SlO e (r.set i none) (s.set i o) := by
  refine ⟨by rw [List.length_set, List.length_set]; exact h.len, fun j x hj => ?_⟩
  rw [List.getElem?_set] at hj
  by_cases c : i = j
  · subst c
    rw [if_pos rfl] at hj
    split at hj <;> cases hj
  · rw [if_neg c] at hj
    obtain ⟨y, a, b⟩ := h.at_ j x hj
    exact ⟨y, by rw [List.getElem?_set, if_neg c]; exact a, b⟩
end J
namespace J
open PySem PySem.Spec L2
abbrev ME := Sl → Z → Res W
abbrev MT := Sl → Z → Res Bool
abbrev MA := Sl → Z → Res (List W)
inductive Fl where
  | nx (r : Sl) | rt (w : W) | bk (r : Sl) | ct (r : Sl)
inductive RS where
  | ok (f : Fl) (z : Z) | ex (x : Exn) (r : Sl) (z : Z) | bad
abbrev MS := Sl → Z → RS
@[simp] def Res.bind {α β : Type} : Res α → (α → Z → Res β) → Res β
  | .ok a z, f => f a z
  | .ex x z, _ => .ex x z
  | .bad, _ => .bad
/-- an exception as it is told -/
def XP (w0 : WX) (e : En) (σ : L2.St) (x : Exn) (z' : Z) : Prop :=
  ∀ mu' H' d us, Gr e ⟨e.K, H', mu', z', e.ex⟩ → SR ⟨e.K, H', mu', z', e.ex⟩ → H' d = some (.xd us) → ¬ En.L ⟨e.K, H', mu', z', e.ex⟩ d → RFs ⟨e.K, H', mu', z', e.ex⟩ x.fs us → w0 (.ref (cA e.K x.C)) (some d) σ H'
def Out {α β : Type} (R : En → α → β → Prop) (w0 : WX) (e : En) (σ : L2.St) (Q : β → Hp → Prop) : Res α → Prop
  | .ok a z' => ∀ mu' H' b, Gr e ⟨e.K, H', mu', z', e.ex⟩ → SR ⟨e.K, H', mu', z', e.ex⟩ → R ⟨e.K, H', mu', z', e.ex⟩ a b → Q b H'
  | .ex x z' => XP w0 e σ x z'
  | .bad => False
def tOf {α β : Type} (R : En → α → β → Prop) (K : PySem.W.Frag) (w0 : WX) (m : Sl → Z → Res α) : L2.St → Hp → (β → Hp → Prop) → Prop :=
  fun σ H Q => ∃ mu ex r z, SR ⟨K, H, mu, z, ex⟩ ∧ SlO ⟨K, H, mu, z, ex⟩ r σ ∧ Out R w0 ⟨K, H, mu, z, ex⟩ σ Q (m r z)
abbrev RB (_ : En) (a b : Bool) : Prop := a = b
abbrev tE (K : PySem.W.Frag) (w0 : WX) (m : ME) : TE := tOf RW K w0 m
abbrev tT (K : PySem.W.Frag) (w0 : WX) (m : MT) : TT := tOf RB K w0 m
abbrev tA (K : PySem.W.Frag) (w0 : WX) (m : MA) : TA := tOf RWs K w0 m
theorem XP.from {w0 : WX} {e e1 : En} {σ : L2.St} {x : Exn} {z' : Z} (g : Gr e e1) (k2 : e1.ex = e.ex) (h : XP w0 e σ x z') : XP w0 e1 σ x z' := by
  intro mu' H' d us g1 s1 hd nl r
  have k : e1.K = e.K := g.K
  rw [k, k2] at g1 s1 nl r
  rw [k]
  exact h mu' H' d us (g.trans g1) s1 hd nl r
section
variable {α β γ δ : Type} {R : En → α → β → Prop} {R2 : En → γ → δ → Prop} {w0 : WX} {e e1 : En} {σ : L2.St}
theorem Out.from {Q : β → Hp → Prop} (g : Gr e e1) (k2 : e1.ex = e.ex) {m : Res α} (h : Out R w0 e σ Q m) : Out R w0 e1 σ Q m := by
  cases m with
  | bad => exact h
  | ex x z => exact XP.from g k2 h
  | ok a z =>
    intro mu' H' b g1 s1 r
    have k : e1.K = e.K := g.K
    rw [k, k2] at g1 s1 r
    exact h mu' H' b (g.trans g1) s1 r
theorem Out.mono {Q Q' : β → Hp → Prop} (h : ∀ b H, Q b H → Q' b H) {m : Res α} (o : Out R w0 e σ Q m) : Out R w0 e σ Q' m := by
  cases m with
  | bad => exact o
  | ex x z => exact o
  | ok a z => exact fun mu' H' b g s r => h _ _ (o mu' H' b g s r)
/-- what is known behind a part -/
def Nxt (R : En → α → β → Prop) (R2 : En → γ → δ → Prop) (w0 : WX) (e : En) (σ : L2.St) (Q : δ → Hp → Prop) (f : α → Z → Res γ) (b : β) (H1 : Hp) : Prop :=
  ∃ mu1 z1 a, Gr e ⟨e.K, H1, mu1, z1, e.ex⟩ ∧ SR ⟨e.K, H1, mu1, z1, e.ex⟩ ∧ R ⟨e.K, H1, mu1, z1, e.ex⟩ a b ∧ Out R2 w0 ⟨e.K, H1, mu1, z1, e.ex⟩ σ Q (f a z1)
theorem Out.bind {Q : δ → Hp → Prop} {f : α → Z → Res γ} {m : Res α} (h : Out R2 w0 e σ Q (m.bind f)) : Out R w0 e σ (Nxt R R2 w0 e σ Q f) m := by
  cases m with
  | bad => exact h
  | ex x z => exact h
  | ok a z => exact fun mu' H' b g s r => ⟨mu', z, a, g, s, r, Out.from g rfl h⟩
theorem tOf.go {K : PySem.W.Frag} {m : Sl → Z → Res α} {f : α → Z → Res γ} {H : Hp} {Q : δ → Hp → Prop} {mu ex : List Addr} {r : Sl} {z : Z} (s : SR ⟨K, H, mu, z, ex⟩) (sl : SlO ⟨K, H, mu, z, ex⟩ r σ) (o : Out R2 w0 ⟨K, H, mu, z, ex⟩ σ Q ((m r z).bind f)) :
    tOf R K w0 m σ H (Nxt R R2 w0 ⟨K, H, mu, z, ex⟩ σ Q f) := ⟨mu, ex, r, z, s, sl, o.bind⟩
end
theorem tOf.imp {α β : Type} {R : En → α → β → Prop} {K : PySem.W.Frag} {w0 : WX} {m : Sl → Z → Res α} {σ : L2.St} {H : Hp} {Q Q' : β → Hp → Prop} (h : tOf R K w0 m σ H Q) (k : ∀ b H, Q b H → Q' b H) : tOf R K w0 m σ H Q' := by
  obtain ⟨mu, ex, r, z, s, sl, o⟩ := h
  exact ⟨mu, ex, r, z, s, sl, o.mono k⟩
/-! ### the judgements -/
structure JE (X : Cx) (w0 : WX) (e : Expr) (m : ME) : Prop where
  pe : PE X e (tE X.K w0 m)
structure JT (X : Cx) (w0 : WX) (e : Expr) (m : MT) : Prop where
  pt : PT X e (tT X.K w0 m)
structure JW (X : Cx) (w0 : WX) (e : Expr) (m : MT) : Prop where
  pw : PW X e (tT X.K w0 m)
structure JA (X : Cx) (w0 : WX) (es : List Expr) (m : MA) : Prop where
  pa : PA X es (tA X.K w0 m)
def OutS (w0 : WX) (e : En) (D : Ends) : RS → Prop
  | .ok (.nx r) z' => ∀ mu' H' σ', Gr e ⟨e.K, H', mu', z', e.ex⟩ → SR ⟨e.K, H', mu', z', e.ex⟩ → SlO ⟨e.K, H', mu', z', e.ex⟩ r σ' → D.nx σ' H'
  | .ok (.bk r) z' => ∀ mu' H' σ', Gr e ⟨e.K, H', mu', z', e.ex⟩ → SR ⟨e.K, H', mu', z', e.ex⟩ → SlO ⟨e.K, H', mu', z', e.ex⟩ r σ' → D.bk σ' H'
  | .ok (.ct r) z' => ∀ mu' H' σ', Gr e ⟨e.K, H', mu', z', e.ex⟩ → SR ⟨e.K, H', mu', z', e.ex⟩ → SlO ⟨e.K, H', mu', z', e.ex⟩ r σ' → D.ct σ' H'
  | .ok (.rt w) z' => ∀ mu' H' v, Gr e ⟨e.K, H', mu', z', e.ex⟩ → SR ⟨e.K, H', mu', z', e.ex⟩ → RW ⟨e.K, H', mu', z', e.ex⟩ w v → D.rt v H'
  | .ex x r z' => ∀ mu' H' σ' d us, Gr e ⟨e.K, H', mu', z', e.ex⟩ → SR ⟨e.K, H', mu', z', e.ex⟩ → SlO ⟨e.K, H', mu', z', e.ex⟩ r σ' → H' d = some (.xd us) → ¬ En.L ⟨e.K, H', mu', z', e.ex⟩ d → RFs ⟨e.K, H', mu', z', e.ex⟩ x.fs us → w0 (.ref (cA e.K x.C)) (some d) σ' H'
  | .bad => False
def tS (K : PySem.W.Frag) (w0 : WX) (m : MS) : TS := fun D σ H => ∃ mu ex r z, SR ⟨K, H, mu, z, ex⟩ ∧ SlO ⟨K, H, mu, z, ex⟩ r σ ∧ OutS w0 ⟨K, H, mu, z, ex⟩ D (m r z)
structure JS (X : Cx) (w0 : WX) (st : Stmt) (m : MS) : Prop where
  ps : PS X st (tS X.K w0 m)
structure JB (X : Cx) (w0 : WX) (st : List Stmt) (m : MS) : Prop where
  ps : PSs X st (tS X.K w0 m)
theorem OutS.from {w0 : WX} {e e1 : En} {D : Ends} (g : Gr e e1) (k2 : e1.ex = e.ex) {m : RS} (h : OutS w0 e D m) : OutS w0 e1 D m := by
  have k : e1.K = e.K := g.K
  cases m with
  | bad => exact h
  | ex x r z =>
    intro mu' H' σ' d us g1 s1 l1
    rw [k, k2] at g1 s1 l1
    rw [k, k2]
    exact h mu' H' σ' d us (g.trans g1) s1 l1
  | ok f z =>
    cases f with
    | nx r => intro mu' H' σ' g1 s1 l1; rw [k, k2] at g1 s1 l1; exact h mu' H' σ' (g.trans g1) s1 l1
    | bk r => intro mu' H' σ' g1 s1 l1; rw [k, k2] at g1 s1 l1; exact h mu' H' σ' (g.trans g1) s1 l1
    | ct r => intro mu' H' σ' g1 s1 l1; rw [k, k2] at g1 s1 l1; exact h mu' H' σ' (g.trans g1) s1 l1
    | rt r => intro mu' H' σ' g1 s1 l1; rw [k, k2] at g1 s1 l1; exact h mu' H' σ' (g.trans g1) s1 l1
/-- weaken a reading -/
theorem PE.of {X : Cx} {e : Expr} {t t' : TE} (h : PE X e t) (k : ∀ σ H Q, t' σ H Q → t σ H Q) : PE X e t' := ⟨fun pins s σ H Q I q => h.run pins s σ H Q I (k _ _ _ q)⟩
theorem PT.of {X : Cx} {e : Expr} {t t' : TT} (h : PT X e t) (k : ∀ σ H Q, t' σ H Q → t σ H Q) : PT X e t' := ⟨fun pins s σ H Q I q => h.run pins s σ H Q I (k _ _ _ q)⟩
theorem PW.of {X : Cx} {e : Expr} {t t' : TT} (h : PW X e t) (k : ∀ σ H Q, t' σ H Q → t σ H Q) : PW X e t' := ⟨fun w pins s σ H Q I q => h.run w pins s σ H Q I (k _ _ _ q)⟩
theorem PA.of {X : Cx} {e : List Expr} {t t' : TA} (h : PA X e t) (k : ∀ σ H Q, t' σ H Q → t σ H Q) : PA X e t' := ⟨fun p pins s σ H Q I q => h.run p pins s σ H Q I (k _ _ _ q)⟩
theorem PS.of {X : Cx} {e : Stmt} {t t' : TS} (h : PS X e t) (k : ∀ D σ H, t' D σ H → t D σ H) : PS X e t' := ⟨fun pins s σ H D I q => h.run pins s σ H D I (k _ _ _ q)⟩
theorem PSs.of {X : Cx} {e : List Stmt} {t t' : TS} (h : PSs X e t) (k : ∀ D σ H, t' D σ H → t D σ H) : PSs X e t' := ⟨fun pins s σ H D I q => h.run pins s σ H D I (k _ _ _ q)⟩
/-! ### heaps -/
section
variable {e : En} {p : Addr} {o : HO}
theorem SR.mem (s : SR e) {a : Addr} (l : e.L a) : ∃ o, e.H a = some o := by
  rcases l with ⟨n, w, h, _⟩ | h
  · exact s.there a (List.mem_of_getElem? h)
  · exact (s.thex a h).2
theorem SR.off (s : SR e) (h : e.H p = none) : p ∉ e.mu := fun m => by
  obtain ⟨o, q⟩ := s.there p m
  rw [h] at q; cases q
theorem SR.offL (s : SR e) (h : e.H p = none) : ¬ e.L p := fun l => by
  obtain ⟨o, q⟩ := s.mem l
  rw [h] at q; cases q
theorem SR.offx (s : SR e) (h : e.H p = none) : p ∉ e.ex := fun l => s.offL h (.inr l)
theorem ne_new {H : Hp} {a p : Addr} {u : HO} (q : H a = some u) (h : H p = none) : a ≠ p := fun z => by rw [z, h] at q; cases q
/-- something new that never changes -/
abbrev En.put (e : En) (p : Addr) (o : HO) : En := ⟨e.K, upd e.H p o, e.mu, e.z, e.ex⟩
theorem SR.gput (s : SR e) (h : e.H p = none) : Gr e (e.put p o) :=
  ⟨⟨rfl, ⟨[], rfl⟩, ⟨[], by simp⟩, fun _ l => .inl l, fun a u q _ => by show upd e.H p o a = some u; rw [upd_ne (ne_new q h)]; exact q⟩, fun a m => upd_ne (fun z => s.offx h (z ▸ m))⟩
/-- a heap that only grows -/
theorem SR.ggrow (s : SR e) {H' : Hp} (hk : ∀ a o, e.H a = some o → H' a = some o) : Gr e ⟨e.K, H', e.mu, e.z, e.ex⟩ :=
  ⟨⟨rfl, ⟨[], rfl⟩, ⟨[], by simp⟩, fun _ l => .inl l, fun a u q _ => hk a u q⟩, fun a m => by
    obtain ⟨_, o, q⟩ := s.thex a m
    exact (hk a o q).trans q.symm⟩
theorem SR.grow (s : SR e) {H' : Hp} (hk : ∀ a o, e.H a = some o → H' a = some o) : SR ⟨e.K, H', e.mu, e.z, e.ex⟩ := by
  refine ⟨s.len, s.nd, fun a m => ?_, fun a m => ⟨(s.thex a m).1, ?_⟩, fun n w a hz hm => ?_⟩
  · obtain ⟨u, q⟩ := s.there a m
    exact ⟨u, hk a u q⟩
  · obtain ⟨_, u, q⟩ := s.thex a m
    exact ⟨u, hk a u q⟩
  · obtain ⟨u, q⟩ := s.there a (List.mem_of_getElem? hm)
    exact (s.cell n w a hz hm).mono (s.ggrow hk) ((hk a u q).trans q.symm)
theorem SR.put (s : SR e) (h : e.H p = none) : SR (e.put p o) := by
  refine ⟨s.len, s.nd, fun a m => ?_, fun a m => ⟨(s.thex a m).1, ?_⟩, fun n w a hz hm => ?_⟩
  · obtain ⟨u, q⟩ := s.there a m
    exact ⟨u, by show upd e.H p o a = some u; rw [upd_ne (ne_new q h)]; exact q⟩
  · obtain ⟨_, u, q⟩ := s.thex a m
    exact ⟨u, by show upd e.H p o a = some u; rw [upd_ne (ne_new q h)]; exact q⟩
  · refine (s.cell n w a hz hm).mono (s.gput h) ?_
    exact upd_ne (fun z => s.off h (z ▸ List.mem_of_getElem? hm))
/-- something new that may change and has no number -/
abbrev En.own (e : En) (p : Addr) (o : HO) : En := ⟨e.K, upd e.H p o, e.mu, e.z, p :: e.ex⟩
theorem SR.own (s : SR e) (h : e.H p = none) : SR (e.own p o) := by
  have t := s.put (o := o) h
  refine ⟨t.len, t.nd, t.there, fun a m => ?_, fun n w a hz hm => ?_⟩
  · rcases List.mem_cons.mp m with q | q
    · rw [q]; exact ⟨s.off h, o, upd_same⟩
    · exact t.thex a q
  · have c := s.cell n w a hz hm
    have g : ∀ b u, e.H b = some u → ¬ e.L b → upd e.H p o b = some u ∧ ¬ (e.own p o).L b := fun b u q n => by
      refine ⟨by rw [upd_ne (ne_new q h)]; exact q, fun l => ?_⟩
      rcases l with l | l
      · exact n (.inl l)
      · rcases List.mem_cons.mp l with z | z
        · rw [z, h] at q; cases q
        · exact n (.inr z)
    have ha : upd e.H p o a = e.H a := upd_ne (fun z => s.off h (z ▸ List.mem_of_getElem? hm))
    exact Ce.to (e := e) (e' := e.own p o) rfl (fun n a h => h) g c ha
theorem SR.gown (s : SR e) (h : e.H p = none) : Gr e (e.own p o) := by
  refine ⟨⟨rfl, ⟨[p], rfl⟩, ⟨[], by simp⟩, fun a l => ?_, fun a u q _ => by show upd e.H p o a = some u; rw [upd_ne (ne_new q h)]; exact q⟩, fun a m => upd_ne (fun z => s.offx h (z ▸ m))⟩
  rcases l with l | l
  · exact .inl (.inl l)
  · rcases List.mem_cons.mp l with z | z
    · rw [z]; exact .inr h
    · exact .inl (.inr z)
/-- what has no number is changed -/
theorem SR.wrx (s : SR e) (hp : p ∈ e.ex) : SR (e.put p o) ∧ ∀ b u, e.H b = some u → ¬ e.L b → (e.put p o).H b = some u ∧ ¬ (e.put p o).L b := by
  have two : ∀ b u, e.H b = some u → ¬ e.L b → (e.put p o).H b = some u ∧ ¬ (e.put p o).L b := fun b u q n => ⟨by
    have ne : b ≠ p := fun z => n (.inr (z ▸ hp))
    show upd e.H p o b = some u
    rw [upd_ne ne]; exact q, n⟩
  refine ⟨⟨s.len, s.nd, fun a m => ?_, fun a m => ⟨(s.thex a m).1, ?_⟩, fun n w a hz hm => ?_⟩, two⟩
  · by_cases q : a = p
    · rw [q]; exact ⟨o, upd_same⟩
    · obtain ⟨u, hu⟩ := s.there a m
      exact ⟨u, by show upd e.H p o a = some u; rw [upd_ne q]; exact hu⟩
  · by_cases q : a = p
    · rw [q]; exact ⟨o, upd_same⟩
    · obtain ⟨_, u, hu⟩ := s.thex a m
      exact ⟨u, by show upd e.H p o a = some u; rw [upd_ne q]; exact hu⟩
  · have ne : a ≠ p := fun z => (s.thex p hp).1 (z ▸ List.mem_of_getElem? hm)
    exact Ce.to (e := e) (e' := e.put p o) rfl (fun _ _ h => h) two (s.cell n w a hz hm) (upd_ne ne)
/-- from an owned thing to a frozen one, to a numbered one -/
abbrev En.froz (e : En) (x : List Addr) : En := ⟨e.K, e.H, e.mu, e.z, x⟩
abbrev En.num (e : En) (p : Addr) (x : List Addr) (w : W) : En := ⟨e.K, e.H, e.mu ++ [p], e.z ++ [some w], x⟩
/-- something new that may change -/
abbrev En.add (e : En) (p : Addr) (o : HO) (w : W) : En := ⟨e.K, upd e.H p o, e.mu ++ [p], e.z ++ [some w], e.ex⟩
theorem Lv.num {mu : List Addr} {z : Z} (hl : mu.length = z.length) {w : W} {a p : Addr} (l : Lv (mu ++ [p]) (z ++ [some w]) a) : Lv mu z a ∨ a = p := by
  obtain ⟨n, x, h1, h2⟩ := l
  rcases Nat.lt_or_ge n mu.length with q | q
  · have h1' : mu[n]? = some a := by rw [← List.getElem?_append_left (l₂ := [p]) q]; exact h1
    have h2' : z[n]? = some (some x) := by rw [← List.getElem?_append_left (l₂ := [some w]) (hl ▸ q)]; exact h2
    exact .inl ⟨n, x, h1', h2'⟩
  · have h1' : ([p] : List Addr)[n - mu.length]? = some a := by rw [← List.getElem?_append_right (l₁ := mu) q]; exact h1
    have := List.mem_of_getElem? h1'
    exact .inr (by simpa using this)
theorem Lv.old {mu : List Addr} {z : Z} {w : W} {a p : Addr} (l : Lv mu z a) : Lv (mu ++ [p]) (z ++ [some w]) a := by
  obtain ⟨n, x, h1, h2⟩ := l
  have q1 : n < mu.length := by
    rcases Nat.lt_or_ge n mu.length with q | q
    · exact q
    · rw [List.getElem?_eq_none q] at h1; cases h1
  have q2 : n < z.length := by
    rcases Nat.lt_or_ge n z.length with q | q
    · exact q
    · rw [List.getElem?_eq_none q] at h2; cases h2
  exact ⟨n, x, by rw [List.getElem?_append_left q1]; exact h1, by rw [List.getElem?_append_left q2]; exact h2⟩
theorem Lv.new {mu : List Addr} {z : Z} (hl : mu.length = z.length) {w : W} {p : Addr} : Lv (mu ++ [p]) (z ++ [some w]) p :=
  ⟨mu.length, w, by rw [List.getElem?_append_right (Nat.le_refl _), Nat.sub_self]; rfl, by rw [hl, List.getElem?_append_right (Nat.le_refl _), Nat.sub_self]; rfl⟩
theorem mem_at {α : Type} {l : List α} {n : Nat} {a b : α} (h : (l ++ [b])[n]? = some a) : (n < l.length ∧ l[n]? = some a) ∨ (n = l.length ∧ a = b) := by
  rcases Nat.lt_or_ge n l.length with q | q
  · exact .inl ⟨q, by rw [← List.getElem?_append_left (l₂ := [b]) q]; exact h⟩
  · have h1 : ([b] : List α)[n - l.length]? = some a := by rw [← List.getElem?_append_right (l₁ := l) q]; exact h
    rcases Nat.eq_zero_or_pos (n - l.length) with z | z
    · rw [z] at h1
      exact .inr ⟨by omega, by simpa using h1.symm⟩
    · rw [List.getElem?_eq_none (by simp only [List.length_cons, List.length_nil]; omega)] at h1; cases h1
/-- an owned thing becomes frozen -/
theorem SR.froz (s : SR e) {x : List Addr} (hx : e.ex = p :: x) : SR (e.froz x) := by
  refine ⟨s.len, s.nd, s.there, fun a m => s.thex a (by rw [hx]; exact List.mem_cons_of_mem _ m), fun n w a hz hm => ?_⟩
  exact Ce.to (e := e) (e' := e.froz x) rfl (fun _ _ h => h) (fun b u q n => ⟨q, fun l => n (by
    rcases l with l | l
    · exact .inl l
    · exact .inr (by rw [hx]; exact List.mem_cons_of_mem _ l))⟩) (s.cell n w a hz hm) rfl
/-- an owned thing is numbered -/
theorem num_off {x : List Addr} {w : W} (s : SR e) (hx : e.ex = p :: x) : ∀ b u, e.H b = some u → ¬ e.L b → e.H b = some u ∧ ¬ (e.num p x w).L b := fun b u q n => ⟨q, fun l => by
  rcases l with l | l
  · rcases Lv.num s.len l with z | z
    · exact n (.inl z)
    · exact n (.inr (by rw [hx, z]; exact List.mem_cons_self ..))
  · exact n (.inr (by rw [hx]; exact List.mem_cons_of_mem _ l))⟩
theorem at_num {mu : List Addr} {n : Nat} {a p : Addr} (h : mu[n]? = some a) : (mu ++ [p])[n]? = some a := by
  have q1 : n < mu.length := by
    rcases Nat.lt_or_ge n mu.length with q | q
    · exact q
    · rw [List.getElem?_eq_none q] at h; cases h
  rw [List.getElem?_append_left q1]; exact h
theorem SR.num (s : SR e) {x : List Addr} {w : W} (hx : e.ex = p :: x) (hn : p ∉ x) (c : Ce e p w) : SR (e.num p x w) := by
  have hp := s.thex p (by rw [hx]; exact List.mem_cons_self ..)
  refine ⟨by show (e.mu ++ [p]).length = (e.z ++ [some w]).length; rw [List.length_append, List.length_append, s.len]; rfl, ?_, fun a m => ?_, fun a m => ?_, fun n y a hz hm => ?_⟩
  · refine List.nodup_append.mpr ⟨s.nd, by simp, fun a ha b hb => ?_⟩
    have : b = p := by simpa using hb
    rw [this]
    intro z
    exact hp.1 (z ▸ ha)
  · rcases List.mem_append.mp (show a ∈ e.mu ++ [p] from m) with q | q
    · exact s.there a q
    · have : a = p := by simpa using q
      rw [this]
      exact hp.2
  · have q := s.thex a (by rw [hx]; exact List.mem_cons_of_mem _ m)
    refine ⟨fun z => ?_, q.2⟩
    rcases List.mem_append.mp (show a ∈ e.mu ++ [p] from z) with z | z
    · exact q.1 z
    · have : a = p := by simpa using z
      exact hn (this ▸ m)
  · rcases mem_at (show (e.mu ++ [p])[n]? = some a from hm) with ⟨q, h1⟩ | ⟨q, h1⟩
    · rcases mem_at (show (e.z ++ [some w])[n]? = some (some y) from hz) with ⟨_, h2⟩ | ⟨q2, _⟩
      · exact Ce.to (e := e) (e' := e.num p x w) rfl (fun _ _ h => at_num h) (num_off s hx) (s.cell n y a h2 h1) rfl
      · rw [← s.len] at q2; omega
    · rcases mem_at (show (e.z ++ [some w])[n]? = some (some y) from hz) with ⟨q2, _⟩ | ⟨_, h2⟩
      · rw [← s.len] at q2; omega
      · cases h2
        rw [h1]
        exact Ce.to (e := e) (e' := e.num p x w) rfl (fun _ _ h => at_num h) (num_off s hx) c rfl
/-- what may change is changed -/
abbrev En.wr (e : En) (n : Nat) (a : Addr) (o : HO) (w : W) : En := ⟨e.K, upd e.H a o, e.mu, e.z.set n (some w), e.ex⟩
theorem Lv.wr {n : Nat} {a b : Addr} {w : W} (hn : Lv e.mu e.z a) (hm : e.mu[n]? = some a) (l : Lv e.mu (e.z.set n (some w)) b) : Lv e.mu e.z b := by
  obtain ⟨k, x, h1, h2⟩ := l
  rw [List.getElem?_set] at h2
  by_cases c : n = k
  · subst c
    rw [hm] at h1
    cases h1
    exact hn
  · rw [if_neg c] at h2
    exact ⟨k, x, h1, h2⟩
theorem SR.gwr (s : SR e) {n : Nat} {a : Addr} {w w' : W} (hz : e.z[n]? = some (some w')) (hm : e.mu[n]? = some a) : Gr e (e.wr n a o w) :=
  ⟨⟨rfl, ⟨[], rfl⟩, ⟨[], by simp⟩, fun b l => .inl (by
    rcases l with l | l
    · exact .inl (Lv.wr ⟨n, w', hm, hz⟩ hm l)
    · exact .inr l), fun b u q nl => by
    have ne : b ≠ a := fun z => nl (by rw [z]; exact .inl ⟨n, w', hm, hz⟩)
    show upd e.H a o b = some u
    rw [upd_ne ne]; exact q⟩, fun b m => upd_ne (fun z => (s.thex b m).1 (by rw [z]; exact List.mem_of_getElem? hm))⟩
theorem nodup_at {l : List Addr} (h : l.Nodup) {i j : Nat} {a : Addr} (hi : l[i]? = some a) (hj : l[j]? = some a) : i = j := by
  have li : i < l.length := by
    rcases Nat.lt_or_ge i l.length with q | q
    · exact q
    · rw [List.getElem?_eq_none q] at hi; cases hi
  exact (List.getElem?_inj li h).mp (hi.trans hj.symm)
theorem SR.wr (s : SR e) {n : Nat} {a : Addr} {w w' : W} (hz : e.z[n]? = some (some w')) (hm : e.mu[n]? = some a) (c : Ce (e.wr n a o w) a w) : SR (e.wr n a o w) := by
  refine ⟨by show e.mu.length = (e.z.set n (some w)).length; rw [List.length_set]; exact s.len, s.nd, fun b m => ?_, fun b m => ⟨(s.thex b m).1, ?_⟩, fun k x b hk hb => ?_⟩
  · by_cases q : b = a
    · rw [q]; exact ⟨o, upd_same⟩
    · obtain ⟨u, hu⟩ := s.there b m
      exact ⟨u, by show upd e.H a o b = some u; rw [upd_ne q]; exact hu⟩
  · have q : b ≠ a := fun z => (s.thex b m).1 (by rw [z]; exact List.mem_of_getElem? hm)
    obtain ⟨_, u, hu⟩ := s.thex b m
    exact ⟨u, by show upd e.H a o b = some u; rw [upd_ne q]; exact hu⟩
  · have hk' : (e.z.set n (some w))[k]? = some (some x) := hk
    rw [List.getElem?_set] at hk'
    by_cases q : n = k
    · subst q
      have hb' : e.mu[n]? = some b := hb
      rw [hm] at hb'
      cases hb'
      rw [if_pos rfl] at hk'
      split at hk'
      · cases hk'; exact c
      · cases hk'
    · rw [if_neg q] at hk'
      refine (s.cell k x b hk' hb).mono (s.gwr hz hm) ?_
      exact upd_ne (fun z => q (nodup_at s.nd hm (z ▸ hb)))
end
end J
namespace J
open PySem PySem.Spec L2
/-! ### new things that are the asker's own -/
def OutO (w0 : WX) (e : En) (σ : L2.St) (Q : VK) : Res W → Prop
  | .ok w z' => ∀ mu' H' a, e.H a = none → Gr e ⟨e.K, H', mu', z', e.ex⟩ → SR ⟨e.K, H', mu', z', a :: e.ex⟩ → Ce ⟨e.K, H', mu', z', a :: e.ex⟩ a w → Q (.ref a) H'
  | .ex x z' => XP w0 e σ x z'
  | .bad => False
def tO (K : PySem.W.Frag) (w0 : WX) (m : ME) : TE := fun σ H Q => ∃ mu ex r z, SR ⟨K, H, mu, z, ex⟩ ∧ SlO ⟨K, H, mu, z, ex⟩ r σ ∧ OutO w0 ⟨K, H, mu, z, ex⟩ σ Q (m r z)
structure JO (X : Cx) (w0 : WX) (e : Expr) (m : ME) : Prop where
  pe : PE X e (tO X.K w0 m)
section
variable {α β : Type} {R : En → α → β → Prop} {w0 : WX} {e e1 : En} {σ : L2.St}
theorem Gr.none {e e1 : En} (g : Gr e e1) {a : Addr} (h : e1.H a = none) (s : SR e1) : e.H a = none := by
  cases q : e.H a with
  | none => rfl
  | some o =>
    by_cases l : e.L a
    · rcases l with ⟨n, w, h1, h2⟩ | l
      · obtain ⟨u, hu⟩ := s.there a (List.mem_of_getElem? (g.at h1))
        rw [h] at hu; cases hu
      · rw [← g.keepx a l, h] at q; cases q
    · rw [g.keep a o q l] at h; cases h
theorem OutO.from {Q : VK} (g : Gr e e1) (k2 : e1.ex = e.ex) (s1 : SR e1) {m : Res W} (h : OutO w0 e σ Q m) : OutO w0 e1 σ Q m := by
  cases m with
  | bad => exact h
  | ex x z => exact XP.from g k2 h
  | ok w z =>
    intro mu' H' a f g1 s2 c
    have k : e1.K = e.K := g.K
    have f' := g.none f s1
    rw [k, k2] at g1 s2 c
    exact h mu' H' a f' (g.trans g1) s2 c
def NxtO (R : En → α → β → Prop) (w0 : WX) (e : En) (σ : L2.St) (Q : VK) (f : α → Z → Res W) (b : β) (H1 : Hp) : Prop :=
  ∃ mu1 z1 a, Gr e ⟨e.K, H1, mu1, z1, e.ex⟩ ∧ SR ⟨e.K, H1, mu1, z1, e.ex⟩ ∧ R ⟨e.K, H1, mu1, z1, e.ex⟩ a b ∧ OutO w0 ⟨e.K, H1, mu1, z1, e.ex⟩ σ Q (f a z1)
theorem OutO.bind {Q : VK} {f : α → Z → Res W} {m : Res α} (h : OutO w0 e σ Q (m.bind f)) : Out R w0 e σ (NxtO R w0 e σ Q f) m := by
  cases m with
  | bad => exact h
  | ex x z => exact h
  | ok a z => exact fun mu' H' b g s r => ⟨mu', z, a, g, s, r, OutO.from g rfl s h⟩
theorem tOf.goO {K : PySem.W.Frag} {m : Sl → Z → Res α} {f : α → Z → Res W} {H : Hp} {Q : VK} {mu ex : List Addr} {r : Sl} {z : Z} (s : SR ⟨K, H, mu, z, ex⟩) (sl : SlO ⟨K, H, mu, z, ex⟩ r σ) (o : OutO w0 ⟨K, H, mu, z, ex⟩ σ Q ((m r z).bind f)) :
    tOf R K w0 m σ H (NxtO R w0 ⟨K, H, mu, z, ex⟩ σ Q f) := ⟨mu, ex, r, z, s, sl, o.bind⟩
end
/-- frozen -/
theorem froz_rw {K : PySem.W.Frag} {H' : Hp} {mu' ex : List Addr} {z' : Z} {a : Addr} {w : W} (na : a ∉ ex) (s : SR ⟨K, H', mu', z', a :: ex⟩) (c : Ce ⟨K, H', mu', z', a :: ex⟩ a w) : RW ⟨K, H', mu', z', ex⟩ w (.ref a) := by
  have hn : ¬ En.L ⟨K, H', mu', z', ex⟩ a := fun l => by
    rcases l with ⟨n, y, h1, h2⟩ | l
    · exact (s.thex a (List.mem_cons_self ..)).1 (List.mem_of_getElem? h1)
    · exact na l
  have ho : ∀ (b : Addr) (u : HO), H' b = some u → ¬ En.L ⟨K, H', mu', z', a :: ex⟩ b → H' b = some u ∧ ¬ En.L ⟨K, H', mu', z', ex⟩ b := fun b u q n => ⟨q, fun l => n (by
    rcases l with l | l
    · exact .inl l
    · exact .inr (List.mem_cons_of_mem _ l))⟩
  cases c with
  | lst h r => exact .lst h hn (RWs.to (e := ⟨K, H', mu', z', a :: ex⟩) (e' := ⟨K, H', mu', z', ex⟩) rfl (fun _ _ h => h) ho r)
  | dic h r => exact .dic h hn (RKs.to (e := ⟨K, H', mu', z', a :: ex⟩) (e' := ⟨K, H', mu', z', ex⟩) rfl (fun _ _ h => h) ho r)
  | ins h r => exact .ins h hn (RFs.to (e := ⟨K, H', mu', z', a :: ex⟩) (e' := ⟨K, H', mu', z', ex⟩) rfl (fun _ _ h => h) ho r)
theorem JO.je {X : Cx} {w0 : WX} {e : Expr} {m : ME} (h : JO X w0 e m) : JE X w0 e m := by
  refine ⟨PE.of h.pe fun σ H Q q => ?_⟩
  obtain ⟨mu, ex, r, z, s, sl, o⟩ := q
  refine ⟨mu, ex, r, z, s, sl, ?_⟩
  cases hm : m r z with
  | bad => rw [hm] at o; exact o
  | ex x z1 => rw [hm] at o; exact o
  | ok w z1 =>
    rw [hm] at o
    intro mu' H' a f g s' c
    exact o mu' H' (.ref a) g (SR.froz (e := ⟨X.K, H', mu', z1, a :: ex⟩) s' rfl) (froz_rw (s.offx f) s' c)
/-- numbered -/
def mNum (m : ME) : ME := fun r z => (m r z).bind fun w z => .ok (.ob z.length) (z ++ [some w])
theorem JO.num {X : Cx} {w0 : WX} {e : Expr} {m : ME} (h : JO X w0 e m) : JE X w0 e (mNum m) := by
  refine ⟨PE.of h.pe fun σ H Q q => ?_⟩
  obtain ⟨mu, ex, r, z, s, sl, o⟩ := q
  refine ⟨mu, ex, r, z, s, sl, ?_⟩
  unfold mNum at o
  cases hm : m r z with
  | bad => rw [hm] at o; exact o
  | ex x z1 => rw [hm] at o; exact o
  | ok w z1 =>
    rw [hm] at o
    intro mu' H' a f g s' c
    have na := s.offx f
    refine o (mu' ++ [a]) H' (.ref a) ⟨⟨rfl, ⟨[], rfl⟩, ?_, fun b l => ?_, g.keep⟩, g.keepx⟩ (SR.num (e := ⟨X.K, H', mu', z1, a :: ex⟩) s' rfl na c) ?_
    · obtain ⟨t, ht⟩ := g.pre
      exact ⟨t ++ [a], by rw [show mu' = mu ++ t from ht]; simp⟩
    · rcases l with l | l
      · rcases Lv.num s'.len l with l | l
        · exact g.live b (.inl l)
        · rw [l]; exact .inr f
      · exact .inl (.inr l)
    · refine .ob ?_
      show (mu' ++ [a])[z1.length]? = some a
      have hl : mu'.length = z1.length := s'.len
      rw [← hl, List.getElem?_append_right (Nat.le_refl _), Nat.sub_self]; rfl
/-! ### parts -/
section
variable {X : Cx} {w0 : WX} {e a b c : Expr} {es : List Expr} {pos : Pos} {ma mb mc : ME} {mt mu' : MT}
def mVar (i : Nat) : ME := fun r z => match r[i]? with
  | some (some w) => .ok w z
  | _ => .bad
def mC (w : W) : ME := fun _ z => .ok w z
theorem je_var {i : Nat} {t : Expr} (h : PE X t (tVar i)) : JE X w0 t (mVar i) := by
  refine ⟨PE.of h fun σ H Q q => ?_⟩
  obtain ⟨mu, ex, r, z, s, sl, o⟩ := q
  unfold mVar at o
  cases hr : r[i]? with
  | none => rw [hr] at o; exact o.elim
  | some y =>
    cases y with
    | none => rw [hr] at o; exact o.elim
    | some w =>
      rw [hr] at o
      obtain ⟨v, hv, rv⟩ := sl.at_ i w hr
      exact ⟨v, hv, o mu H v (Gr.refl _) s rv⟩
theorem je_c {v : V} {w : W} {t : Expr} (h : PE X t (tC v)) (hw : ∀ e, RW e w v) : JE X w0 t (mC w) := by
  refine ⟨PE.of h fun σ H Q q => ?_⟩
  obtain ⟨mu, ex, r, z, s, sl, o⟩ := q
  exact o mu H v (Gr.refl _) s (hw _)
theorem je_int {i : Int} {j : Nat} : JE X w0 (.Constant (.int i) j pos) (mC (.int i)) := je_c pe_int fun _ => .int i
theorem je_bl {i : Bool} {j : Nat} : JE X w0 (.Constant (.bool i) j pos) (mC (.bl i)) := je_c pe_bl fun _ => .bl i
theorem je_non {j : Nat} : JE X w0 (.Constant .none j pos) (mC .non) := je_c pe_non fun _ => .non
theorem je_str {i : Str} {j : Nat} : JE X w0 (.Constant (.str i) j pos) (mC (.str i)) := je_c pe_str fun _ => .str i
/-- a two-place operation by values -/
def OpV (K : PySem.W.Frag) (r : R2) (f : W → W → Z → Res W) : Prop := ∀ (e : En) (w0 : WX) (σ : L2.St) (x y : W) (v u : V) (Q : VK), e.K = K → SR e → RW e x v → RW e y u → Out RW w0 e σ Q (f x y e.z) → r v u e.H Q
def mOp (f : W → W → Z → Res W) (ma mb : ME) : ME := fun r z => (ma r z).bind fun x z => (mb r z).bind fun y z => f x y z
theorem op_t {r : R2} {f : W → W → Z → Res W} (hf : OpV X.K r f) (σ : L2.St) (H : Hp) (Q : VK) (q : tE X.K w0 (mOp f ma mb) σ H Q) : tOp r (tE X.K w0 ma) (tE X.K w0 mb) σ H Q := by
  obtain ⟨mu, ex, rs, z, s, sl, o⟩ := q
  refine (tOf.go (R := RW) s sl o).imp fun v H1 ⟨mu1, z1, x, g1, s1, r1, o1⟩ => ?_
  refine (tOf.go (R := RW) s1 (sl.mono g1) o1).imp fun u H2 ⟨mu2, z2, y, g2, s2, r2, o2⟩ => ?_
  exact hf _ w0 σ x y v u Q rfl s2 (r1.mono g2) r2 o2
theorem je_op {op : Operator} {r : R2} {f : W → W → Z → Res W} (ho : OpR X (binaryOp op) r) (hf : OpV X.K r f) (ha : JE X w0 a ma) (hb : JE X w0 b mb) : JE X w0 (.BinOp a op b pos) (mOp f ma mb) :=
  ⟨PE.of (pe_op ho ha.pe hb.pe) (op_t hf)⟩
theorem je_cmp {op : CmpOp} {r : R2} {f : W → W → Z → Res W} (ho : OpR X (compareOp op) r) (hf : OpV X.K r f) (ha : JE X w0 a ma) (hb : JE X w0 b mb) (hm : behindInMarks op b = false) : JE X w0 (.Compare a [op] [b] pos) (mOp f ma mb) :=
  ⟨PE.of (pe_cmpR ho ha.pe hb.pe hm) (op_t hf)⟩
theorem je_ix {r : R2} {f : W → W → Z → Res W} (ho : IxR X r) (hf : OpV X.K r f) (ha : JE X w0 a ma) (hb : JE X w0 b mb) (hs : PlainIx b) : JE X w0 (.Subscript a b pos) (mOp f ma mb) :=
  ⟨PE.of (pe_ix ho ha.pe hb.pe hs) (op_t hf)⟩
/-- the same with a new thing -/
def OpVO (K : PySem.W.Frag) (r : R2) (f : W → W → Z → Res W) : Prop := ∀ (e : En) (w0 : WX) (σ : L2.St) (x y : W) (v u : V) (Q : VK), e.K = K → SR e → RW e x v → RW e y u → OutO w0 e σ Q (f x y e.z) → r v u e.H Q
theorem op_tO {r : R2} {f : W → W → Z → Res W} (hf : OpVO X.K r f) (σ : L2.St) (H : Hp) (Q : VK) (q : tO X.K w0 (mOp f ma mb) σ H Q) : tOp r (tE X.K w0 ma) (tE X.K w0 mb) σ H Q := by
  obtain ⟨mu, ex, rs, z, s, sl, o⟩ := q
  refine (tOf.goO (R := RW) s sl o).imp fun v H1 ⟨mu1, z1, x, g1, s1, r1, o1⟩ => ?_
  refine (tOf.goO (R := RW) s1 (sl.mono g1) o1).imp fun u H2 ⟨mu2, z2, y, g2, s2, r2, o2⟩ => ?_
  exact hf _ w0 σ x y v u Q rfl s2 (r1.mono g2) r2 o2
theorem jo_op {op : Operator} {r : R2} {f : W → W → Z → Res W} (ho : OpR X (binaryOp op) r) (hf : OpVO X.K r f) (ha : JE X w0 a ma) (hb : JE X w0 b mb) : JO X w0 (.BinOp a op b pos) (mOp f ma mb) :=
  ⟨PE.of (pe_op ho ha.pe hb.pe) (op_tO hf)⟩
def UnV (K : PySem.W.Frag) (r : V → Hp → VK → Prop) (f : W → Z → Res W) : Prop := ∀ (e : En) (w0 : WX) (σ : L2.St) (x : W) (v : V) (Q : VK), e.K = K → SR e → RW e x v → Out RW w0 e σ Q (f x e.z) → r v e.H Q
def mUn (f : W → Z → Res W) (ma : ME) : ME := fun r z => (ma r z).bind fun x z => f x z
theorem je_un {op : UnaryOp} {r : V → Hp → VK → Prop} {f : W → Z → Res W} (ho : UnR X (unaryOp op) r) (hf : UnV X.K r f) (ha : JE X w0 a ma) : JE X w0 (.UnaryOp op a pos) (mUn f ma) := by
  refine ⟨PE.of (pe_un ho ha.pe) fun σ H Q q => ?_⟩
  obtain ⟨mu, ex, rs, z, s, sl, o⟩ := q
  refine (tOf.go (R := RW) s sl o).imp fun v H1 ⟨mu1, z1, x, g1, s1, r1, o1⟩ => ?_
  exact hf _ w0 σ x v Q rfl s1 r1 o1
/-! ### truth -/
def truW (z : Z) : W → Option Bool
  | .non => some false
  | .bl b => some b
  | .int i => some (i != 0)
  | .str y => if y.length ≤ sizeLine then some ((y.length : Int) != 0) else none
  | .tup xs => some (!xs.isEmpty)
  | .lst xs => some (!xs.isEmpty)
  | .rl xs => some (!xs.isEmpty)
  | .dic xs => some (!xs.isEmpty)
  | .ob n => match z[n]? with
    | some (some (.lst xs)) => some (!xs.isEmpty)
    | some (some (.dic xs)) => some (!xs.isEmpty)
    | _ => none
  | _ => none
theorem RWs.isEmpty {e : En} {w : List W} {v : List V} (h : RWs e w v) : w.isEmpty = v.isEmpty := by cases h <;> rfl
theorem RKs.isEmpty {e : En} {w : List (Key × W)} {v : List (Key × V)} (h : RKs e w v) : w.isEmpty = v.isEmpty := by cases h <;> rfl
theorem sqT_of {e : En} {a : Addr} {xs : List W} {v : V} (h : RW e (.tup xs) v) : ∃ a vs, v = .ref a ∧ SqT e.K e.H a vs ∧ RWs e xs vs := by
  cases h with
  | tup h n r => exact ⟨_, _, rfl, .inl h, r⟩
  | tupK h r => exact ⟨_, _, rfl, .inr h, r⟩
theorem sqR_of {e : En} {a : Addr} {xs : List W} {v : V} (h : RW e (.rl xs) v) : ∃ a vs, v = .ref a ∧ SqL e.K e.H a vs ∧ RWs e xs vs := by
  cases h with
  | rl h n r => exact ⟨_, _, rfl, .inl h, r⟩
  | rlK h r => exact ⟨_, _, rfl, .inr h, r⟩
/-- the list that a value is -/
def lsOf (z : Z) : W → Option (List W)
  | .lst xs => some xs
  | .ob n => match z[n]? with
    | some (some (.lst xs)) => some xs
    | _ => none
  | _ => none
def rlOf (z : Z) : W → Option (List W)
  | .rl xs => some xs
  | w => lsOf z w
theorem ob_cell {e : En} {n : Nat} {v : V} {w : W} (s : SR e) (h : RW e (.ob n) v) (hz : e.z[n]? = some (some w)) : ∃ a, v = .ref a ∧ e.mu[n]? = some a ∧ Ce e a w := by
  cases h with
  | ob h => exact ⟨_, rfl, h, s.cell _ _ _ hz h⟩
theorem ls_of {e : En} {w : W} {v : V} {xs : List W} (s : SR e) (h : RW e w v) (hl : lsOf e.z w = some xs) : ∃ a vs, v = .ref a ∧ e.H a = some (.lst vs) ∧ RWs e xs vs := by
  cases w with
  | lst ys =>
    cases hl
    cases h with
    | lst h n r => exact ⟨_, _, rfl, h, r⟩
  | ob n =>
    simp only [lsOf] at hl
    cases hz : e.z[n]? with
    | none => rw [hz] at hl; cases hl
    | some y =>
      rw [hz] at hl
      cases y with
      | none => cases hl
      | some y =>
        cases y <;> try cases hl
        obtain ⟨a, ea, _, c⟩ := ob_cell s h hz
        cases c with
        | lst h r => exact ⟨a, _, ea, h, r⟩
  | _ => cases hl
theorem rl_of {e : En} {w : W} {v : V} {xs : List W} (s : SR e) (h : RW e w v) (hl : rlOf e.z w = some xs) : ∃ a vs, v = .ref a ∧ SqL e.K e.H a vs ∧ RWs e xs vs := by
  cases w with
  | rl ys => cases hl; exact sqR_of (a := 0) h
  | _ =>
    obtain ⟨a, vs, ea, h, r⟩ := ls_of s h hl
    exact ⟨a, vs, ea, .inl (.inl h), r⟩
theorem tru_of {e : En} {w : W} {v : V} {b : Bool} (s : SR e) (h : RW e w v) (hb : truW e.z w = some b) : TruV e.K v e.H b := by
  have lst : ∀ {w xs}, RW e w v → lsOf e.z w = some xs → TruV e.K v e.H (!xs.isEmpty) := fun {w xs} h hl => by
    obtain ⟨a, vs, ea, h', r⟩ := ls_of s h hl
    subst ea
    exact .inl ⟨vs, .inl (.inl h'), by rw [r.isEmpty]⟩
  cases w with
  | non => cases hb; cases h; rfl
  | bl x => cases hb; cases h; rfl
  | int x => cases hb; cases h; rfl
  | str y =>
    cases h
    simp only [truW] at hb
    split at hb
    · cases hb; exact ⟨by assumption, rfl⟩
    · cases hb
  | tup xs =>
    cases hb
    obtain ⟨a, vs, rfl, h, r⟩ := sqT_of (a := 0) h
    exact .inr (.inl ⟨vs, h, by rw [r.isEmpty]⟩)
  | lst xs => cases hb; exact lst h rfl
  | rl xs =>
    cases hb
    obtain ⟨a, vs, rfl, h, r⟩ := sqR_of (a := 0) h
    exact .inl ⟨vs, h, by rw [r.isEmpty]⟩
  | dic xs =>
    cases hb
    cases h with
    | dic h n r => exact .inr (.inr ⟨_, h, by rw [r.isEmpty]⟩)
  | ob n =>
    simp only [truW] at hb
    cases hz : e.z[n]? with
    | none => rw [hz] at hb; cases hb
    | some y =>
      rw [hz] at hb
      cases y with
      | none => cases hb
      | some y =>
        cases y <;> try cases hb
        · exact lst h (by simp only [lsOf]; rw [hz])
        · obtain ⟨a, ea, _, c⟩ := ob_cell s h hz
          cases c with
          | dic h' r => subst ea; exact .inr (.inr ⟨_, h', by rw [r.isEmpty]⟩)
  | _ => cases hb
def mTru (ma : ME) : MT := fun r z => (ma r z).bind fun x z => match truW z x with
  | some b => .ok b z
  | none => .bad
theorem jt_val (ha : JE X w0 a ma) (he : ∀ whole, isTrue a X.env whole = (do let v ← whole; standAt a.pos; holding [v] (truthy v)) := by intro _; rfl) : JT X w0 a (mTru ma) := by
  refine ⟨PT.of (pt_truth ha.pe he) fun σ H Q q => ?_⟩
  obtain ⟨mu, ex, rs, z, s, sl, o⟩ := q
  refine (tOf.go (R := RW) s sl o).imp fun v H1 ⟨mu1, z1, x, g1, s1, r1, o1⟩ => ?_
  dsimp only at o1
  cases ht : truW z1 x with
  | none => rw [ht] at o1; exact o1.elim
  | some k =>
    rw [ht] at o1
    exact ⟨k, tru_of s1 r1 ht, o1 mu1 H1 k (Gr.refl _) s1 rfl⟩
/-- a comparison as a test: its value is a bool -/
def bOf : W → Z → Res Bool
  | .bl k, z => .ok k z
  | _, _ => .bad
def mBo (m : ME) : MT := fun r z => (m r z).bind bOf
theorem jt_cmp {op : CmpOp} {r : R2} {f : W → W → Z → Res W} (ho : OpR X (compareOp op) r) (hf : OpV X.K r f) (ha : JE X w0 a ma) (hb : JE X w0 b mb) (hm : behindInMarks op b = false) : JT X w0 (.Compare a [op] [b] pos) (mBo (mOp f ma mb)) := by
  refine ⟨PT.of (pt_cmpR ho ha.pe hb.pe hm) fun σ H Q q => ?_⟩
  refine op_t (w0 := w0) (ma := ma) (mb := mb) hf σ H _ ?_
  obtain ⟨mu, ex, rs, z, s, sl, o⟩ := q
  refine ⟨mu, ex, rs, z, s, sl, (o.bind (R := RW)).mono fun v H1 ⟨mu1, z1, x, g1, s1, r1, o1⟩ => ?_⟩
  cases r1 with
  | bl k => exact ⟨k, rfl, o1 mu1 H1 k (Gr.refl _) s1 rfl⟩
  | _ => exact o1.elim
def mNot (m : MT) : MT := fun r z => (m r z).bind fun b z => .ok (!b) z
theorem jt_not (ha : JT X w0 a mt) : JT X w0 (.UnaryOp .Not a pos) (mNot mt) := by
  refine ⟨PT.of (pt_not ha.pt) fun σ H Q q => ?_⟩
  obtain ⟨mu, ex, rs, z, s, sl, o⟩ := q
  refine (tOf.go (R := RB) s sl o).imp fun v H1 ⟨mu1, z1, x, g1, s1, r1, o1⟩ => ?_
  cases (show x = v from r1)
  exact o1 mu1 H1 _ (Gr.refl _) s1 rfl
def mAnd (m m2 : MT) : MT := fun r z => (m r z).bind fun b z => if b then m2 r z else .ok false z
def mOr (m m2 : MT) : MT := fun r z => (m r z).bind fun b z => if b then .ok true z else m2 r z
variable {rest : List Expr}
theorem jw_and1 (ha : JT X w0 a mt) : JW X w0 (.BoolOp .And [a] pos) mt := ⟨pw_and1 ha.pt⟩
theorem jw_or1 (ha : JT X w0 a mt) : JW X w0 (.BoolOp .Or [a] pos) mt := ⟨pw_or1 ha.pt⟩
theorem jw_and (ha : JT X w0 a mt) (hb : JW X w0 (.BoolOp .And (b :: rest) pos) mu') : JW X w0 (.BoolOp .And (a :: b :: rest) pos) (mAnd mt mu') := by
  refine ⟨PW.of (pw_and ha.pt hb.pw) fun σ H Q q => ?_⟩
  obtain ⟨mu, ex, rs, z, s, sl, o⟩ := q
  refine (tOf.go (R := RB) s sl o).imp fun v H1 ⟨mu1, z1, x, g1, s1, r1, o1⟩ => ?_
  cases (show x = v from r1)
  cases v with
  | true => exact ⟨mu1, ex, rs, z1, s1, sl.mono g1, o1⟩
  | false => exact o1 mu1 H1 _ (Gr.refl _) s1 rfl
theorem jw_or (ha : JT X w0 a mt) (hb : JW X w0 (.BoolOp .Or (b :: rest) pos) mu') : JW X w0 (.BoolOp .Or (a :: b :: rest) pos) (mOr mt mu') := by
  refine ⟨PW.of (pw_or ha.pt hb.pw) fun σ H Q q => ?_⟩
  obtain ⟨mu, ex, rs, z, s, sl, o⟩ := q
  refine (tOf.go (R := RB) s sl o).imp fun v H1 ⟨mu1, z1, x, g1, s1, r1, o1⟩ => ?_
  cases (show x = v from r1)
  cases v with
  | false => exact ⟨mu1, ex, rs, z1, s1, sl.mono g1, o1⟩
  | true => exact o1 mu1 H1 _ (Gr.refl _) s1 rfl
theorem JW.jt (h : JW X w0 a mt) : JT X w0 a mt := ⟨PW.pt h.pw⟩
/-! ### and, or, not as values (of truths) -/
def mAndV (ma mb : ME) : ME := fun r z => (ma r z).bind fun x z => match x with
  | .bl true => mb r z
  | .bl false => .ok (.bl false) z
  | _ => .bad
def mOrV (ma mb : ME) : ME := fun r z => (ma r z).bind fun x z => match x with
  | .bl true => .ok (.bl true) z
  | .bl false => mb r z
  | _ => .bad
def mNotV (ma : ME) : ME := fun r z => (ma r z).bind fun x z => match x with
  | .bl b => .ok (.bl (!b)) z
  | _ => .bad
theorem je_one {op : BoolOp} (h : JE X w0 a ma) : JE X w0 (.BoolOp op [a] pos) ma := ⟨pe_one h.pe⟩
theorem je_and (ha : JE X w0 a ma) (hb : JE X w0 (.BoolOp .And (b :: rest) pos) mb) : JE X w0 (.BoolOp .And (a :: b :: rest) pos) (mAndV ma mb) := by
  refine ⟨PE.of (pe_and ha.pe hb.pe) fun σ H Q q => ?_⟩
  obtain ⟨mu, ex, rs, z, s, sl, o⟩ := q
  refine (tOf.go (R := RW) s sl o).imp fun v H1 ⟨mu1, z1, x, g1, s1, r1, o1⟩ => ?_
  cases r1 with
  | bl k =>
    cases k with
    | true => exact ⟨true, rfl, mu1, ex, rs, z1, s1, sl.mono g1, o1⟩
    | false => exact ⟨false, rfl, o1 mu1 H1 _ (Gr.refl _) s1 (.bl false)⟩
  | _ => exact o1.elim
theorem je_or (ha : JE X w0 a ma) (hb : JE X w0 (.BoolOp .Or (b :: rest) pos) mb) : JE X w0 (.BoolOp .Or (a :: b :: rest) pos) (mOrV ma mb) := by
  refine ⟨PE.of (pe_or ha.pe hb.pe) fun σ H Q q => ?_⟩
  obtain ⟨mu, ex, rs, z, s, sl, o⟩ := q
  refine (tOf.go (R := RW) s sl o).imp fun v H1 ⟨mu1, z1, x, g1, s1, r1, o1⟩ => ?_
  cases r1 with
  | bl k =>
    cases k with
    | false => exact ⟨false, rfl, mu1, ex, rs, z1, s1, sl.mono g1, o1⟩
    | true => exact ⟨true, rfl, o1 mu1 H1 _ (Gr.refl _) s1 (.bl true)⟩
  | _ => exact o1.elim
theorem je_not (ha : JE X w0 a ma) : JE X w0 (.UnaryOp .Not a pos) (mNotV ma) := by
  refine ⟨PE.of (pe_not ha.pe) fun σ H Q q => ?_⟩
  obtain ⟨mu, ex, rs, z, s, sl, o⟩ := q
  refine (tOf.go (R := RW) s sl o).imp fun v H1 ⟨mu1, z1, x, g1, s1, r1, o1⟩ => ?_
  cases r1 with
  | bl k => exact ⟨k, rfl, o1 mu1 H1 _ (Gr.refl _) s1 (.bl _)⟩
  | _ => exact o1.elim
def mIf (mt : MT) (ma mb : ME) : ME := fun r z => (mt r z).bind fun b z => if b then ma r z else mb r z
theorem je_if {c : Expr} (hc : JT X w0 c mt) (ha : JE X w0 a ma) (hb : JE X w0 b mb) : JE X w0 (.IfExp c a b pos) (mIf mt ma mb) := by
  refine ⟨PE.of (pe_ifExp hc.pt ha.pe hb.pe) fun σ H Q q => ?_⟩
  obtain ⟨mu, ex, rs, z, s, sl, o⟩ := q
  refine (tOf.go (R := RB) s sl o).imp fun v H1 ⟨mu1, z1, x, g1, s1, r1, o1⟩ => ?_
  cases (show x = v from r1)
  cases v with
  | true => exact ⟨mu1, ex, rs, z1, s1, sl.mono g1, o1⟩
  | false => exact ⟨mu1, ex, rs, z1, s1, sl.mono g1, o1⟩
/-! ### rows of arguments, displays -/
def aNil : MA := fun _ z => .ok [] z
def aCons (ma : ME) (mr : MA) : MA := fun r z => (ma r z).bind fun x z => (mr r z).bind fun xs z => .ok (x :: xs) z
variable {mr : MA}
theorem ja_nil : JA X w0 [] aNil := by
  refine ⟨PA.of pa_nil fun σ H Q q => ?_⟩
  obtain ⟨mu, ex, rs, z, s, sl, o⟩ := q
  exact o mu H [] (Gr.refl _) s .nil
theorem ja_cons (ha : JE X w0 e ma) (hr : JA X w0 es mr) (hs : starEach (e :: es) X.env = (false, eval e X.env) :: starEach es X.env := by rfl) : JA X w0 (e :: es) (aCons ma mr) := by
  refine ⟨PA.of (pa_cons ha.pe hr.pa hs) fun σ H Q q => ?_⟩
  obtain ⟨mu, ex, rs, z, s, sl, o⟩ := q
  refine (tOf.go (R := RW) s sl o).imp fun v H1 ⟨mu1, z1, x, g1, s1, r1, o1⟩ => ?_
  refine (tOf.go (R := RWs) s1 (sl.mono g1) o1).imp fun u H2 ⟨mu2, z2, y, g2, s2, r2, o2⟩ => ?_
  exact o2 mu2 H2 _ (Gr.refl _) s2 (.cons (r1.mono g2) r2)
def mLst (mr : MA) : ME := fun r z => (mr r z).bind fun ws z => if ws.length ≤ sizeLine then .ok (.lst ws) z else .bad
def mTup (mr : MA) : ME := fun r z => (mr r z).bind fun ws z => if ws.length ≤ sizeLine then .ok (.tup ws) z else .bad
theorem own_rws {e : En} {p : Addr} {u : HO} {ws : List W} {vs : List V} (s : SR e) (h : e.H p = none) (r : RWs e ws vs) : RWs (e.own p u) ws vs := by
  refine RWs.to (e := e) (e' := e.own p u) rfl (fun n a h => h) (fun b y q n => ⟨by show upd e.H p u b = some y; rw [upd_ne (ne_new q h)]; exact q, fun l => ?_⟩) r
  rcases l with l | l
  · exact n (.inl l)
  · rcases List.mem_cons.mp l with z | z
    · rw [z, h] at q; cases q
    · exact n (.inr z)
/-- a new list at p -/
theorem new_lst {e : En} {w0 : WX} {σ : L2.St} {Q : VK} {ws : List W} {vs : List V} {p : Addr} (s : SR e) (r : RWs e ws vs) (o : OutO w0 e σ Q (.ok (.lst ws) e.z)) (h : e.H p = none) : Q (.ref p) (upd e.H p (.lst vs)) :=
  o e.mu (upd e.H p (.lst vs)) p h (s.gput h) (s.own h) (.lst upd_same (own_rws s h r))
theorem jo_lst (h : JA X w0 es mr) : JO X w0 (.List es pos) (mLst mr) := by
  refine ⟨PE.of (pe_lst h.pa) fun σ H Q q => ?_⟩
  obtain ⟨mu, ex, rs, z, s, sl, o⟩ := q
  refine (tOf.goO (R := RWs) s sl o).imp fun v H1 ⟨mu1, z1, x, g1, s1, r1, o1⟩ => ?_
  dsimp only at o1
  by_cases hl : x.length ≤ sizeLine
  · rw [if_pos hl] at o1
    exact ⟨r1.length ▸ hl, fun p hp => new_lst s1 r1 o1 hp⟩
  · rw [if_neg hl] at o1; exact o1.elim
/-- a new tuple at p -/
theorem new_tup {e : En} {w0 : WX} {σ : L2.St} {Q : VK} {ws : List W} {vs : List V} {p : Addr} (s : SR e) (r : RWs e ws vs) (o : Out RW w0 e σ Q (.ok (.tup ws) e.z)) (h : e.H p = none) : Q (.ref p) (upd e.H p (.tup vs)) :=
  o e.mu (upd e.H p (.tup vs)) (.ref p) (s.gput h) (s.put h) (.tup (.inl upd_same) (s.offL h) (r.mono (s.gput h)))
theorem je_tup {i : Nat} (h : JA X w0 es mr) : JE X w0 (.Tuple es i pos) (mTup mr) := by
  refine ⟨PE.of (pe_tup h.pa) fun σ H Q q => ?_⟩
  obtain ⟨mu, ex, rs, z, s, sl, o⟩ := q
  refine (tOf.go (R := RWs) s sl o).imp fun v H1 ⟨mu1, z1, x, g1, s1, r1, o1⟩ => ?_
  dsimp only at o1
  by_cases hl : x.length ≤ sizeLine
  · rw [if_pos hl] at o1
    exact ⟨r1.length ▸ hl, fun p hp => new_tup s1 r1 o1 hp⟩
  · rw [if_neg hl] at o1; exact o1.elim
end
end J
namespace J
open PySem PySem.Spec L2
@[simp] def Res.st {α : Type} (m : Res α) (r : Sl) (f : α → Z → RS) : RS := match m with
  | .ok a z => f a z
  | .ex x z => .ex x r z
  | .bad => .bad
section
variable {α β : Type} {R : En → α → β → Prop} {w0 : WX} {e : En} {σ : L2.St} {D : Ends}
def NxtS (R : En → α → β → Prop) (w0 : WX) (e : En) (D : Ends) (f : α → Z → RS) (b : β) (H1 : Hp) : Prop :=
  ∃ mu1 z1 a, Gr e ⟨e.K, H1, mu1, z1, e.ex⟩ ∧ SR ⟨e.K, H1, mu1, z1, e.ex⟩ ∧ R ⟨e.K, H1, mu1, z1, e.ex⟩ a b ∧ OutS w0 ⟨e.K, H1, mu1, z1, e.ex⟩ D (f a z1)
theorem OutS.bind {f : α → Z → RS} {m : Res α} {r : Sl} (sl : SlO e r σ) (h : OutS w0 e D (m.st r f)) : Out R w0 e σ (NxtS R w0 e D f) m := by
  cases m with
  | bad => exact h
  | ex x z => exact fun mu' H' d us g s hd nl rf => h mu' H' σ d us g s (sl.mono g) hd nl rf
  | ok a z => exact fun mu' H' b g s r => ⟨mu', z, a, g, s, r, OutS.from g rfl h⟩
theorem tOf.goS {K : PySem.W.Frag} {m : Sl → Z → Res α} {f : α → Z → RS} {H : Hp} {mu ex : List Addr} {r : Sl} {z : Z} (s : SR ⟨K, H, mu, z, ex⟩) (sl : SlO ⟨K, H, mu, z, ex⟩ r σ) (o : OutS w0 ⟨K, H, mu, z, ex⟩ D ((m r z).st r f)) :
    tOf R K w0 m σ H (NxtS R w0 ⟨K, H, mu, z, ex⟩ D f) := ⟨mu, ex, r, z, s, sl, o.bind sl⟩
end
section
variable {X : Cx} {w0 : WX} {e : Expr} {st : Stmt} {ss : List Stmt} {pos : Pos} {ma mb mc : ME} {mt : MT} {m1 m2 : MS}
@[simp] def sSeq (m1 m2 : MS) : MS := fun r z => match m1 r z with
  | .ok (.nx r') z' => m2 r' z'
  | o => o
@[simp] def sPass : MS := fun r z => .ok (.nx r) z
@[simp] def sBrk : MS := fun r z => .ok (.bk r) z
@[simp] def sCnt : MS := fun r z => .ok (.ct r) z
@[simp] def sSet (i : Nat) (m : ME) : MS := fun r z => (m r z).st r fun w z => .ok (.nx (r.set i (some w))) z
@[simp] def sRet (m : ME) : MS := fun r z => (m r z).st r fun w z => .ok (.rt w) z
@[simp] def sRetN : MS := fun r z => .ok (.rt .non) z
@[simp] def sExp (m : ME) : MS := fun r z => (m r z).st r fun w z => .ok (.nx r) z
@[simp] def sIf (mt : MT) (m1 m2 : MS) : MS := fun r z => (mt r z).st r fun b z => if b then m1 r z else m2 r z
theorem jb_nil : JB X w0 [] sPass := by
  refine ⟨PSs.of pss_nil fun D σ H q => ?_⟩
  obtain ⟨mu, ex, r, z, s, sl, o⟩ := q
  exact o mu H σ (Gr.refl _) s sl
theorem js_pass : JS X w0 (.Pass pos) sPass := by
  refine ⟨PS.of ps_pass fun D σ H q => ?_⟩
  obtain ⟨mu, ex, r, z, s, sl, o⟩ := q
  exact o mu H σ (Gr.refl _) s sl
theorem js_brk : JS X w0 (.Break pos) sBrk := by
  refine ⟨PS.of ps_break fun D σ H q => ?_⟩
  obtain ⟨mu, ex, r, z, s, sl, o⟩ := q
  exact o mu H σ (Gr.refl _) s sl
theorem js_cnt : JS X w0 (.Continue pos) sCnt := by
  refine ⟨PS.of ps_continue fun D σ H q => ?_⟩
  obtain ⟨mu, ex, r, z, s, sl, o⟩ := q
  exact o mu H σ (Gr.refl _) s sl
theorem outS_seq {e : En} {D : Ends} {r : Sl} {z : Z} (o : OutS w0 e D (sSeq m1 m2 r z)) : OutS w0 e { D with nx := tS e.K w0 m2 D } (m1 r z) := by
  unfold sSeq at o
  cases h : m1 r z with
  | bad => rw [h] at o; exact o
  | ex x r' z' => rw [h] at o; exact o
  | ok f z' =>
    rw [h] at o
    cases f with
    | nx r' => exact fun mu' H' σ' g s l => ⟨mu', e.ex, r', z', s, l, OutS.from g rfl o⟩
    | bk r' => exact o
    | ct r' => exact o
    | rt w => exact o
theorem jb_cons (h1 : JS X w0 st m1) (h2 : JB X w0 ss m2) : JB X w0 (st :: ss) (sSeq m1 m2) := by
  refine ⟨PSs.of (pss_cons h1.ps h2.ps) fun D σ H q => ?_⟩
  obtain ⟨mu, ex, r, z, s, sl, o⟩ := q
  exact ⟨mu, ex, r, z, s, sl, outS_seq (e := ⟨X.K, H, mu, z, ex⟩) o⟩
theorem jb_one (h1 : JS X w0 st m1) : JB X w0 [st] m1 := ⟨pss_one h1.ps⟩
theorem js_set {i : Nat} (h : PS X st (tAsg (tE X.K w0 ma) (gName i))) : JS X w0 st (sSet i ma) := by
  refine ⟨PS.of h fun D σ H q => ?_⟩
  obtain ⟨mu, ex, r, z, s, sl, o⟩ := q
  refine (tOf.goS (R := RW) s sl o).imp fun v H1 ⟨mu1, z1, x, g1, s1, r1, o1⟩ => ?_
  exact o1 mu1 H1 _ (Gr.refl _) s1 ((sl.mono g1).set r1)
theorem js_ret (he : JE X w0 e ma) : JS X w0 (.Return (some e) pos) (sRet ma) := by
  refine ⟨PS.of (ps_ret he.pe) fun D σ H q => ?_⟩
  obtain ⟨mu, ex, r, z, s, sl, o⟩ := q
  refine (tOf.goS (R := RW) s sl o).imp fun v H1 ⟨mu1, z1, x, g1, s1, r1, o1⟩ => ?_
  exact o1 mu1 H1 _ (Gr.refl _) s1 r1
theorem js_retN : JS X w0 (.Return none pos) sRetN := by
  refine ⟨PS.of ps_retN fun D σ H q => ?_⟩
  obtain ⟨mu, ex, r, z, s, sl, o⟩ := q
  exact o mu H _ (Gr.refl _) s .non
theorem js_exp (he : JE X w0 e ma) (hs : swapsWith e none pos.line X.env = pure false := by rfl) : JS X w0 (.Expr e pos) (sExp ma) := by
  refine ⟨PS.of (ps_expr he.pe hs) fun D σ H q => ?_⟩
  obtain ⟨mu, ex, r, z, s, sl, o⟩ := q
  refine (tOf.goS (R := RW) s sl o).imp fun v H1 ⟨mu1, z1, x, g1, s1, r1, o1⟩ => ?_
  exact o1 mu1 H1 _ (Gr.refl _) s1 (sl.mono g1)
theorem js_if {c : Expr} {a b : List Stmt} (hc : JT X w0 c mt) (ha : JB X w0 a m1) (hb : JB X w0 b m2) : JS X w0 (.If c a b pos) (sIf mt m1 m2) := by
  refine ⟨PS.of (ps_if hc.pt ha.ps hb.ps) fun D σ H q => ?_⟩
  obtain ⟨mu, ex, r, z, s, sl, o⟩ := q
  refine (tOf.goS (R := RB) s sl o).imp fun v H1 ⟨mu1, z1, x, g1, s1, r1, o1⟩ => ?_
  cases (show x = v from r1)
  cases v with
  | true => exact ⟨mu1, ex, r, z1, s1, sl.mono g1, o1⟩
  | false => exact ⟨mu1, ex, r, z1, s1, sl.mono g1, o1⟩
/-! ### targets -/
def GV (K : PySem.W.Frag) (g : TG) (f : W → Sl → Option Sl) (vs : List Nat) : Prop :=
  ∀ (e : En) (r : Sl) (σ : L2.St) (w : W) (v : V) (r' : Sl) (Q : L2.St → Hp → Prop), e.K = K → SR e → SlO e r σ → RW e w v → f w r = some r' →
    (∀ σ', SlO e r' σ' → (∀ i, i ∉ vs → σ'[i]? = σ[i]?) → σ'.length = σ.length → Q σ' e.H) → g v σ e.H Q
def GVs (K : PySem.W.Frag) (g : TGs) (f : List W → Sl → Option Sl) (vs : List Nat) : Prop :=
  ∀ (e : En) (r : Sl) (σ : L2.St) (w : List W) (v : List V) (r' : Sl) (Q : L2.St → Hp → Prop), e.K = K → SR e → SlO e r σ → RWs e w v → f w r = some r' →
    (∀ σ', SlO e r' σ' → (∀ i, i ∉ vs → σ'[i]? = σ[i]?) → σ'.length = σ.length → Q σ' e.H) → g v σ e.H Q
@[simp] def fN (i : Nat) : W → Sl → Option Sl := fun w r => some (r.set i (some w))
@[simp] def fNil : List W → Sl → Option Sl
  | [], r => some r
  | _ :: _, _ => none
@[simp] def fCons (f : W → Sl → Option Sl) (fs : List W → Sl → Option Sl) : List W → Sl → Option Sl
  | [], _ => none
  | w :: ws, r => (f w r).bind fun r' => fs ws r'
@[simp] def fT (n : Nat) (fs : List W → Sl → Option Sl) : W → Sl → Option Sl
  | .tup ws, r => if ws.length = n then fs ws r else none
  | _, _ => none
theorem gv_name {K : PySem.W.Frag} {i : Nat} : GV K (gName i) (fN i) [i] := by
  intro e r σ w v r' Q hk s sl rw hf hq
  cases hf
  refine hq _ (sl.set rw) (fun j hj => ?_) (List.length_set ..)
  rw [List.getElem?_set, if_neg (fun z => hj (by rw [z]; exact List.mem_cons_self ..))]
theorem gvs_nil {K : PySem.W.Frag} : GVs K gNil fNil [] := by
  intro e r σ w v r' Q hk s sl rw hf hq
  cases rw with
  | nil => cases hf; exact ⟨rfl, hq σ sl (fun _ _ => rfl) rfl⟩
  | cons _ _ => cases hf
theorem gvs_cons {K : PySem.W.Frag} {t : TG} {u : TGs} {f : W → Sl → Option Sl} {fs : List W → Sl → Option Sl} {vs us : List Nat} (h : GV K t f vs) (hs : GVs K u fs us) : GVs K (gCons t u) (fCons f fs) (vs ++ us) := by
  intro e r σ w v r' Q hk s sl rw hf hq
  cases rw with
  | nil => cases hf
  | cons a b =>
    obtain ⟨r1, h1, h2⟩ := Option.bind_eq_some_iff.mp hf
    refine ⟨_, _, rfl, h e r σ _ _ r1 _ hk s sl a h1 fun σ1 l1 k1 e1 => ?_⟩
    refine hs e r1 σ1 _ _ r' _ hk s l1 b h2 fun σ2 l2 k2 e2 => hq σ2 l2 (fun i hi => ?_) (e2.trans e1)
    rw [k2 i (fun z => hi (List.mem_append_right _ z)), k1 i (fun z => hi (List.mem_append_left _ z))]
theorem gv_tup {K : PySem.W.Frag} {n : Nat} {t : TGs} {fs : List W → Sl → Option Sl} {vs : List Nat} (h : GVs K t fs vs) : GV K (gTup K n t) (fT n fs) vs := by
  intro e r σ w v r' Q hk s sl rw hf hq
  cases w with
  | tup ws =>
    simp only [fT] at hf
    split at hf
    · rename_i hl
      obtain ⟨a, us, rfl, hT, rr⟩ := sqT_of (a := 0) rw
      rw [hk] at hT
      exact ⟨a, us, rfl, hT, rr.length ▸ hl, h e r σ _ _ r' _ hk s sl rr hf hq⟩
    · cases hf
  | _ => cases hf
@[simp] def sAsg (m : ME) (f : W → Sl → Option Sl) : MS := fun r z => (m r z).st r fun w z => match f w r with
  | some r' => .ok (.nx r') z
  | none => .bad
theorem js_asg {g : TG} {f : W → Sl → Option Sl} {vs : List Nat} (h : PS X st (tAsg (tE X.K w0 ma) g)) (hg : GV X.K g f vs) : JS X w0 st (sAsg ma f) := by
  refine ⟨PS.of h fun D σ H q => ?_⟩
  obtain ⟨mu, ex, r, z, s, sl, o⟩ := q
  refine (tOf.goS (R := RW) s sl o).imp fun v H1 ⟨mu1, z1, x, g1, s1, r1, o1⟩ => ?_
  dsimp only at o1
  cases hf : f x r with
  | none => rw [hf] at o1; exact o1.elim
  | some r' =>
    rw [hf] at o1
    exact hg ⟨X.K, H1, mu1, z1, ex⟩ r σ x v r' _ rfl s1 (sl.mono g1) r1 hf fun σ' l _ _ => o1 mu1 H1 σ' (Gr.refl _) s1 l
/-- a, b = x, y -/
@[simp] def sPar (i j : Nat) (m : MA) : MS := fun r z => (m r z).st r fun ws z => match ws with
  | [w, u] => .ok (.nx ((r.set i (some w)).set j (some u))) z
  | _ => .bad
theorem js_par {i j : Nat} {mr : MA} (h : PS X st (tPar i j (tA X.K w0 mr))) : JS X w0 st (sPar i j mr) := by
  refine ⟨PS.of h fun D σ H q => ?_⟩
  obtain ⟨mu, ex, r, z, s, sl, o⟩ := q
  refine (tOf.goS (R := RWs) s sl o).imp fun v H1 ⟨mu1, z1, x, g1, s1, r1, o1⟩ => ?_
  dsimp only at o1
  cases r1 with
  | nil => exact o1.elim
  | cons a b =>
    cases b with
    | nil => exact o1.elim
    | cons b c =>
      cases c with
      | nil => exact ⟨_, _, rfl, o1 mu1 H1 _ (Gr.refl _) s1 (((sl.mono g1).set a).set b)⟩
      | cons _ _ => exact o1.elim
/-! ### o[i] = v -/
def SetV (K : PySem.W.Frag) (t : TSet) (f : W → W → W → Z → Option Z) : Prop :=
  ∀ (e : En) (o i x : W) (vo vi vx : V) (z' : Z) (Q : Hp → Prop), e.K = K → SR e → RW e o vo → RW e i vi → RW e x vx → f o i x e.z = some z' →
    (∀ H', Gr e ⟨e.K, H', e.mu, z', e.ex⟩ → SR ⟨e.K, H', e.mu, z', e.ex⟩ → Q H') → t vo vi vx e.H Q
@[simp] def sSub (f : W → W → W → Z → Option Z) (mv mo mi : ME) : MS := fun r z => (mv r z).st r fun v z => (mo r z).st r fun o z => (mi r z).st r fun i z => match f o i v z with
  | some z' => .ok (.nx r) z'
  | none => .bad
theorem js_sub {t : TSet} {f : W → W → W → Z → Option Z} {mv mo mi : ME} (h : PS X st (tAsg (tE X.K w0 mv) (gSub (tE X.K w0 mo) (tE X.K w0 mi) t))) (hf : SetV X.K t f) : JS X w0 st (sSub f mv mo mi) := by
  refine ⟨PS.of h fun D σ H q => ?_⟩
  obtain ⟨mu, ex, r, z, s, sl, o⟩ := q
  refine (tOf.goS (R := RW) s sl o).imp fun v H1 ⟨mu1, z1, x, g1, s1, r1, o1⟩ => ?_
  refine (tOf.goS (R := RW) s1 (sl.mono g1) o1).imp fun v2 H2 ⟨mu2, z2, x2, g2, s2, r2, o2⟩ => ?_
  refine (tOf.goS (R := RW) s2 ((sl.mono g1).mono g2) o2).imp fun v3 H3 ⟨mu3, z3, x3, g3, s3, r3, o3⟩ => ?_
  dsimp only at o3
  cases hz : f x2 x3 x z3 with
  | none => rw [hz] at o3; exact o3.elim
  | some z' =>
    rw [hz] at o3
    refine hf ⟨X.K, H3, mu3, z3, ex⟩ x2 x3 x v2 v3 v z' _ rfl s3 (r2.mono g3) r3 ((r1.mono g2).mono g3) hz fun H' g' s' => ?_
    exact o3 mu3 H' σ g' s' ((((sl.mono g1).mono g2).mono g3).mono g')
/-! ### a op= e -/
@[simp] def sAug (i : Nat) (f : W → W → Z → Res W) (m : ME) : MS := fun r z => match r[i]? with
  | some (some x) => (m r z).st r fun y z => (f x y z).st r fun w z => .ok (.nx (r.set i (some w))) z
  | _ => .bad
theorem js_aug {i : Nat} {t : TIp} {f : W → W → Z → Res W} (h : PS X st (tAug i (tE X.K w0 ma) t)) (hf : OpV X.K t f) : JS X w0 st (sAug i f ma) := by
  refine ⟨PS.of h fun D σ H q => ?_⟩
  obtain ⟨mu, ex, r, z, s, sl, o⟩ := q
  unfold sAug at o
  cases hr : r[i]? with
  | none => rw [hr] at o; exact o.elim
  | some y =>
    cases y with
    | none => rw [hr] at o; exact o.elim
    | some x =>
      rw [hr] at o
      obtain ⟨v, hv, rv⟩ := sl.at_ i x hr
      refine ⟨v, hv, (tOf.goS (R := RW) s sl o).imp fun u H1 ⟨mu1, z1, y, g1, s1, r1, o1⟩ => ?_⟩
      refine hf ⟨X.K, H1, mu1, z1, ex⟩ w0 σ x y v u _ rfl s1 (rv.mono g1) r1 ((o1.bind (R := RW) (sl.mono g1)).mono fun b H2 ⟨mu2, z2, w, g2, s2, r2, o2⟩ => ?_)
      exact o2 mu2 H2 _ (Gr.refl _) s2 (((sl.mono g1).mono g2).set r2)
/-! ### sources -/
abbrev Nx := Z → Nat → Option (Option W)
structure Src (e0 : En) (n : Nx × Nat) (J : It) : Prop where
  go : ∀ (e : En) (i : Nat) (w : W), Gq e0 e → SR e → n.1 e.z i = some (some w) → J.go i e.H ∧ ∀ x H', J.yld i e.H x H' → (∀ a o, e.H a = some o → H' a = some o) ∧ RW ⟨e.K, H', e.mu, e.z, e.ex⟩ w x
  stop : ∀ (e : En) (i : Nat), Gq e0 e → SR e → n.1 e.z i = some none → J.stop i e.H
abbrev MI := Sl → Z → Res (Nx × Nat)
structure JI (X : Cx) (w0 : WX) (tg iter : Expr) (m : MI) : Prop where
  pi : PI X tg iter (tOf Src X.K w0 m)
theorem PI.of {tg it : Expr} {t t' : TI} (h : PI X tg it t) (k : ∀ σ H R, t' σ H R → t σ H R) : PI X tg it t' := ⟨fun pins s σ H R I q => h.run pins s σ H R I (k _ _ _ q)⟩
theorem PI.or {tg it : Expr} {t t' : TI} (h : PI X tg it t) (h' : PI X tg it t') : PI X tg it (fun σ H R => t σ H R ∨ t' σ H R) := ⟨fun pins s σ H R I q => q.elim (h.run pins s σ H R I) (h'.run pins s σ H R I)⟩
/-! ### for -/
def forL (nx : Nx) (f : W → Sl → Option Sl) (mb : MS) : Nat → Nat → Sl → Z → RS
  | 0, _, _, _ => .bad
  | k + 1, i, r, z => match nx z i with
    | none => .bad
    | some none => .ok (.nx r) z
    | some (some w) => match f w r with
      | none => .bad
      | some r' => match mb r' z with
        | .ok (.nx r2) z2 => forL nx f mb k (i + 1) r2 z2
        | .ok (.ct r2) z2 => forL nx f mb k (i + 1) r2 z2
        | .ok (.bk r2) z2 => .ok (.nx r2) z2
        | o => o
def sFor (mi : MI) (f : W → Sl → Option Sl) (mb : MS) : MS := fun r z => (mi r z).st r fun n z => forL n.1 f mb (n.2 + 1) 0 r z
theorem js_for {tg iter : Expr} {body : List Stmt} {mi : MI} {g : TG} {f : W → Sl → Option Sl} {vs : List Nat} (hp : PassesOwn (model X.prog X.w) X.A X.env X.xe) (hc : X.calm = true) (hi : JI X w0 tg iter mi) (hg : PG X tg g) (hv : GV X.K g f vs) (hb : JB X w0 body m1)
    (hs : ∀ x, foldedSetIterable iter X.env x = pure x := by intro _; rfl) : JS X w0 (.For tg iter body [] pos) (sFor mi f m1) := by
  refine ⟨PS.of (ps_for hp hc hi.pi hg hb.ps hs) fun D σ H q => ?_⟩
  obtain ⟨mu, ex, r, z, s, sl, o⟩ := q
  refine (tOf.goS (R := Src) s sl o).imp fun J H1 ⟨mu1, z1, n, g1, s1, src, o1⟩ => ?_
  refine ⟨fun i m σ H => ∃ mu2 r2 z2, Gr ⟨X.K, H1, mu1, z1, ex⟩ ⟨X.K, H, mu2, z2, ex⟩ ∧ SR ⟨X.K, H, mu2, z2, ex⟩ ∧ SlO ⟨X.K, H, mu2, z2, ex⟩ r2 σ ∧ OutS w0 ⟨X.K, H, mu2, z2, ex⟩ D (forL n.1 f m1 m i r2 z2),
    ⟨n.2 + 1, mu1, r, z1, Gr.refl _, s1, sl.mono g1, o1⟩, ?_⟩
  rintro i m σ H2 ⟨mu2, r2, z2, g2, s2, l2, o2⟩
  cases m with
  | zero => exact o2.elim
  | succ k =>
    unfold forL at o2
    cases hn : n.1 z2 i with
    | none => rw [hn] at o2; exact o2.elim
    | some y =>
      cases y with
      | none =>
        rw [hn] at o2
        exact .inl ⟨src.stop ⟨X.K, H2, mu2, z2, ex⟩ i g2.toGq s2 hn, o2 mu2 H2 σ (Gr.refl _) s2 l2⟩
      | some w =>
        rw [hn] at o2
        obtain ⟨go, yl⟩ := src.go ⟨X.K, H2, mu2, z2, ex⟩ i w g2.toGq s2 hn
        refine .inr ⟨go, fun σ' H' => ∃ mu3 r3 z3, Gr ⟨X.K, H1, mu1, z1, ex⟩ ⟨X.K, H', mu3, z3, ex⟩ ∧ SR ⟨X.K, H', mu3, z3, ex⟩ ∧ SlO ⟨X.K, H', mu3, z3, ex⟩ r3 σ' ∧ OutS w0 ⟨X.K, H', mu3, z3, ex⟩ D (forL n.1 f m1 k (i + 1) r3 z3),
          fun σ' H' h => ⟨k, Nat.lt_succ_self k, h⟩, fun x H' hy => ?_⟩
        obtain ⟨kp, rx⟩ := yl x H' hy
        have g3 := s2.ggrow kp
        have s3 := s2.grow kp
        dsimp only at o2
        cases hf : f w r2 with
        | none => rw [hf] at o2; exact o2.elim
        | some r' =>
          rw [hf] at o2
          refine hv ⟨X.K, H', mu2, z2, ex⟩ r2 σ w x r' _ rfl s3 (l2.mono g3) rx hf fun σ3 l3 _ _ => ⟨mu2, ex, r', z2, s3, l3, ?_⟩
          have g4 := g2.trans g3
          have o3 := OutS.from g3 rfl o2
          dsimp only at o3
          cases hb' : m1 r' z2 with
          | bad => rw [hb'] at o3; exact o3
          | ex x r' z' => rw [hb'] at o3; exact o3
          | ok fl z' =>
            rw [hb'] at o3
            cases fl with
            | nx r4 => exact fun mu' H5 σ' g s l => ⟨mu', r4, z', g4.trans g, s, l, OutS.from g rfl o3⟩
            | ct r4 => exact fun mu' H5 σ' g s l => ⟨mu', r4, z', g4.trans g, s, l, OutS.from g rfl o3⟩
            | bk r4 => exact o3
            | rt w => exact o3
/-! ### while -/
def whL (mt : MT) (mb : MS) : Nat → Sl → Z → RS
  | 0, _, _ => .bad
  | k + 1, r, z => (mt r z).st r fun b z => if b then (match mb r z with
      | .ok (.nx r2) z2 => whL mt mb k r2 z2
      | .ok (.ct r2) z2 => whL mt mb k r2 z2
      | .ok (.bk r2) z2 => .ok (.nx r2) z2
      | o => o) else .ok (.nx r) z
def sWh (fu : Sl → Z → Nat) (mt : MT) (mb : MS) : MS := fun r z => whL mt mb (fu r z) r z
theorem js_while {fu : Sl → Z → Nat} {c : Expr} {body : List Stmt} (hp : PassesOwn (model X.prog X.w) X.A X.env X.xe) (hc : JT X w0 c mt) (hb : JB X w0 body m1) : JS X w0 (.While c body [] pos) (sWh fu mt m1) := by
  refine ⟨PS.of (ps_while hp hc.pt hb.ps) fun D σ H q => ?_⟩
  obtain ⟨mu, ex, r, z, s, sl, o⟩ := q
  refine ⟨fun m σ H => ∃ mu2 r2 z2, SR ⟨X.K, H, mu2, z2, ex⟩ ∧ SlO ⟨X.K, H, mu2, z2, ex⟩ r2 σ ∧ OutS w0 ⟨X.K, H, mu2, z2, ex⟩ D (whL mt m1 m r2 z2), ⟨fu r z, mu, r, z, s, sl, o⟩, ?_⟩
  rintro m σ H2 ⟨mu2, r2, z2, s2, l2, o2⟩
  cases m with
  | zero => exact o2.elim
  | succ k =>
    unfold whL at o2
    refine (tOf.goS (R := RB) s2 l2 o2).imp fun v H1 ⟨mu1, z1, x, g1, s1, r1, o1⟩ => ?_
    cases (show x = v from r1)
    cases v with
    | false => exact o1 mu1 H1 σ (Gr.refl _) s1 (l2.mono g1)
    | true =>
      refine ⟨fun σ' H' => ∃ mu3 r3 z3, SR ⟨X.K, H', mu3, z3, ex⟩ ∧ SlO ⟨X.K, H', mu3, z3, ex⟩ r3 σ' ∧ OutS w0 ⟨X.K, H', mu3, z3, ex⟩ D (whL mt m1 k r3 z3), fun σ' H' h => ⟨k, Nat.lt_succ_self k, h⟩, ⟨mu1, ex, r2, z1, s1, l2.mono g1, ?_⟩⟩
      simp only [if_true] at o1
      cases hb' : m1 r2 z1 with
      | bad => rw [hb'] at o1; exact o1
      | ex x r' z' => rw [hb'] at o1; exact o1
      | ok fl z' =>
        rw [hb'] at o1
        cases fl with
        | nx r4 => exact fun mu' H5 σ' g s l => ⟨mu', r4, z', s, l, OutS.from g rfl o1⟩
        | ct r4 => exact fun mu' H5 σ' g s l => ⟨mu', r4, z', s, l, OutS.from g rfl o1⟩
        | bk r4 => exact o1
        | rt w => exact o1
end
end J
namespace J
open PySem PySem.Spec L2
/-! ### sources: lists, tuples, texts, ranges -/
def chs (x : Str) : List W := x.cps.toList.map fun c => .str ⟨#[c]⟩
def nxF (xs : List W) : Nx := fun _ i => some xs[i]?
def nxW (w : W) : Nx := fun z i => (rlOf z w).map fun xs => xs[i]?
def srcW (z : Z) : W → Option (Nx × Nat)
  | .tup xs => some (nxF xs, xs.length)
  | .str x => some (nxF (chs x), (chs x).length)
  | .lst xs => some (nxF xs, xs.length)
  | .rl xs => some (nxF xs, xs.length)
  | w => (rlOf z w).map fun xs => (nxW w, xs.length)
def mSq (ma : ME) : MI := fun r z => (ma r z).bind fun w z => match srcW z w with
  | some n => .ok n z
  | none => .bad
theorem SqL.get_inj {K : PySem.W.Frag} {H : Hp} {a : Addr} {xs : List V} {x y : V} {i : Nat} (h : SqL K H a xs) (hy : xs[i]? = some y) (q : ∀ xs, SqL K H a xs → xs[i]? = some x) : x = y := by
  have z := q xs h
  rw [hy] at z
  exact (Option.some.inj z).symm
theorem SqT.get_inj {K : PySem.W.Frag} {H : Hp} {a : Addr} {xs : List V} {x y : V} {i : Nat} (h : SqT K H a xs) (hy : xs[i]? = some y) (q : ∀ xs, SqT K H a xs → xs[i]? = some x) : x = y := by
  have z := q xs h
  rw [hy] at z
  exact (Option.some.inj z).symm
theorem RWs.none {e : En} : ∀ {w : List W} {v : List V} {i : Nat}, RWs e w v → w[i]? = none → v.length ≤ i
  | w, v, i, h, q => by rw [← h.length]; exact List.getElem?_eq_none_iff.mp q
theorem src_list {e0 : En} {w : W} {a : Addr} {n : Nat} {nx : Nx} (hr : RW e0 w (.ref a)) (hn : ∀ z i o, nx z i = some o → ∃ xs, rlOf z w = some xs ∧ o = xs[i]?) : Src e0 (nx, n) (Itl e0.K a) := by
  refine ⟨fun e i x g s h => ?_, fun e i g s h => ?_⟩
  · obtain ⟨xs, hl, ho⟩ := hn _ _ _ h
    obtain ⟨b, vs, eb, sq, rr⟩ := rl_of s (hr.monoq g) hl
    cases eb
    obtain ⟨y, hy, ry⟩ := rr.get ho.symm
    rw [g.K] at sq
    refine ⟨⟨vs, y, sq, hy⟩, fun x' H' q => ?_⟩
    obtain ⟨q1, q2⟩ := q
    cases q1
    rw [SqL.get_inj sq hy q2]
    exact ⟨fun _ _ h => h, ry⟩
  · obtain ⟨xs, hl, ho⟩ := hn _ _ _ h
    obtain ⟨b, vs, eb, sq, rr⟩ := rl_of s (hr.monoq g) hl
    cases eb
    rw [g.K] at sq
    exact ⟨vs, sq, rr.none ho.symm⟩
theorem src_tup {e0 : En} {xs : List W} {a : Addr} {n : Nat} (hr : RW e0 (.tup xs) (.ref a)) : Src e0 (nxF xs, n) (Itt e0.K a) := by
  refine ⟨fun e i x g s h => ?_, fun e i g s h => ?_⟩
  · obtain ⟨b, vs, eb, sq, rr⟩ := sqT_of (a := 0) (hr.monoq g)
    cases eb
    obtain ⟨y, hy, ry⟩ := rr.get (Option.some.inj h)
    rw [g.K] at sq
    refine ⟨⟨vs, y, sq, hy⟩, fun x' H' q => ?_⟩
    obtain ⟨q1, q2⟩ := q
    cases q1
    rw [SqT.get_inj sq hy q2]
    exact ⟨fun _ _ h => h, ry⟩
  · obtain ⟨b, vs, eb, sq, rr⟩ := sqT_of (a := 0) (hr.monoq g)
    cases eb
    rw [g.K] at sq
    exact ⟨vs, sq, rr.none (Option.some.inj h)⟩
theorem src_str {e0 : En} {x : Str} {n : Nat} : Src e0 (nxF (chs x), n) (Its x) := by
  refine ⟨fun e i w g s h => ?_, fun e i g s h => ?_⟩
  · have h' : (chs x)[i]? = some w := Option.some.inj h
    unfold chs at h'
    rw [List.getElem?_map] at h'
    cases hc : x.cps.toList[i]? with
    | none => rw [hc] at h'; cases h'
    | some c =>
      rw [hc] at h'
      cases h'
      have hc' : x.cps[i]? = some c := by rw [← hc]; simp
      have hlt : i < x.cps.size := by
        rcases Nat.lt_or_ge i x.cps.size with q | q
        · exact q
        · rw [Array.getElem?_eq_none q] at hc'; cases hc'
      refine ⟨hlt, fun x' H' q => ?_⟩
      obtain ⟨q1, c', q2, q3⟩ := q
      rw [hc'] at q2
      cases q2
      cases q1
      subst q3
      exact ⟨fun _ _ h => h, .str _⟩
  · have h' : (chs x)[i]? = none := Option.some.inj h
    have := List.getElem?_eq_none_iff.mp h'
    unfold chs at this
    show x.cps.size ≤ i
    simpa using this
section
variable {X : Cx} {w0 : WX} {e : Expr} {tg : Expr} {ma : ME} {mr : MA} {p pos : Pos}
theorem ji_seq (he : JE X w0 e ma) : JI X w0 tg e (mSq ma) := by
  refine ⟨PI.of (PI.or (pi_list he.pe) (PI.or (pi_tup he.pe) (pi_str he.pe))) fun σ H R q => ?_⟩
  obtain ⟨mu, ex, r, z, s, sl, o⟩ := q
  unfold mSq at o
  cases hm : ma r z with
  | bad => rw [hm] at o; exact o.elim
  | ex x z1 => rw [hm] at o; exact .inl ⟨mu, ex, r, z, s, sl, by rw [hm]; exact o⟩
  | ok w z0 =>
    rw [hm] at o
    have lk : ∀ (n : Nx × Nat) (b : W), w = b → srcW z0 w = some n → (∀ z i o, n.1 z i = some o → ∃ xs, rlOf z w = some xs ∧ o = xs[i]?) → (∃ xs, rlOf z0 w = some xs) → iList X.K (tE X.K w0 ma) σ H R := fun n b _ hn hx ⟨xs0, hx0⟩ => ⟨mu, ex, r, z, s, sl, by
      rw [hm]
      intro mu1 H1 v g1 s1 r1
      obtain ⟨a, vs, rfl, sq, rr⟩ := rl_of s1 r1 hx0
      refine ⟨a, rfl, ⟨vs, sq⟩, ?_⟩
      have o2 : Out Src w0 ⟨X.K, H, mu, z, ex⟩ σ R (match srcW z0 w with | some n => .ok n z0 | none => .bad) := o
      rw [hn] at o2
      exact o2 mu1 H1 (Itl X.K a) g1 s1 (src_list (e0 := ⟨X.K, H1, mu1, z0, ex⟩) r1 hx)⟩
    cases w with
    | lst xs => exact .inl (lk _ _ rfl rfl (fun z i o h => ⟨xs, rfl, (Option.some.inj h).symm⟩) ⟨xs, rfl⟩)
    | rl xs => exact .inl (lk _ _ rfl rfl (fun z i o h => ⟨xs, rfl, (Option.some.inj h).symm⟩) ⟨xs, rfl⟩)
    | ob n =>
      cases hx : rlOf z0 (.ob n) with
      | none =>
        have o2 : Out Src w0 ⟨X.K, H, mu, z, ex⟩ σ R (match srcW z0 (.ob n) with | some n => .ok n z0 | none => .bad) := o
        have : srcW z0 (.ob n) = none := by simp only [srcW, hx]; rfl
        rw [this] at o2
        exact o2.elim
      | some xs =>
        refine .inl (lk (nxW (.ob n), xs.length) _ rfl (by simp only [srcW, hx]; rfl) (fun z i o h => ?_) ⟨xs, hx⟩)
        have h' : (rlOf z (.ob n)).map (fun xs => xs[i]?) = some o := h
        cases hr : rlOf z (.ob n) with
        | none => rw [hr] at h'; cases h'
        | some ys => rw [hr] at h'; exact ⟨ys, rfl, (Option.some.inj h').symm⟩
    | tup xs =>
      refine .inr (.inl ⟨mu, ex, r, z, s, sl, ?_⟩)
      rw [hm]
      intro mu1 H1 v g1 s1 r1
      have r1' := r1
      obtain ⟨a, vs, rfl, sq, rr⟩ := sqT_of (a := 0) r1
      exact ⟨a, rfl, ⟨vs, sq⟩, o mu1 H1 (Itt X.K a) g1 s1 (src_tup (e0 := ⟨X.K, H1, mu1, z0, ex⟩) r1')⟩
    | str x =>
      refine .inr (.inr ⟨mu, ex, r, z, s, sl, ?_⟩)
      rw [hm]
      intro mu1 H1 v g1 s1 r1
      cases r1
      exact ⟨x, rfl, o mu1 H1 (Its x) g1 s1 src_str⟩
    | _ => exact o.elim
/-- range(n), range(a, b) -/
def rgW (lo : Int) (n : Nat) : List W := (List.range n).map fun k => .int (lo + (k : Nat))
def mRg1 (mr : MA) : MI := fun r z => (mr r z).bind fun ws z => match ws with
  | [.int j] => if -(2 ^ 62) ≤ j ∧ j < 2 ^ 62 then .ok (nxF (rgW 0 j.toNat), j.toNat) z else .bad
  | _ => .bad
def mRg2 (mr : MA) : MI := fun r z => (mr r z).bind fun ws z => match ws with
  | [.int i, .int j] => if -(2 ^ 62) ≤ i ∧ i < 2 ^ 62 ∧ -(2 ^ 62) ≤ j ∧ j < 2 ^ 62 then .ok (nxF (rgW i (j - i).toNat), (j - i).toNat) z else .bad
  | _ => .bad
theorem rgW_get {lo : Int} {n i : Nat} : (rgW lo n)[i]? = if i < n then some (.int (lo + (i : Nat))) else none := by
  unfold rgW
  rw [List.getElem?_map]
  by_cases h : i < n
  · rw [List.getElem?_range h, if_pos h]; rfl
  · rw [List.getElem?_eq_none (by simpa using h), if_neg h]; rfl
theorem rgW_length {lo : Int} {n : Nat} : (rgW lo n).length = n := by unfold rgW; simp
theorem src_rng {e0 : En} {lo : Int} {n m : Nat} : Src e0 (nxF (rgW lo n), m) (Itr lo n) := by
  refine ⟨fun e i w g s h => ?_, fun e i g s h => ?_⟩
  · have h' : (rgW lo n)[i]? = some w := Option.some.inj h
    rw [rgW_get] at h'
    split at h'
    · rename_i hl
      cases h'
      refine ⟨hl, fun x H' q => ?_⟩
      obtain ⟨q1, q2⟩ := q
      cases q1
      rw [q2]
      exact ⟨fun _ _ h => h, .int _⟩
    · cases h'
  · have h' : (rgW lo n)[i]? = none := Option.some.inj h
    rw [rgW_get] at h'
    split at h'
    · cases h'
    · rename_i hl
      exact Nat.le_of_not_lt hl
theorem ji_rg1 {a : Expr} (hg : Gl X "range") (hm : X.mg "range" = none) (ha : JA X w0 [a] mr) (hs : starEach [a] X.env = [(false, eval a X.env)] := by rfl) : JI X w0 tg (.Call (.Name "range" p) [a] [] pos) (mRg1 mr) := by
  refine ⟨PI.of (pi_range1 hg hm ha.pa hs) fun σ H R q => ?_⟩
  obtain ⟨mu, ex, r, z, s, sl, o⟩ := q
  refine (tOf.go (R := RWs) s sl o).imp fun v H1 ⟨mu1, z1, x, g1, s1, r1, o1⟩ => ?_
  dsimp only at o1
  split at o1
  · rename_i j
    cases r1 with
    | cons a b =>
      cases b
      cases a
      split at o1
      · rename_i hb
        exact ⟨j, rfl, hb.1, hb.2, o1 mu1 H1 _ (Gr.refl _) s1 src_rng⟩
      · exact o1.elim
  · exact o1.elim
theorem ji_rg2 {a b : Expr} (hg : Gl X "range") (hm : X.mg "range" = none) (ha : JA X w0 [a, b] mr) (hs : starEach [a, b] X.env = [(false, eval a X.env), (false, eval b X.env)] := by rfl) (hs2 : starEach [b] X.env = [(false, eval b X.env)] := by rfl) : JI X w0 tg (.Call (.Name "range" p) [a, b] [] pos) (mRg2 mr) := by
  refine ⟨PI.of (pi_range2 hg hm ha.pa hs hs2) fun σ H R q => ?_⟩
  obtain ⟨mu, ex, r, z, s, sl, o⟩ := q
  refine (tOf.go (R := RWs) s sl o).imp fun v H1 ⟨mu1, z1, x, g1, s1, r1, o1⟩ => ?_
  dsimp only at o1
  split at o1
  · rename_i i j
    cases r1 with
    | cons a b =>
      cases b with
      | cons b c =>
        cases c
        cases a
        cases b
        split at o1
        · rename_i hb
          exact ⟨i, j, rfl, hb, o1 mu1 H1 _ (Gr.refl _) s1 src_rng⟩
        · exact o1.elim
  · exact o1.elim
/-- enumerate(list) -/
def enF (xs : List W) (n : Nat) : List W := match xs with
  | [] => []
  | x :: r => .tup [.int n, x] :: enF r (n + 1)
theorem enF_get : ∀ (xs : List W) (n i : Nat), (enF xs n)[i]? = xs[i]?.map fun x => W.tup [.int ((n + i : Nat) : Int), x]
  | [], n, i => by simp [enF]
  | x :: r, n, 0 => by simp [enF]
  | x :: r, n, i + 1 => by
    show (enF r (n + 1))[i]? = _
    rw [enF_get r (n + 1) i]
    simp only [List.getElem?_cons_succ]
    congr 1
    funext y
    have : n + 1 + i = n + (i + 1) := by omega
    rw [this]
theorem enF_length : ∀ (xs : List W) (n : Nat), (enF xs n).length = xs.length
  | [], n => rfl
  | x :: r, n => by show (enF r (n + 1)).length + 1 = r.length + 1; rw [enF_length r]
def nxE (w : W) : Nx := fun z i => (rlOf z w).map fun xs => xs[i]?.map fun x => W.tup [.int (i : Nat), x]
def enW (z : Z) : W → Option (Nx × Nat)
  | .lst xs => some (nxF (enF xs 0), xs.length)
  | .rl xs => some (nxF (enF xs 0), xs.length)
  | w => (rlOf z w).map fun xs => (nxE w, xs.length)
def mEn (mr : MA) : MI := fun r z => (mr r z).bind fun ws z => match ws with
  | [w] => (match enW z w with
    | some n => .ok n z
    | none => .bad)
  | _ => .bad
theorem src_en {e0 : En} {w : W} {a : Addr} {n : Nat} {nx : Nx} (hr : RW e0 w (.ref a)) (hn : ∀ z i o, nx z i = some o → ∃ xs, rlOf z w = some xs ∧ o = xs[i]?.map fun x => W.tup [.int (i : Nat), x]) : Src e0 (nx, n) (Ite e0.K a) := by
  refine ⟨fun e i x g s h => ?_, fun e i g s h => ?_⟩
  · obtain ⟨xs, hl, ho⟩ := hn _ _ _ h
    obtain ⟨b, vs, eb, sq, rr⟩ := rl_of s (hr.monoq g) hl
    cases eb
    cases hx : xs[i]? with
    | none => rw [hx] at ho; cases ho
    | some y0 =>
      rw [hx] at ho
      cases ho
      obtain ⟨y, hy, ry⟩ := rr.get hx
      rw [g.K] at sq
      refine ⟨⟨vs, y, sq, hy⟩, fun x' H' q => ?_⟩
      obtain ⟨T, x1, rfl, hT, rfl, q2⟩ := q
      have ex := SqL.get_inj sq hy q2
      subst ex
      have g2 : Gr e (e.put T (.tup [.int (i : Nat), x1])) := s.gput hT
      refine ⟨fun b o h => by rw [upd_ne (ne_new h hT)]; exact h, .tup (.inl upd_same) (fun l => s.offL hT l) (.cons (.int _) (.cons (ry.mono g2) .nil))⟩
  · obtain ⟨xs, hl, ho⟩ := hn _ _ _ h
    obtain ⟨b, vs, eb, sq, rr⟩ := rl_of s (hr.monoq g) hl
    cases eb
    rw [g.K] at sq
    cases hx : xs[i]? with
    | none => exact ⟨vs, sq, rr.none hx⟩
    | some y0 => rw [hx] at ho; cases ho
theorem ji_en {elts : List Expr} {kk : Nat} {tpos : Pos} (hg : Gl X "enumerate") (hm : X.mg "enumerate" = none) (ha : JA X w0 [e] mr) (hs : starEach [e] X.env = [(false, eval e X.env)] := by rfl) :
    JI X w0 (.Tuple elts kk tpos) (.Call (.Name "enumerate" p) [e] [] pos) (mEn mr) := by
  refine ⟨PI.of (pi_enum hg hm ha.pa hs) fun σ H R q => ?_⟩
  obtain ⟨mu, ex, r, z, s, sl, o⟩ := q
  refine (tOf.go (R := RWs) s sl o).imp fun v H1 ⟨mu1, z1, x, g1, s1, r1, o1⟩ => ?_
  dsimp only at o1
  split at o1
  · rename_i w
    cases r1 with
    | @cons _ vv _ _ a b =>
      cases b
      have lk : ∀ (n : Nx × Nat), enW z1 w = some n → (∀ z i o, n.1 z i = some o → ∃ xs, rlOf z w = some xs ∧ o = xs[i]?.map fun x => W.tup [.int (i : Nat), x]) → (∃ xs, rlOf z1 w = some xs) → ∃ b xs, [vv] = [V.ref b] ∧ SqL X.K H1 b xs ∧ R (Ite X.K b) H1 := fun n hn hx ⟨xs0, hx0⟩ => by
        rw [hn] at o1
        obtain ⟨b, vs, rfl, sq, rr⟩ := rl_of s1 a hx0
        exact ⟨b, vs, rfl, sq, o1 mu1 H1 _ (Gr.refl _) s1 (src_en (e0 := ⟨X.K, H1, mu1, z1, ex⟩) a hx)⟩
      have lf : ∀ xs z i o, nxF (enF xs 0) z i = some o → o = xs[i]?.map fun x => W.tup [.int (i : Nat), x] := fun xs z i o h => by
        have h' := Option.some.inj h
        rw [enF_get] at h'
        rw [← h']
        simp
      cases w with
      | lst xs => exact lk _ rfl (fun z i o h => ⟨xs, rfl, lf xs z i o h⟩) ⟨xs, rfl⟩
      | rl xs => exact lk _ rfl (fun z i o h => ⟨xs, rfl, lf xs z i o h⟩) ⟨xs, rfl⟩
      | ob n =>
        cases hx : rlOf z1 (.ob n) with
        | none =>
          have : enW z1 (.ob n) = none := by simp only [enW, hx]; rfl
          rw [this] at o1
          exact o1.elim
        | some xs =>
          refine lk (nxE (.ob n), xs.length) (by simp only [enW, hx]; rfl) (fun z i o h => ?_) ⟨xs, hx⟩
          have h' : (rlOf z (.ob n)).map (fun xs => xs[i]?.map fun x => W.tup [.int (i : Nat), x]) = some o := h
          cases hr : rlOf z (.ob n) with
          | none => rw [hr] at h'; cases h'
          | some ys => rw [hr] at h'; exact ⟨ys, rfl, (Option.some.inj h').symm⟩
      | _ => exact o1.elim
  · exact o1.elim
/-- zip(list, list) -/
def zpF : List W → List W → List W
  | x :: xs, y :: ys => .tup [x, y] :: zpF xs ys
  | _, _ => []
theorem zpF_get : ∀ (xs ys : List W) (i : Nat), (zpF xs ys)[i]? = xs[i]?.bind fun x => ys[i]?.map fun y => W.tup [x, y]
  | [], ys, i => by simp [zpF]
  | x :: r, [], i => by cases h : (x :: r)[i]? <;> simp [zpF]
  | x :: r, y :: q, 0 => by simp [zpF]
  | x :: r, y :: q, i + 1 => by show (zpF r q)[i]? = _; rw [zpF_get r q i]; simp
def mZp (mr : MA) : MI := fun r z => (mr r z).bind fun ws z => match ws with
  | [w, u] => (match rlOf z w, rlOf z u with
    | some xs, some ys => (match w, u with
      | .ob _, _ => .bad
      | _, .ob _ => .bad
      | _, _ => .ok (nxF (zpF xs ys), (zpF xs ys).length) z)
    | _, _ => .bad)
  | _ => .bad
theorem rl_fix {w : W} (h : ∀ n, w ≠ .ob n) (z z' : Z) : rlOf z w = rlOf z' w := by
  cases w <;> first | rfl | exact absurd rfl (h _)
theorem src_zp {e0 : En} {w u : W} {a b : Addr} {xs ys : List W} {n : Nat} (ra : RW e0 w (.ref a)) (rb : RW e0 u (.ref b)) (hw : ∀ z, rlOf z w = some xs) (hu : ∀ z, rlOf z u = some ys) : Src e0 (nxF (zpF xs ys), n) (Itz e0.K a b) := by
  refine ⟨fun e i x g s h => ?_, fun e i g s h => ?_⟩
  · obtain ⟨_, vs, eb, sq, rr⟩ := rl_of s (ra.monoq g) (hw _)
    cases eb
    obtain ⟨_, us, eb, sq2, rr2⟩ := rl_of s (rb.monoq g) (hu _)
    cases eb
    have h' := Option.some.inj h
    rw [zpF_get] at h'
    obtain ⟨x1, hx1, h'⟩ := Option.bind_eq_some_iff.mp h'
    obtain ⟨y1, hy1, h'⟩ := Option.map_eq_some_iff.mp h'
    subst h'
    obtain ⟨v1, hv1, rv1⟩ := rr.get hx1
    obtain ⟨v2, hv2, rv2⟩ := rr2.get hy1
    rw [g.K] at sq sq2
    refine ⟨⟨vs, us, v1, v2, sq, sq2, hv1, hv2⟩, fun x' H' q => ?_⟩
    obtain ⟨T, x3, y3, rfl, hT, rfl, q2, q3⟩ := q
    have e1 := SqL.get_inj sq hv1 q2
    have e2 := SqL.get_inj sq2 hv2 q3
    subst e1
    subst e2
    have g2 : Gr e (e.put T (.tup [x3, y3])) := s.gput hT
    exact ⟨fun b o h => by rw [upd_ne (ne_new h hT)]; exact h, .tup (.inl upd_same) (fun l => s.offL hT l) (.cons (rv1.mono g2) (.cons (rv2.mono g2) .nil))⟩
  · obtain ⟨_, vs, eb, sq, rr⟩ := rl_of s (ra.monoq g) (hw _)
    cases eb
    obtain ⟨_, us, eb, sq2, rr2⟩ := rl_of s (rb.monoq g) (hu _)
    cases eb
    rw [g.K] at sq sq2
    refine ⟨vs, us, sq, sq2, ?_⟩
    have h' := Option.some.inj h
    rw [zpF_get] at h'
    cases hx : xs[i]? with
    | none => exact .inl (rr.none hx)
    | some x1 =>
      rw [hx] at h'
      cases hy : ys[i]? with
      | none => exact .inr (rr2.none hy)
      | some y1 => rw [hy] at h'; cases h'
theorem ji_zp {e2 : Expr} {elts : List Expr} {kk : Nat} {tpos : Pos} (hg : Gl X "zip") (hm : X.mg "zip" = none) (ha : JA X w0 [e, e2] mr) (hs : starEach [e, e2] X.env = (false, eval e X.env) :: starEach [e2] X.env := by rfl) (hpl : (backTo pos (starEach [e2] X.env)).any (·.1) = false := by rfl) :
    JI X w0 (.Tuple elts kk tpos) (.Call (.Name "zip" p) [e, e2] [] pos) (mZp mr) := by
  refine ⟨PI.of (pi_zip hg hm ha.pa hs hpl) fun σ H R q => ?_⟩
  obtain ⟨mu, ex, r, z, s, sl, o⟩ := q
  refine (tOf.go (R := RWs) s sl o).imp fun v H1 ⟨mu1, z1, x, g1, s1, r1, o1⟩ => ?_
  dsimp only at o1
  split at o1
  · rename_i w u
    cases r1 with
    | cons a b =>
      cases b with
      | cons b c =>
        cases c
        split at o1
        · rename_i xs ys hx hy
          split at o1
          · exact o1.elim
          · exact o1.elim
          · rename_i n1 n2
            obtain ⟨pa, vs, rfl, sq, _⟩ := rl_of s1 a hx
            obtain ⟨pb, us, rfl, sq2, _⟩ := rl_of s1 b hy
            exact ⟨pa, pb, vs, us, rfl, sq, sq2, o1 mu1 H1 _ (Gr.refl _) s1 (src_zp (e0 := ⟨X.K, H1, mu1, z1, ex⟩) a b (fun z => by rw [rl_fix (fun n q => n1 n q) z z1]; exact hx) (fun z => by rw [rl_fix (fun n q => n2 n q) z z1]; exact hy))⟩
        · exact o1.elim
  · exact o1.elim
end
end J
namespace J
open PySem PySem.Spec L2
/-! ### comprehensions -/
def wipeR (r : Sl) : List Nat → Sl
  | [] => r
  | v :: vs => (wipeR r vs).set v none
theorem SlO.wipe {e : En} {r : Sl} {σ : L2.St} (h : SlO e r σ) : ∀ vs : List Nat, SlO e (wipeR r vs) (L2.wipe σ vs)
  | [] => h
  | v :: vs => (SlO.wipe h vs).forget
theorem wipe_in {σ : L2.St} {i : Nat} : ∀ {vs : List Nat}, i ∈ vs → (L2.wipe σ vs)[i]? = if i < σ.length then some none else none
  | v :: vs, h => by
    show ((L2.wipe σ vs).set v none)[i]? = _
    rw [List.getElem?_set]
    by_cases c : v = i
    · subst c
      rw [if_pos rfl, wipe_length]
    · rw [if_neg c]
      rcases List.mem_cons.mp h with z | z
      · exact absurd z.symm c
      · exact wipe_in z
theorem wipe_eq {σ σ' : L2.St} {vs us : List Nat} (hu : ∀ i ∈ us, i ∈ vs) (h : ∀ i, i ∉ us → σ'[i]? = (L2.wipe σ vs)[i]?) (hl : σ'.length = (L2.wipe σ vs).length) : L2.wipe σ' vs = L2.wipe σ vs := by
  refine List.ext_getElem? fun i => ?_
  by_cases c : i ∈ vs
  · rw [wipe_in c, wipe_in c, hl, wipe_length]
  · rw [wipe_out c, h i (fun z => c (hu i z))]
def wF : WX := fun _ _ _ _ => False
@[simp] def Res.calm {α : Type} : Res α → Res α
  | .ex _ _ => .bad
  | r => r
/-- the turns of a clause: body takes the slots and what is gathered -/
def lcI (nx : Nx) (f : W → Sl → Option Sl) (mt : MT) (body : Sl → List W → Z → Res (List W)) (r : Sl) : Nat → Nat → List W → Z → Res (List W)
  | 0, _, _, _ => .bad
  | k + 1, i, acc, z => match nx z i with
    | none => .bad
    | some none => .ok acc z
    | some (some w) => match f w r with
      | none => .bad
      | some r' => (mt r' z).calm.bind fun b z => if b then (body r' acc z).bind fun acc z => lcI nx f mt body r k (i + 1) acc z else lcI nx f mt body r k (i + 1) acc z
def bOne (me : ME) : Sl → List W → Z → Res (List W) := fun r acc z => (me r z).calm.bind fun y z => if acc.length < sizeLine then .ok (acc ++ [y]) z else .bad
def bTwo (mi : MI) (f : W → Sl → Option Sl) (mt : MT) (me : ME) (vs : List Nat) : Sl → List W → Z → Res (List W) := fun r acc z => (mi r z).calm.bind fun n z => lcI n.1 f mt (bOne me) (wipeR r vs) (n.2 + 1) 0 acc z
def mLcB (mi : MI) (f : W → Sl → Option Sl) (mt : MT) (body : Sl → List W → Z → Res (List W)) (vs : List Nat) : ME := fun r z => (mi r z).bind fun n z => (lcI n.1 f mt body (wipeR r vs) (n.2 + 1) 0 [] z).calm.bind fun acc z => .ok (.lst acc) z
abbrev mLc (mi : MI) (f : W → Sl → Option Sl) (mt : MT) (me : ME) (vs : List Nat) : ME := mLcB mi f mt (bOne me) vs
abbrev mLc2 (mi : MI) (f : W → Sl → Option Sl) (mt : MT) (mi1 : MI) (f1 : W → Sl → Option Sl) (mt1 : MT) (me : ME) (vs vs1 : List Nat) : ME := mLcB mi f mt (bTwo mi1 f1 mt1 me vs1) vs
/-- what is gathered at D -/
structure Acc (e1 : En) (D : Addr) (mu : List Addr) (acc : List W) (z : Z) (H : Hp) : Prop where
  g : Gq e1 ⟨e1.K, H, mu, z, D :: e1.ex⟩
  k : ∀ a ∈ e1.ex, H a = e1.H a
  s : SR ⟨e1.K, H, mu, z, D :: e1.ex⟩
  a : ∃ vs, H D = some (.lst vs) ∧ RWs ⟨e1.K, H, mu, z, D :: e1.ex⟩ acc vs
section
variable {K : PySem.W.Frag} {e1 : En} {D : Addr}
theorem Acc.step {mu mu' : List Addr} {acc : List W} {z z' : Z} {H H' : Hp} (A : Acc e1 D mu acc z H) (g : Gr ⟨e1.K, H, mu, z, D :: e1.ex⟩ ⟨e1.K, H', mu', z', D :: e1.ex⟩) (s : SR ⟨e1.K, H', mu', z', D :: e1.ex⟩) : Acc e1 D mu' acc z' H' := by
  obtain ⟨vs, h, r⟩ := A.a
  exact ⟨A.g.trans g.toGq, fun a m => (g.keepx a (List.mem_cons_of_mem _ m)).trans (A.k a m), s, vs, (g.keepx D (List.mem_cons_self ..)).trans h, r.mono g⟩
theorem Acc.push {mu : List Addr} {acc : List W} {z : Z} {H : Hp} {w : W} {v : V} (hD : e1.H D = none) (hx : ∀ a ∈ e1.ex, a ≠ D) (A : Acc e1 D mu acc z H) (r : RW ⟨e1.K, H, mu, z, D :: e1.ex⟩ w v) (hl : acc.length < sizeLine) :
    ∃ vs, H D = some (.lst vs) ∧ vs.length < sizeLine ∧ Acc e1 D mu (acc ++ [w]) z (upd H D (.lst (vs ++ [v]))) := by
  obtain ⟨vs, h, rr⟩ := A.a
  have hm : D ∈ (⟨e1.K, H, mu, z, D :: e1.ex⟩ : En).ex := List.mem_cons_self ..
  obtain ⟨s2, two⟩ := A.s.wrx (o := .lst (vs ++ [v])) hm
  refine ⟨vs, h, rr.length ▸ hl, ⟨rfl, A.g.ex, A.g.pre, A.g.live, fun a o q n => ?_⟩, fun a m => ?_, s2, vs ++ [v], upd_same, RWs.to (e := ⟨e1.K, H, mu, z, D :: e1.ex⟩) (e' := En.put ⟨e1.K, H, mu, z, D :: e1.ex⟩ D (.lst (vs ++ [v]))) rfl (fun _ _ h => h) two (rr.append (.cons r .nil))⟩
  · show upd H D _ a = some o
    rw [upd_ne (ne_new q hD)]
    exact A.g.keep a o q n
  · show upd H D _ a = e1.H a
    rw [upd_ne (hx a m)]
    exact A.k a m
/-- what a body is to its reading -/
def BdOk (e1 : En) (D : Addr) (t : L2.St → Hp → (Hp → Prop) → Prop) (body : Sl → List W → Z → Res (List W)) : Prop :=
  ∀ (mu : List Addr) (r : Sl) (σ : L2.St) (acc : List W) (z : Z) (H : Hp) (acc' : List W) (z' : Z) (N : Hp → Prop), Acc e1 D mu acc z H → SlO ⟨e1.K, H, mu, z, D :: e1.ex⟩ r σ → body r acc z = .ok acc' z' →
    (∀ mu' H', Gq ⟨e1.K, H, mu, z, D :: e1.ex⟩ ⟨e1.K, H', mu', z', D :: e1.ex⟩ → Acc e1 D mu' acc' z' H' → N H') → t σ H N
theorem calm_ok {α : Type} {m : Res α} {a : α} {z : Z} (h : m.calm = .ok a z) : m = .ok a z := by cases m <;> first | exact h | cases h
theorem bind_ok {α β : Type} {m : Res α} {f : α → Z → Res β} {b : β} {z : Z} (h : m.bind f = .ok b z) : ∃ a z1, m = .ok a z1 ∧ f a z1 = .ok b z := by cases m <;> first | exact ⟨_, _, rfl, h⟩ | cases h
theorem Acc.gpush {mu : List Addr} {z : Z} {H : Hp} {o : HO} (s : SR ⟨e1.K, H, mu, z, D :: e1.ex⟩) : Gq ⟨e1.K, H, mu, z, D :: e1.ex⟩ ⟨e1.K, upd H D o, mu, z, D :: e1.ex⟩ :=
  ⟨rfl, ⟨[], rfl⟩, ⟨[], by simp⟩, fun _ l => .inl l, fun a u q n => by
    have ne : a ≠ D := fun z => n (by rw [z]; exact .inr (List.mem_cons_self ..))
    show upd H D o a = some u
    rw [upd_ne ne]; exact q⟩
theorem bd_one {me : ME} (hD : e1.H D = none) (hx : ∀ a ∈ e1.ex, a ≠ D) : BdOk e1 D (fun σ H N => tE e1.K wF me σ H fun y H4 => ∃ acc, H4 D = some (.lst acc) ∧ acc.length < sizeLine ∧ N (upd H4 D (.lst (acc ++ [y])))) (bOne me) := by
  intro mu r σ acc z H acc' z' N A l hb hN
  obtain ⟨y, z1, h1, h2⟩ := bind_ok hb
  have h1 := calm_ok h1
  split at h2
  · rename_i hl
    cases h2
    refine ⟨mu, D :: e1.ex, r, z, A.s, l, ?_⟩
    rw [h1]
    intro mu4 H4 v g4 s4 r4
    obtain ⟨vs, e1', e2', A'⟩ := (A.step g4 s4).push hD hx r4 hl
    exact ⟨vs, e1', e2', hN mu4 _ (g4.toGq.trans (Acc.gpush (e1 := e1) (D := D) (mu := mu4) (z := z') (H := H4) s4)) A'⟩
  · cases h2
/-- the loop of a clause -/
theorem lc_loop {n : Nx × Nat} {J : It} {e0 : En} {g : TG} {f : W → Sl → Option Sl} {us vs : List Nat} {mt : MT} {t : L2.St → Hp → (Hp → Prop) → Prop} {body : Sl → List W → Z → Res (List W)} {r : Sl} {σ : L2.St} {accF : List W} {zF : Z} {Qd : Hp → Prop} {k0 : Nat} {acc0 : List W} {mu0 : List Addr} {z0 : Z} {H0 : Hp}
    (src : Src e0 n J) (hv : GV e1.K g f us) (hu : ∀ i ∈ us, i ∈ vs) (hb : BdOk e1 D t body) (A0 : Acc e1 D mu0 acc0 z0 H0) (g0 : Gq e0 ⟨e1.K, H0, mu0, z0, D :: e1.ex⟩) (l0 : SlO ⟨e1.K, H0, mu0, z0, D :: e1.ex⟩ r σ)
    (hr : lcI n.1 f mt body (wipeR r vs) k0 0 acc0 z0 = .ok accF zF) (hQ : ∀ mu H, Gq ⟨e1.K, H0, mu0, z0, D :: e1.ex⟩ ⟨e1.K, H, mu, zF, D :: e1.ex⟩ → Acc e1 D mu accF zF H → Qd H) :
    ∃ Wv : Nat → Nat → Hp → Prop, (∃ m, Wv 0 m H0) ∧ ∀ i m H, Wv i m H → (J.stop i H ∧ Qd H) ∨ (J.go i H ∧ ∃ Nx : Hp → Prop, (∀ H', Nx H' → ∃ m', m' < m ∧ Wv (i + 1) m' H') ∧
      ∀ x H', J.yld i H x H' → g x (L2.wipe σ vs) H' fun σ2 H2 => L2.wipe σ2 vs = L2.wipe σ vs ∧ tT e1.K wF mt σ2 H2 fun b H3 => if b = true then t σ2 H3 Nx else Nx H3) := by
  refine ⟨fun i m H => ∃ mu acc z, Gq ⟨e1.K, H0, mu0, z0, D :: e1.ex⟩ ⟨e1.K, H, mu, z, D :: e1.ex⟩ ∧ Acc e1 D mu acc z H ∧ lcI n.1 f mt body (wipeR r vs) m i acc z = .ok accF zF, ⟨k0, mu0, acc0, z0, Gq.refl _, A0, hr⟩, ?_⟩
  rintro i m H ⟨mu, acc, z, g1, A, h⟩
  cases m with
  | zero => cases h
  | succ k =>
    unfold lcI at h
    cases hn : n.1 z i with
    | none => rw [hn] at h; cases h
    | some y =>
      cases y with
      | none =>
        rw [hn] at h
        cases h
        exact .inl ⟨src.stop ⟨e1.K, H, mu, _, D :: e1.ex⟩ i (g0.trans g1) A.s hn, hQ mu H g1 A⟩
      | some w =>
        rw [hn] at h
        obtain ⟨go, yl⟩ := src.go ⟨e1.K, H, mu, z, D :: e1.ex⟩ i w (g0.trans g1) A.s hn
        refine .inr ⟨go, fun H' => ∃ mu3 acc3 z3, Gq ⟨e1.K, H0, mu0, z0, D :: e1.ex⟩ ⟨e1.K, H', mu3, z3, D :: e1.ex⟩ ∧ Acc e1 D mu3 acc3 z3 H' ∧ lcI n.1 f mt body (wipeR r vs) k (i + 1) acc3 z3 = .ok accF zF, fun H' h => ⟨k, Nat.lt_succ_self k, h⟩, fun x H' hy => ?_⟩
        obtain ⟨kp, rx⟩ := yl x H' hy
        have g3 := A.s.ggrow kp
        have s3 := A.s.grow kp
        have A3 := A.step g3 s3
        dsimp only at h
        cases hf : f w (wipeR r vs) with
        | none => rw [hf] at h; cases h
        | some r' =>
          rw [hf] at h
          have lw : SlO ⟨e1.K, H', mu, z, D :: e1.ex⟩ (wipeR r vs) (L2.wipe σ vs) := ((l0.monoq g1).mono g3).wipe vs
          refine hv ⟨e1.K, H', mu, z, D :: e1.ex⟩ (wipeR r vs) (L2.wipe σ vs) w x r' _ rfl s3 lw rx hf fun σ2 l2 k2 e2 => ⟨wipe_eq hu k2 e2, ⟨mu, D :: e1.ex, r', z, s3, l2, ?_⟩⟩
          obtain ⟨b, z4, h4, h5⟩ := bind_ok h
          rw [calm_ok h4]
          intro mu4 H4 b' g4 s4 r4
          cases (show b = b' from r4)
          have A4 := A3.step g4 s4
          have gg := (g1.trans g3.toGq).trans g4.toGq
          cases b with
          | false => exact ⟨mu4, acc, z4, gg, A4, h5⟩
          | true =>
            obtain ⟨acc5, z5, h6, h7⟩ := bind_ok (show (body r' acc z4).bind (fun acc z => lcI n.1 f mt body (wipeR r vs) k (i + 1) acc z) = .ok accF zF from h5)
            refine hb mu4 r' σ2 acc z4 H4 acc5 z5 _ A4 (l2.mono g4) h6 fun mu' H5 g5 A5 => ⟨mu', acc5, z5, gg.trans g5, A5, h7⟩
theorem bd_two {mi : MI} {g1 : TG} {f1 : W → Sl → Option Sl} {us1 vs1 : List Nat} {mt1 : MT} {me : ME} (hD : e1.H D = none) (hx : ∀ a ∈ e1.ex, a ≠ D) (hv : GV e1.K g1 f1 us1) (hu : ∀ i ∈ us1, i ∈ vs1) :
    BdOk e1 D (fun σ2 H3 N => tOf Src e1.K wF mi σ2 H3 fun J1 H4 => ∃ W1 : Nat → Nat → Hp → Prop, (∃ m, W1 0 m H4) ∧ ∀ j k H, W1 j k H → (J1.stop j H ∧ N H) ∨ (J1.go j H ∧ ∃ Nx1 : Hp → Prop, (∀ H', Nx1 H' → ∃ k', k' < k ∧ W1 (j + 1) k' H') ∧
      ∀ x H', J1.yld j H x H' → g1 x (L2.wipe σ2 vs1) H' fun σ3 H5 => L2.wipe σ3 vs1 = L2.wipe σ2 vs1 ∧ tT e1.K wF mt1 σ3 H5 fun b H6 => if b = true then tE e1.K wF me σ3 H6 fun y H7 => ∃ acc, H7 D = some (.lst acc) ∧ acc.length < sizeLine ∧ Nx1 (upd H7 D (.lst (acc ++ [y]))) else Nx1 H6)) (bTwo mi f1 mt1 me vs1) := by
  intro mu r σ acc z H acc' z' N A l hb hN
  obtain ⟨n, z1, h1, h2⟩ := bind_ok hb
  refine ⟨mu, D :: e1.ex, r, z, A.s, l, ?_⟩
  rw [calm_ok h1]
  intro mu4 H4 J g4 s4 src
  exact lc_loop (e1 := e1) (D := D) (e0 := ⟨e1.K, H4, mu4, z1, D :: e1.ex⟩) src hv hu (bd_one hD hx) (A.step g4 s4) (Gq.refl _) (l.mono g4) h2 fun mu5 H5 g5 A5 => hN mu5 H5 (g4.toGq.trans g5) A5
end
/-- what a comprehension reads -/
theorem lcB_t {K : PySem.W.Frag} {w0 : WX} {mi : MI} {g : TG} {f : W → Sl → Option Sl} {us vs : List Nat} {mt : MT} {t : Addr → L2.St → Hp → (Hp → Prop) → Prop} {body : Sl → List W → Z → Res (List W)} (hv : GV K g f us) (hu : ∀ i ∈ us, i ∈ vs)
    (hb : ∀ (e1 : En) (D : Addr), e1.K = K → e1.H D = none → (∀ a ∈ e1.ex, a ≠ D) → BdOk e1 D (t D) body) (σ : L2.St) (H : Hp) (Q : VK) (q : tO K w0 (mLcB mi f mt body vs) σ H Q) :
    tOf Src K w0 mi σ H fun J H1 => ∀ D, H1 D = none → ∃ Wv : Nat → Nat → Hp → Prop, (∃ m, Wv 0 m (upd H1 D (.lst []))) ∧ ∀ i m H, Wv i m H → (J.stop i H ∧ Q (.ref D) H) ∨ (J.go i H ∧ ∃ Nx : Hp → Prop, (∀ H', Nx H' → ∃ m', m' < m ∧ Wv (i + 1) m' H') ∧
      ∀ x H', J.yld i H x H' → g x (L2.wipe σ vs) H' fun σ2 H2 => L2.wipe σ2 vs = L2.wipe σ vs ∧ tT K wF mt σ2 H2 fun b H3 => if b = true then t D σ2 H3 Nx else Nx H3) := by
  obtain ⟨mu, ex, r, z, s, sl, o⟩ := q
  refine (tOf.goO (R := Src) s sl o).imp fun J H1 ⟨mu1, z1, n, g1, s1, src, o1⟩ D hD => ?_
  dsimp only at o1
  have hx : ∀ a ∈ ex, a ≠ D := fun a m z => s1.offx hD (z ▸ m)
  cases hr : lcI n.1 f mt body (wipeR r vs) (n.2 + 1) 0 [] z1 with
  | bad => rw [hr] at o1; exact o1.elim
  | ex x z2 =>
    rw [hr] at o1; exact o1.elim
  | ok acc z2 =>
    rw [hr] at o1
    have A0 : Acc ⟨K, H1, mu1, z1, ex⟩ D mu1 [] z1 (upd H1 D (.lst [])) :=
      ⟨(s1.gown hD).toGq, (s1.gown (o := .lst []) hD).keepx, s1.own hD, [], upd_same, .nil⟩
    refine lc_loop (e1 := ⟨K, H1, mu1, z1, ex⟩) (D := D) (e0 := ⟨K, H1, mu1, z1, ex⟩) src hv hu (hb ⟨K, H1, mu1, z1, ex⟩ D rfl hD hx) A0 (s1.gown hD).toGq ((sl.mono g1).mono (s1.gown hD)) hr fun mu5 H5 g5 A5 => ?_
    obtain ⟨vs5, h5, r5⟩ := A5.a
    refine o1 mu5 H5 D hD ⟨⟨rfl, ⟨[], rfl⟩, A5.g.pre, fun a l => A5.g.live a (by
      rcases l with l | l
      · exact .inl l
      · exact .inr (List.mem_cons_of_mem _ l)), A5.g.keep⟩, A5.k⟩ A5.s (.lst h5 r5)
section
variable {X : Cx} {w0 : WX}
/-- the tests of a clause -/
structure JTs (X : Cx) (w0 : WX) (ifs : List Expr) (m : MT) : Prop where
  pt : PTs X ifs (tT X.K w0 m)
def mYes : MT := fun _ z => .ok true z
theorem PTs.of {ifs : List Expr} {t t' : TT} (h : PTs X ifs t) (k : ∀ σ H Q, t' σ H Q → t σ H Q) : PTs X ifs t' := ⟨fun pins s σ H Q I q => h.run pins s σ H Q I (k _ _ _ q)⟩
theorem jts_nil : JTs X w0 [] mYes := by
  refine ⟨PTs.of pts_nil fun σ H Q q => ?_⟩
  obtain ⟨mu, ex, r, z, s, sl, o⟩ := q
  exact o mu H true (Gr.refl _) s rfl
theorem jts_one {c : Expr} {mt : MT} (h : JT X w0 c mt) : JTs X w0 [c] mt := ⟨pts_one h.pt⟩
theorem tO_of_tE {K : PySem.W.Frag} {m : ME} (σ : L2.St) (H : Hp) (Q : VK) (q : tE K w0 m σ H Q) : tO K w0 m σ H Q := by
  obtain ⟨mu, ex, r, z, s, sl, o⟩ := q
  refine ⟨mu, ex, r, z, s, sl, ?_⟩
  cases hm : m r z with
  | bad => rw [hm] at o; exact o
  | ex x z1 => rw [hm] at o; exact o
  | ok w z1 =>
    rw [hm] at o
    intro mu' H' a f g s' c
    exact o mu' H' (.ref a) g (SR.froz (e := ⟨K, H', mu', z1, a :: ex⟩) s' rfl) (froz_rw (s.offx f) s' c)
theorem tO_of_num {K : PySem.W.Frag} {m : ME} (σ : L2.St) (H : Hp) (Q : VK) (q : tE K w0 (mNum m) σ H Q) : tO K w0 m σ H Q := by
  obtain ⟨mu, ex, r, z, s, sl, o⟩ := q
  refine ⟨mu, ex, r, z, s, sl, ?_⟩
  unfold mNum at o
  cases hm : m r z with
  | bad => rw [hm] at o; exact o
  | ex x z1 => rw [hm] at o; exact o
  | ok w z1 =>
    rw [hm] at o
    intro mu' H' a f g s' c
    have na := s.offx f
    refine o (mu' ++ [a]) H' (.ref a) ⟨⟨rfl, ⟨[], rfl⟩, ?_, fun b l => ?_, g.keep⟩, g.keepx⟩ (SR.num (e := ⟨K, H', mu', z1, a :: ex⟩) s' rfl na c) ?_
    · obtain ⟨t, ht⟩ := g.pre
      exact ⟨t ++ [a], by rw [show mu' = mu ++ t from ht]; simp⟩
    · rcases l with l | l
      · rcases Lv.num s'.len l with l | l
        · exact g.live b (.inl l)
        · rw [l]; exact .inr f
      · exact .inl (.inr l)
    · refine .ob ?_
      show (mu' ++ [a])[z1.length]? = some a
      have hl : mu'.length = z1.length := s'.len
      rw [← hl, List.getElem?_append_right (Nat.le_refl _), Nat.sub_self]; rfl
theorem lc_t {K : PySem.W.Frag} {mi : MI} {g : TG} {f : W → Sl → Option Sl} {us vs : List Nat} {mt : MT} {me : ME} (hv : GV K g f us) (hu : ∀ i ∈ us, i ∈ vs) (σ : L2.St) (H : Hp) (Q : VK) (q : tO K w0 (mLc mi f mt me vs) σ H Q) :
    tLc (tOf Src K w0 mi) g (tT K wF mt) (tE K wF me) vs σ H Q :=
  lcB_t (t := fun D σ2 H3 N => tE K wF me σ2 H3 fun y H4 => ∃ acc, H4 D = some (.lst acc) ∧ acc.length < sizeLine ∧ N (upd H4 D (.lst (acc ++ [y])))) hv hu (fun e1 D hk hD hx => by
    subst hk
    exact bd_one hD hx) σ H Q q
theorem lc2_t {K : PySem.W.Frag} {mi mi1 : MI} {g g1 : TG} {f f1 : W → Sl → Option Sl} {us vs us1 vs1 : List Nat} {mt mt1 : MT} {me : ME} (hv : GV K g f us) (hu : ∀ i ∈ us, i ∈ vs) (hv1 : GV K g1 f1 us1) (hu1 : ∀ i ∈ us1, i ∈ vs1) (σ : L2.St) (H : Hp) (Q : VK)
    (q : tO K w0 (mLc2 mi f mt mi1 f1 mt1 me vs vs1) σ H Q) : tLc2 (tOf Src K w0 mi) g (tT K wF mt) (tOf Src K wF mi1) g1 (tT K wF mt1) (tE K wF me) vs vs1 σ H Q :=
  lcB_t hv hu (fun e1 D hk hD hx => by
    subst hk
    exact bd_two hD hx hv1 hu1) σ H Q q
theorem jo_lc {e : Expr} {mi : MI} {g : TG} {f : W → Sl → Option Sl} {us vs : List Nat} {mt : MT} {me : ME} (h : PE X e (tLc (tOf Src X.K w0 mi) g (tT X.K wF mt) (tE X.K wF me) vs)) (hv : GV X.K g f us) (hu : ∀ i ∈ us, i ∈ vs) : JO X w0 e (mLc mi f mt me vs) :=
  ⟨PE.of h (lc_t hv hu)⟩
theorem jo_lc2 {e : Expr} {mi mi1 : MI} {g g1 : TG} {f f1 : W → Sl → Option Sl} {us vs us1 vs1 : List Nat} {mt mt1 : MT} {me : ME} (h : PE X e (tLc2 (tOf Src X.K w0 mi) g (tT X.K wF mt) (tOf Src X.K wF mi1) g1 (tT X.K wF mt1) (tE X.K wF me) vs vs1)) (hv : GV X.K g f us) (hu : ∀ i ∈ us, i ∈ vs)
    (hv1 : GV X.K g1 f1 us1) (hu1 : ∀ i ∈ us1, i ∈ vs1) : JO X w0 e (mLc2 mi f mt mi1 f1 mt1 me vs vs1) := ⟨PE.of h (lc2_t hv hu hv1 hu1)⟩
/-- y = [..], frozen or numbered -/
theorem js_setO {st : Stmt} {i : Nat} {t : TE} {m : ME} (h : PS X st (tAsg t (gName i))) (k : ∀ σ H Q, tO X.K w0 m σ H Q → t σ H Q) : JS X w0 st (sSet i m) :=
  js_set (PS.of h fun D σ H q => k _ _ _ (tO_of_tE _ _ _ q))
theorem js_setN {st : Stmt} {i : Nat} {t : TE} {m : ME} (h : PS X st (tAsg t (gName i))) (k : ∀ σ H Q, tO X.K w0 m σ H Q → t σ H Q) : JS X w0 st (sSet i (mNum m)) :=
  js_set (PS.of h fun D σ H q => k _ _ _ (tO_of_num _ _ _ q))
end
end J
namespace J
open PySem PySem.Spec L2
/-! ### defs -/
abbrev Fn := List W → Z → Res W
def spOf (K : PySem.W.Frag) (F : Fn) : Sp := fun vs H Q E => ∃ mu ex ws z, SR ⟨K, H, mu, z, ex⟩ ∧ RWs ⟨K, H, mu, z, ex⟩ ws vs ∧ Out RW (fun c d _ H => E c d H) ⟨K, H, mu, z, ex⟩ [] Q (F ws z)
def outF : RS → Res W
  | .ok (.rt w) z => .ok w z
  | .ok (.nx _) z => .ok .non z
  | .ex x _ z => .ex x z
  | _ => .bad
def fnB (n N : Nat) (B : MS) : Fn := fun ws z => if ws.length = n then outF (B (ws.map some ++ List.replicate (N - n) none) z) else .bad
theorem slo_start {e : En} {N : List Str} {n : Nat} {ws : List W} {vs : List V} (r : RWs e ws vs) (hn : ws.length = n) : SlO e (ws.map some ++ List.replicate (N.length - n) none) (L2.start N vs) := by
  have hl := r.length
  unfold L2.start
  refine ⟨by rw [List.length_append, List.length_append, List.length_map, List.length_map, List.length_replicate, List.length_replicate, ← hn, hl], fun i w h => ?_⟩
  rcases Nat.lt_or_ge i ws.length with q | q
  · rw [List.getElem?_append_left (by rw [List.length_map]; exact q), List.getElem?_map] at h
    obtain ⟨w', h1, h2⟩ := Option.map_eq_some_iff.mp h
    cases h2
    obtain ⟨v, hv, rv⟩ := r.get h1
    exact ⟨v, by rw [List.getElem?_append_left (by rw [List.length_map, ← hl]; exact q), List.getElem?_map, hv]; rfl, rv⟩
  · rw [List.getElem?_append_right (by rw [List.length_map]; exact q)] at h
    have := List.mem_of_getElem? h
    have := List.eq_of_mem_replicate this
    cases this
theorem out_fn {w0 : WX} {e : En} {Q : VK} {E : XK} {m : RS} (h : Out RW (fun c d _ H => E c d H) e [] Q (outF m)) : OutS (fun c d _ H => E c d H) e { nx := fun _ H' => Q .non H', rt := Q } m := by
  cases m with
  | bad => exact h
  | ex x r z => exact fun mu' H' σ' d us g s l hd nl rf => h mu' H' d us g s hd nl rf
  | ok f z =>
    cases f with
    | nx r => exact fun mu' H' σ' g s l => h mu' H' .non g s .non
    | rt w => exact h
    | bk r => exact h.elim
    | ct r => exact h.elim
section
variable {P : Program} {w : World} {K : PySem.W.Frag} {mg : Str → Option Value} {base : Heap} {k : Nat} {f : Addr} {fd : FuncData} {ps N : List Str}
theorem fn_ok {x qual : Str} {params : Arguments} {body : List Stmt} {scope : Scope} {dvs : List V} {kws : List (Str × V)} {B : MS} (F : FunD K x qual params body scope dvs kws f fd) (S : FnScope N ps scope)
    (hB : ∀ (cdv : Value) (A : Around) (outer : List Env) (s : Shared) (H : Hp) (E : XK), A.guards = some [] → Room k (A.deeper (PyProof.Rows.envOfC qual scope s.heap.objs.size f cdv)) →
      JB (cxOf (L2.CX P w) P w K mg base N qual scope f cdv A outer s H E) (fun c d _ H => E c d H) body B) : GOk P w K mg base (L2.CX P w) (k + 1) f fd ps (spOf K (fnB ps.length N.length B)) := by
  refine F.okG S (fun vs H Q E h => ?_) (fun cdv A outer s H vs Q E hG hr h => ?_)
  · obtain ⟨mu, ex, ws, z, sr, r, o⟩ := h
    unfold fnB at o
    split at o
    · rename_i hl
      rw [← r.length]; exact hl
    · exact o.elim
  · obtain ⟨mu, ex, ws, z, sr, r, o⟩ := h
    unfold fnB at o
    split at o
    · rename_i hl
      exact ⟨_, (hB cdv A outer s H E hG hr).ps, mu, ex, _, z, sr, slo_start r hl, out_fn (w0 := fun _ _ _ _ => False) o⟩
    · exact o.elim
end
section
variable {X : Cx} {w0 : WX} {k n : Nat} {f : Addr} {fd : FuncData} {ps ks : List Str} {F : Fn} {x : Str} {p pos : Pos} {e : Expr} {es : List Expr} {kws : List Keyword} {ma mk : MA} {dvs : List V} {ds : List Value} {dws : List W}
@[simp] def mCall (F : Fn) (dws : List W) (ma : MA) : ME := fun r z => (ma r z).bind fun ws z => F (ws ++ dws) z
theorem je_call (G : GOk X.prog X.w X.K X.mg X.base (L2.CX X.prog X.w) k f fd ps (spOf X.K F)) (hG : X.A.guards = some []) (hr : Room k X.A) (hg : Gl X x) (hm : X.mg x = some (.ref f)) (hk : PySem.W.keepIn X.K (.ref f) = true) (hb : Binds X.K fd ps ds) (hd : Vals dvs ds) (hw : ∀ e, RWs e dws dvs) (tk : Takes X w0)
    (ha : JA X w0 (e :: es) ma) (hdb : (x == ("__debug__" : Str)) = false := by decide) (he : starEach (e :: es) X.env = (false, eval e X.env) :: starEach es X.env := by rfl) (hpl : (backTo pos (starEach es X.env)).any (·.1) = false := by rfl) :
    JE X w0 (.Call (.Name x p) (e :: es) [] pos) (mCall F dws ma) := by
  refine ⟨PE.of (pe_callG G hG hr hg hm hk hb hd (fun σ => passAt tk σ) ha.pa hdb he hpl) fun σ H Q q => ?_⟩
  obtain ⟨mu, ex, rs, z, s, sl, o⟩ := q
  refine (tOf.go (R := RWs) s sl o).imp fun v H1 ⟨mu1, z1, ws, g1, s1, r1, o1⟩ => ?_
  exact ⟨mu1, ex, ws ++ dws, z1, s1, r1.append (hw _), o1⟩
@[simp] def mCallK (F : Fn) (gW : List W → List W → List W) (ma mk : MA) : ME := fun r z => (ma r z).bind fun ws z => (mk r z).bind fun us z => F (gW ws us) z
structure JK (X : Cx) (w0 : WX) (kws : List Keyword) (m : MA) : Prop where
  pk : PK X kws (tA X.K w0 m)
theorem PK.of {t t' : TA} (h : PK X kws t) (k : ∀ σ H Q, t' σ H Q → t σ H Q) : PK X kws t' := ⟨fun p pins s σ H Q I q => h.run p pins s σ H Q I (k _ _ _ q)⟩
theorem jk_nil : JK X w0 [] aNil := by
  refine ⟨PK.of pk_nil fun σ H Q q => ?_⟩
  obtain ⟨mu, ex, rs, z, s, sl, o⟩ := q
  exact o mu H [] (Gr.refl _) s .nil
theorem jk_cons {nm : Option Str} {kpos : Pos} {m : ME} {mr : MA} (ha : JE X w0 e m) (hr : JK X w0 kws mr) : JK X w0 (⟨nm, e, kpos⟩ :: kws) (aCons m mr) := by
  refine ⟨PK.of (pk_cons ha.pe hr.pk) fun σ H Q q => ?_⟩
  obtain ⟨mu, ex, rs, z, s, sl, o⟩ := q
  refine (tOf.go (R := RW) s sl o).imp fun v H1 ⟨mu1, z1, x, g1, s1, r1, o1⟩ => ?_
  refine (tOf.go (R := RWs) s1 (sl.mono g1) o1).imp fun u H2 ⟨mu2, z2, y, g2, s2, r2, o2⟩ => ?_
  exact o2 mu2 H2 _ (Gr.refl _) s2 (.cons (r1.mono g2) r2)
end
/-! ### contents that stand by themselves -/
mutual
def clo (n : Nat) : W → Bool
  | .ob k => decide (k < n)
  | .tup xs => cloL n xs
  | .lst xs => cloL n xs
  | .rl xs => cloL n xs
  | .dic xs => cloK n xs
  | .ins _ xs => cloF n xs
  | .exc _ xs => cloF n xs
  | _ => true
def cloL (n : Nat) : List W → Bool
  | [] => true
  | x :: xs => clo n x && cloL n xs
def cloK (n : Nat) : List (Key × W) → Bool
  | [] => true
  | (_, x) :: xs => clo n x && cloK n xs
def cloF (n : Nat) : List (Str × W) → Bool
  | [] => true
  | (_, x) :: xs => clo n x && cloF n xs
end
def cloZ (n : Nat) : Z → Bool
  | [] => true
  | none :: xs => cloZ n xs
  | some x :: xs => clo n x && cloZ n xs
theorem cloZ_at {n : Nat} : ∀ {z : Z} {i : Nat} {w : W}, cloZ n z = true → z[i]? = some (some w) → clo n w = true
  | some x :: xs, 0, w, h, q => by cases q; exact (Bool.and_eq_true_iff.mp h).1
  | some x :: xs, i + 1, w, h, q => cloZ_at (Bool.and_eq_true_iff.mp h).2 q
  | none :: xs, i + 1, w, h, q => cloZ_at (z := xs) h q
mutual
theorem RW.clo {e : En} : ∀ {w : W} {v : V}, RW e w v → J.clo e.mu.length w = true
  | _, _, .non => rfl
  | _, _, .bl b => rfl
  | _, _, .int i => rfl
  | _, _, .str x => rfl
  | _, _, .ty n => rfl
  | _, _, .gl a => rfl
  | _, _, .ob (n := n) h => decide_eq_true (by
    rcases Nat.lt_or_ge n e.mu.length with q | q
    · exact q
    · rw [List.getElem?_eq_none q] at h; cases h)
  | _, _, .tup _ _ r => RWs.clo r
  | _, _, .tupK _ r => RWs.clo r
  | _, _, .lst _ _ r => RWs.clo r
  | _, _, .rl _ _ r => RWs.clo r
  | _, _, .rlK _ r => RWs.clo r
  | _, _, .dic _ _ r => RKs.clo r
  | _, _, .ins _ _ r => RFs.clo r
  | _, _, .exc _ _ _ _ r => RFs.clo r
theorem RWs.clo {e : En} : ∀ {w : List W} {v : List V}, RWs e w v → cloL e.mu.length w = true
  | _, _, .nil => rfl
  | _, _, .cons a b => Bool.and_eq_true_iff.mpr ⟨RW.clo a, RWs.clo b⟩
theorem RKs.clo {e : En} : ∀ {w : List (Key × W)} {v : List (Key × V)}, RKs e w v → cloK e.mu.length w = true
  | _, _, .nil => rfl
  | _, _, .cons a b => Bool.and_eq_true_iff.mpr ⟨RW.clo a, RKs.clo b⟩
theorem RFs.clo {e : En} : ∀ {w : List (Str × W)} {v : List (Str × V)}, RFs e w v → cloF e.mu.length w = true
  | _, _, .nil => rfl
  | _, _, .cons a b => Bool.and_eq_true_iff.mpr ⟨RW.clo a, RFs.clo b⟩
end
theorem SR.cloz {e : En} (s : SR e) : cloZ e.z.length e.z = true := by
  have : ∀ (l : Z), (∀ w, some w ∈ l → clo e.mu.length w = true) → cloZ e.mu.length l = true := by
    intro l
    induction l with
    | nil => intro _; rfl
    | cons x xs ih =>
      intro h
      cases x with
      | none => exact ih fun w hw => h w (List.mem_cons_of_mem _ hw)
      | some x => exact Bool.and_eq_true_iff.mpr ⟨h x (List.mem_cons_self ..), ih fun w hw => h w (List.mem_cons_of_mem _ hw)⟩
  rw [← s.len]
  refine this e.z fun w hw => ?_
  obtain ⟨i, hi⟩ := List.mem_iff_getElem?.mp hw
  have hl : i < e.mu.length := by
    rw [s.len]
    rcases Nat.lt_or_ge i e.z.length with q | q
    · exact q
    · rw [List.getElem?_eq_none q] at hi; cases hi
  have c := s.cell i w _ hi (List.getElem?_eq_getElem hl)
  cases c with
  | lst _ r => exact r.clo
  | dic _ r => exact r.clo
  | ins _ r => exact r.clo
/-- a state without its last numbers -/
structure Cut (n : Nat) (e e' : En) : Prop where
  K : e'.K = e.K
  mu : ∀ k, k < n → e'.mu[k]? = e.mu[k]?
  H : e'.H = e.H
  L : ∀ a, e'.L a → e.L a
section
variable {n : Nat} {e e' : En} (c : Cut n e e')
include c
mutual
theorem RW.cut : ∀ {w : W} {v : V}, RW e w v → J.clo n w = true → RW e' w v
  | _, _, .non, _ => .non
  | _, _, .bl b, _ => .bl b
  | _, _, .int i, _ => .int i
  | _, _, .str x, _ => .str x
  | _, _, .ty n, _ => .ty n
  | _, _, .gl a, _ => by have q := RW.gl (e := e') a; rw [c.K] at q; exact q
  | _, _, .ob h, q => .ob (by rw [c.mu _ (of_decide_eq_true q)]; exact h)
  | _, _, .tup h l r, q => .tup (by rw [c.H]; exact h) (fun z => l (c.L _ z)) (RWs.cut r q)
  | _, _, .tupK h r, q => .tupK (by rw [c.K]; exact h) (RWs.cut r q)
  | _, _, .lst h l r, q => .lst (by rw [c.H]; exact h) (fun z => l (c.L _ z)) (RWs.cut r q)
  | _, _, .rl h l r, q => .rl (by rw [c.H]; exact h) (fun z => l (c.L _ z)) (RWs.cut r q)
  | _, _, .rlK h r, q => .rlK (by rw [c.K]; exact h) (RWs.cut r q)
  | _, _, .dic h l r, q => .dic (by rw [c.H]; exact h) (fun z => l (c.L _ z)) (RKs.cut r q)
  | _, _, .ins h l r, q => .ins (by rw [c.H, c.K]; exact h) (fun z => l (c.L _ z)) (RFs.cut r q)
  | _, _, .exc h h2 l l2 r, q => .exc (by rw [c.H, c.K]; exact h) (by rw [c.H]; exact h2) (fun z => l (c.L _ z)) (fun z => l2 (c.L _ z)) (RFs.cut r q)
theorem RWs.cut : ∀ {w : List W} {v : List V}, RWs e w v → cloL n w = true → RWs e' w v
  | _, _, .nil, _ => .nil
  | _, _, .cons a b, q => .cons (RW.cut a (Bool.and_eq_true_iff.mp q).1) (RWs.cut b (Bool.and_eq_true_iff.mp q).2)
theorem RKs.cut : ∀ {w : List (Key × W)} {v : List (Key × V)}, RKs e w v → cloK n w = true → RKs e' w v
  | _, _, .nil, _ => .nil
  | _, _, .cons a b, q => .cons (RW.cut a (Bool.and_eq_true_iff.mp q).1) (RKs.cut b (Bool.and_eq_true_iff.mp q).2)
theorem RFs.cut : ∀ {w : List (Str × W)} {v : List (Str × V)}, RFs e w v → cloF n w = true → RFs e' w v
  | _, _, .nil, _ => .nil
  | _, _, .cons a b, q => .cons (RW.cut a (Bool.and_eq_true_iff.mp q).1) (RFs.cut b (Bool.and_eq_true_iff.mp q).2)
end
theorem Ce.cut {a : Addr} {w : W} (h : Ce e a w) (q : J.clo n w = true) : Ce e' a w := by
  cases h with
  | lst h r => exact .lst (by rw [c.H]; exact h) (RWs.cut c r q)
  | dic h r => exact .dic (by rw [c.H]; exact h) (RKs.cut c r q)
  | ins h r => exact .ins (by rw [c.H, c.K]; exact h) (RFs.cut c r q)
end
/-! ### what is told by its contents -/
mutual
/-- w, in which numbers from n on are put by their contents, is the second -/
inductive Fz (n : Nat) (z : Z) : W → W → Prop
  | same {w : W} : clo n w = true → Fz n z w w
  | lstO {k : Nat} {xs ys : List W} : n ≤ k → z[k]? = some (some (.lst xs)) → FzL n z xs ys → Fz n z (.ob k) (.lst ys)
  | dicO {k : Nat} {xs ys : List (Key × W)} : n ≤ k → z[k]? = some (some (.dic xs)) → FzK n z xs ys → Fz n z (.ob k) (.dic ys)
  | insO {k : Nat} {C : Str} {xs ys : List (Str × W)} : n ≤ k → z[k]? = some (some (.ins C xs)) → FzF n z xs ys → Fz n z (.ob k) (.ins C ys)
  | tup {xs ys : List W} : FzL n z xs ys → Fz n z (.tup xs) (.tup ys)
  | lst {xs ys : List W} : FzL n z xs ys → Fz n z (.lst xs) (.lst ys)
inductive FzL (n : Nat) (z : Z) : List W → List W → Prop
  | nil : FzL n z [] []
  | cons {x y : W} {xs ys : List W} : Fz n z x y → FzL n z xs ys → FzL n z (x :: xs) (y :: ys)
inductive FzK (n : Nat) (z : Z) : List (Key × W) → List (Key × W) → Prop
  | nil : FzK n z [] []
  | cons {k : Key} {x y : W} {xs ys : List (Key × W)} : Fz n z x y → FzK n z xs ys → FzK n z ((k, x) :: xs) ((k, y) :: ys)
inductive FzF (n : Nat) (z : Z) : List (Str × W) → List (Str × W) → Prop
  | nil : FzF n z [] []
  | cons {k : Str} {x y : W} {xs ys : List (Str × W)} : Fz n z x y → FzF n z xs ys → FzF n z ((k, x) :: xs) ((k, y) :: ys)
end
section
variable {n : Nat} {e e' : En} (c : Cut n e e') (s : SR e) (hn : ∀ k a, n ≤ k → e.mu[k]? = some a → ¬ e'.L a)
include c s hn
mutual
theorem RW.fz : ∀ {w w' : W} {v : V}, Fz n e.z w w' → RW e w v → RW e' w' v
  | _, _, _, .same q, r => RW.cut c r q
  | _, _, _, .lstO (k := k) hk hz q, r => by
    obtain ⟨a, ea, hm, ce⟩ := ob_cell s r hz
    subst ea
    cases ce with
    | lst h rr => exact .lst (by rw [c.H]; exact h) (hn k a hk hm) (RWs.fz q rr)
  | _, _, _, .dicO (k := k) hk hz q, r => by
    obtain ⟨a, ea, hm, ce⟩ := ob_cell s r hz
    subst ea
    cases ce with
    | dic h rr => exact .dic (by rw [c.H]; exact h) (hn k a hk hm) (RKs.fz q rr)
  | _, _, _, .insO (k := k) hk hz q, r => by
    obtain ⟨a, ea, hm, ce⟩ := ob_cell s r hz
    subst ea
    cases ce with
    | ins h rr => exact .ins (by rw [c.H, c.K]; exact h) (hn k a hk hm) (RFs.fz q rr)
  | _, _, _, .tup q, r => by
    cases r with
    | tup h l rr => exact .tup (by rw [c.H]; exact h) (fun z => l (c.L _ z)) (RWs.fz q rr)
    | tupK h rr => exact .tupK (by rw [c.K]; exact h) (RWs.fz q rr)
  | _, _, _, .lst q, r => by
    cases r with
    | lst h l rr => exact .lst (by rw [c.H]; exact h) (fun z => l (c.L _ z)) (RWs.fz q rr)
theorem RWs.fz : ∀ {w w' : List W} {v : List V}, FzL n e.z w w' → RWs e w v → RWs e' w' v
  | _, _, _, .nil, .nil => .nil
  | _, _, _, .cons q q2, .cons a b => .cons (RW.fz q a) (RWs.fz q2 b)
theorem RKs.fz : ∀ {w w' : List (Key × W)} {v : List (Key × V)}, FzK n e.z w w' → RKs e w v → RKs e' w' v
  | _, _, _, .nil, .nil => .nil
  | _, _, _, .cons q q2, .cons a b => .cons (RW.fz q a) (RKs.fz q2 b)
theorem RFs.fz : ∀ {w w' : List (Str × W)} {v : List (Str × V)}, FzF n e.z w w' → RFs e w v → RFs e' w' v
  | _, _, _, .nil, .nil => .nil
  | _, _, _, .cons q q2, .cons a b => .cons (RW.fz q a) (RFs.fz q2 b)
end
end
/-- F tells what B does: numbers that were given within are forgotten, or put by their contents -/
def Vl (F B : Fn) : Prop := ∀ ws z, cloL z.length ws = true → cloZ z.length z = true → match F ws z with
  | .bad => True
  | .ok w z1 => ∃ J w', B ws z = .ok w' (z1 ++ J) ∧ z1.length = z.length ∧ Fz z.length (z1 ++ J) w' w ∧ cloZ z.length z1 = true
  | .ex x z1 => ∃ J fs, B ws z = .ex ⟨x.C, fs⟩ (z1 ++ J) ∧ z1.length = z.length ∧ FzF z.length (z1 ++ J) fs x.fs ∧ cloZ z.length z1 = true
theorem take_pre {mu mu' : List Addr} {t : List Addr} {n : Nat} (h : mu' = mu ++ t) (hn : mu.length = n) : mu'.take n = mu := by
  rw [h, ← hn]; simp
/-- the shorter state -/
theorem cut_of {K : PySem.W.Frag} {H' : Hp} {mu mu' ex : List Addr} {z1 J : Z} (s : SR ⟨K, H', mu', z1 ++ J, ex⟩) (hp : ∃ t, mu' = mu ++ t) (hl : mu.length = z1.length) (hc : cloZ z1.length z1 = true) :
    Cut z1.length ⟨K, H', mu', z1 ++ J, ex⟩ ⟨K, H', mu, z1, ex⟩ ∧ SR ⟨K, H', mu, z1, ex⟩ ∧ ∀ k a, z1.length ≤ k → mu'[k]? = some a → ¬ En.L ⟨K, H', mu, z1, ex⟩ a := by
  obtain ⟨t, rfl⟩ := hp
  have Lw : ∀ a, Lv mu z1 a → Lv (mu ++ t) (z1 ++ J) a := fun a ⟨n, w, h1, h2⟩ => by
    have q1 : n < mu.length := by
      rcases Nat.lt_or_ge n mu.length with q | q
      · exact q
      · rw [List.getElem?_eq_none q] at h1; cases h1
    exact ⟨n, w, by rw [List.getElem?_append_left q1]; exact h1, by rw [List.getElem?_append_left (hl ▸ q1)]; exact h2⟩
  have c : Cut z1.length ⟨K, H', mu ++ t, z1 ++ J, ex⟩ ⟨K, H', mu, z1, ex⟩ := ⟨rfl, fun k hk => by
    show mu[k]? = (mu ++ t)[k]?
    rw [List.getElem?_append_left (hl ▸ hk)], rfl, fun a l => by
    rcases l with l | l
    · exact .inl (Lw a l)
    · exact .inr l⟩
  refine ⟨c, ⟨hl, (List.nodup_append.mp s.nd).1, fun a m => s.there a (List.mem_append_left _ m), fun a m => ⟨fun q => (s.thex a m).1 (List.mem_append_left _ q), (s.thex a m).2⟩, fun n w a hz hm => ?_⟩, fun k a hk hm l => ?_⟩
  · have hz' : z1[n]? = some (some w) := hz
    have hm' : mu[n]? = some a := hm
    have q1 : n < mu.length := by
      rcases Nat.lt_or_ge n mu.length with q | q
      · exact q
      · rw [List.getElem?_eq_none q] at hm'; cases hm'
    exact Ce.cut c (s.cell n w a (show (z1 ++ J)[n]? = _ by rw [List.getElem?_append_left (hl ▸ q1)]; exact hz') (show (mu ++ t)[n]? = _ by rw [List.getElem?_append_left q1]; exact hm')) (cloZ_at hc hz')
  · rcases l with ⟨j, w, h1, h2⟩ | l
    · have q1 : j < mu.length := by
        rcases Nat.lt_or_ge j mu.length with q | q
        · exact q
        · have h1' : mu[j]? = some a := h1
          rw [List.getElem?_eq_none q] at h1'; cases h1'
      have h1' : (mu ++ t)[j]? = some a := by rw [List.getElem?_append_left q1]; exact h1
      have := nodup_at s.nd (show (mu ++ t)[j]? = some a from h1') (show (mu ++ t)[k]? = some a from hm)
      omega
    · exact (s.thex a l).1 (List.mem_of_getElem? hm)
theorem spOf_up {K : PySem.W.Frag} {F B : Fn} (hV : Vl F B) (vs : List V) (H : Hp) (Q : VK) (E : XK) (h : spOf K F vs H Q E) : spOf K B vs H Q E := by
  obtain ⟨mu, ex, ws, z, s, r, o⟩ := h
  refine ⟨mu, ex, ws, z, s, r, ?_⟩
  have hl : mu.length = z.length := s.len
  have v := hV ws z (hl ▸ r.clo) s.cloz
  cases hF : F ws z with
  | bad => rw [hF] at o; exact o.elim
  | ok w z1 =>
    rw [hF] at o v
    obtain ⟨J, w', hB, l1, fz, hc⟩ := v
    rw [hB]
    intro mu' H' b g s' r'
    obtain ⟨c, s2, hn⟩ := cut_of s' g.pre (hl.trans l1.symm) (l1 ▸ hc)
    refine o mu H' b ⟨⟨rfl, ⟨[], rfl⟩, ⟨[], by simp⟩, fun a l => g.live a (c.L a l), g.keep⟩, g.keepx⟩ s2 (RW.fz c s' hn (l1 ▸ fz) r')
  | ex x z1 =>
    rw [hF] at o v
    obtain ⟨J, fs, hB, l1, fz, hc⟩ := v
    rw [hB]
    intro mu' H' d us g s' hd nl r'
    obtain ⟨c, s2, hn⟩ := cut_of s' g.pre (hl.trans l1.symm) (l1 ▸ hc)
    exact o mu H' d us ⟨⟨rfl, ⟨[], rfl⟩, ⟨[], by simp⟩, fun a l => g.live a (c.L a l), g.keep⟩, g.keepx⟩ s2 hd (fun l => nl (c.L d l)) (RFs.fz c s' hn (l1 ▸ fz) r')
theorem GOk.up {P : Program} {w : World} {K : PySem.W.Frag} {mg : Str → Option Value} {base : Heap} {CX : CXT} {k : Nat} {f : Addr} {fd : FuncData} {ps : List Str} {F B : Fn} (G : GOk P w K mg base CX k f fd ps (spOf K B)) (hV : Vl F B) : GOk P w K mg base CX k f fd ps (spOf K F) :=
  G.imp (spOf_up hV)
end J
namespace J
open PySem PySem.Spec L2
/-- a value that is told at once -/
theorem out_val {e : En} {w0 : WX} {σ : L2.St} {Q : VK} {w : W} {v : V} (s : SR e) (r : RW e w v) (o : Out RW w0 e σ Q (.ok w e.z)) : Q v e.H := o e.mu e.H v (Gr.refl _) s r
theorem out_lst {e : En} {w0 : WX} {σ : L2.St} {Q : VK} {ws : List W} {vs : List V} {p : Addr} (s : SR e) (r : RWs e ws vs) (o : Out RW w0 e σ Q (.ok (.lst ws) e.z)) (h : e.H p = none) : Q (.ref p) (upd e.H p (.lst vs)) :=
  o e.mu (upd e.H p (.lst vs)) (.ref p) (s.gput h) (s.put h) (.lst upd_same (s.offL h) (r.mono (s.gput h)))
def ofO (o : Option W) (z : Z) : Res W := match o with
  | some w => .ok w z
  | none => .bad
/-! ### numbers -/
def iOp (c : Int → Int → Bool) (g : Int → Int → W) (x y : W) : Option W := match x, y with
  | .int i, .int j => if c i j then some (g i j) else none
  | _, _ => none
theorem opv_i {K : PySem.W.Frag} {C : Int → Int → Prop} {c : Int → Int → Bool} {g : Int → Int → V} {g' : Int → Int → W} (hc : ∀ i j, c i j = true → C i j) (hg : ∀ e i j, RW e (g' i j) (g i j)) : OpV K (rI C g) (fun x y z => ofO (iOp c g' x y) z) := by
  intro e w0 σ x y v u Q hk s rx ry o
  cases rx <;> try exact o.elim
  cases ry <;> try exact o.elim
  rename_i i j
  simp only [iOp] at o
  split at o
  · rename_i h
    exact ⟨i, j, rfl, rfl, hc i j h, out_val s (hg e i j) o⟩
  · exact o.elim
theorem opv_i0 {K : PySem.W.Frag} {g : Int → Int → V} {g' : Int → Int → W} (hg : ∀ e i j, RW e (g' i j) (g i j)) : OpV K (rI0 g) (fun x y z => ofO (iOp (fun _ _ => true) g' x y) z) := by
  intro e w0 σ x y v u Q hk s rx ry o
  cases rx <;> try exact o.elim
  cases ry <;> try exact o.elim
  rename_i i j
  exact ⟨i, j, rfl, rfl, out_val s (hg e i j) o⟩
/-- one of two -/
theorem opv_or {K : PySem.W.Frag} {r1 r2 : R2} {f1 f2 : W → W → Z → Res W} (h1 : OpV K r1 f1) (h2 : OpV K r2 f2) : OpV K (fun x y H Q => r1 x y H Q ∨ r2 x y H Q) (fun x y z => match f1 x y z with | .bad => f2 x y z | o => o) := by
  intro e w0 σ x y v u Q hk s rx ry o
  dsimp only at o
  split at o
  · exact .inr (h2 e w0 σ x y v u Q hk s rx ry o)
  · exact .inl (h1 e w0 σ x y v u Q hk s rx ry o)
def blI (g : Int → Int → Bool) : Int → Int → W := fun i j => .bl (g i j)
section
variable {X : Cx} {w0 : WX} {a b c : Expr} {ma mb mc : ME} {pos : Pos}
/-! #### + -/
def addW (x y : W) (z : Z) : Res W := match x, y with
  | .int i, .int j => .ok (.int (i + j)) z
  | .str i, .str j => if i.length + j.length ≤ sizeLine then .ok (.str (i ++ j)) z else .bad
  | .tup xs, .tup ys => if xs ≠ [] ∧ xs.length + ys.length ≤ sizeLine then .ok (.tup (xs ++ ys)) z else .bad
  | x, y => match lsOf z x, lsOf z y with
    | some xs, some ys => if xs.length + ys.length ≤ sizeLine then .ok (.lst (xs ++ ys)) z else .bad
    | _, _ => .bad
def rAddW (K : PySem.W.Frag) : R2 := fun x y H Q => rI0 (fun i j => .int (i + j)) x y H Q ∨ (∃ i j, x = .str i ∧ y = .str j ∧ i.length + j.length ≤ sizeLine ∧ Q (.str (i ++ j)) H) ∨ rCatT K x y H Q ∨ rCat x y H Q
theorem op_addW : OpR X (binaryOp .Add) (rAddW X.K) := op_add.or (op_add_str.or (op_catT.or op_cat))
theorem RWs.ne {e : En} {w : List W} {v : List V} (h : RWs e w v) (n : w ≠ []) : v ≠ [] := by cases h <;> first | exact absurd rfl n | exact fun z => nomatch z
theorem opv_lstcat {e : En} {w0 : WX} {σ : L2.St} {x y : W} {v u : V} {Q : VK} (s : SR e) (rx : RW e x v) (ry : RW e y u) (o : Out RW w0 e σ Q (match lsOf e.z x, lsOf e.z y with
    | some xs, some ys => if xs.length + ys.length ≤ sizeLine then .ok (.lst (xs ++ ys)) e.z else .bad
    | _, _ => .bad)) : rCat v u e.H Q := by
  split at o
  · rename_i xs ys h1 h2
    split at o
    · rename_i hl
      obtain ⟨a, vs, rfl, ha, ra⟩ := ls_of s rx h1
      obtain ⟨b, us, rfl, hb, rb⟩ := ls_of s ry h2
      exact ⟨a, b, vs, us, rfl, rfl, ha, hb, by rw [← ra.length, ← rb.length]; exact hl, fun p hp => out_lst s (ra.append rb) o hp⟩
    · exact o.elim
  · exact o.elim
theorem opv_add {K : PySem.W.Frag} : OpV K (rAddW K) addW := by
  intro e w0 σ x y v u Q hk s rx ry o
  have L : ∀ {x y : W}, RW e x v → RW e y u → Out RW w0 e σ Q (match lsOf e.z x, lsOf e.z y with
    | some xs, some ys => if xs.length + ys.length ≤ sizeLine then .ok (.lst (xs ++ ys)) e.z else .bad
    | _, _ => .bad) → rAddW K v u e.H Q := fun rx ry o => .inr (.inr (.inr (opv_lstcat s rx ry o)))
  unfold addW at o
  split at o
  · cases rx; cases ry; exact .inl ⟨_, _, rfl, rfl, out_val s (.int _) o⟩
  · cases rx; cases ry
    split at o
    · rename_i h
      exact .inr (.inl ⟨_, _, rfl, rfl, h, out_val s (.str _) o⟩)
    · exact o.elim
  · rename_i xs ys
    split at o
    · rename_i h
      have ry' := ry
      obtain ⟨a, vs, rfl, ha, ra⟩ := sqT_of (a := 0) rx
      obtain ⟨b, us, rfl, hb, rb⟩ := sqT_of (a := 0) ry
      rw [hk] at ha hb
      refine .inr (.inr (.inl ⟨a, b, vs, us, rfl, rfl, ha, hb, ra.ne h.1, by rw [← ra.length, ← rb.length]; exact h.2, fun q => ?_, fun q p hp => new_tup s (ra.append rb) o hp⟩))
      cases rb with
      | nil => rw [List.append_nil] at o; exact out_val s rx o
      | cons _ _ => cases q
    · exact o.elim
  · exact L rx ry o
theorem je_add (ha : JE X w0 a ma) (hb : JE X w0 b mb) : JE X w0 (.BinOp a .Add b pos) (mOp addW ma mb) := je_op op_addW opv_add ha hb
/-- the list is the asker's own -/
def catW (x y : W) (z : Z) : Res W := match lsOf z x, lsOf z y with
  | some xs, some ys => if xs.length + ys.length ≤ sizeLine then .ok (.lst (xs ++ ys)) z else .bad
  | _, _ => .bad
theorem jo_cat (ha : JE X w0 a ma) (hb : JE X w0 b mb) : JO X w0 (.BinOp a .Add b pos) (mOp catW ma mb) := by
  refine jo_op op_cat (fun e w0 σ x y v u Q hk s rx ry o => ?_) ha hb
  unfold catW at o
  split at o
  · rename_i xs ys h1 h2
    split at o
    · rename_i hl
      obtain ⟨a, vs, rfl, ha, ra⟩ := ls_of s rx h1
      obtain ⟨b, us, rfl, hb, rb⟩ := ls_of s ry h2
      exact ⟨a, b, vs, us, rfl, rfl, ha, hb, by rw [← ra.length, ← rb.length]; exact hl, fun p hp => new_lst s (ra.append rb) o hp⟩
    · exact o.elim
  · exact o.elim
/-! #### - * // % ** & | ^ << >> -/
def subW (x y : W) (z : Z) : Res W := ofO (iOp (fun _ _ => true) (fun i j => .int (i - j)) x y) z
theorem je_sub (ha : JE X w0 a ma) (hb : JE X w0 b mb) : JE X w0 (.BinOp a .Sub b pos) (mOp subW ma mb) := je_op op_sub (opv_i0 fun _ _ _ => .int _) ha hb
def cMul (i j : Int) : Bool := decide ((-(2 ^ 64) < i ∧ i < 2 ^ 64) ∨ (-(2 ^ 64) < j ∧ j < 2 ^ 64))
theorem cMul_ok {i j : Int} (h : cMul i j = true) : CMul i j := by
  have := of_decide_eq_true h
  exact this
def mulI (x y : W) (z : Z) : Res W := ofO (iOp cMul (fun i j => .int (i * j)) x y) z
/-- list * int -/
def repW (x y : W) (z : Z) : Res W := match lsOf z x, y with
  | some xs, .int k => if -(2 ^ 63) ≤ k ∧ k < 2 ^ 63 ∧ xs.length * k.toNat ≤ sizeLine then .ok (.lst (List.replicate k.toNat xs).flatten) z else .bad
  | _, _ => .bad
def mulW (x y : W) (z : Z) : Res W := match mulI x y z with | .bad => repW x y z | o => o
theorem RWs.rep {e : En} {w : List W} {v : List V} (h : RWs e w v) : ∀ k : Nat, RWs e (List.replicate k w).flatten (List.replicate k v).flatten
  | 0 => .nil
  | k + 1 => by rw [List.replicate_succ, List.replicate_succ, List.flatten_cons, List.flatten_cons]; exact h.append (RWs.rep h k)
theorem je_mul (ha : JE X w0 a ma) (hb : JE X w0 b mb) : JE X w0 (.BinOp a .Mult b pos) (mOp mulW ma mb) := by
  refine je_op (op_mul.or op_rep) (opv_or (opv_i (C := CMul) (c := cMul) (fun i j h => cMul_ok h) fun _ _ _ => .int _) fun e w0 σ x y v u Q hk s rx ry o => ?_) ha hb
  unfold repW at o
  split at o
  · rename_i xs k h1
    split at o
    · rename_i hl
      obtain ⟨a, vs, rfl, ha, ra⟩ := ls_of s rx h1
      cases ry
      exact ⟨a, k, vs, rfl, rfl, ha, hl.1, hl.2.1, by rw [← ra.length]; exact hl.2.2, fun p hp => out_lst s (ra.rep _) o hp⟩
    · exact o.elim
  · exact o.elim
theorem jo_rep (ha : JE X w0 a ma) (hb : JE X w0 b mb) : JO X w0 (.BinOp a .Mult b pos) (mOp repW ma mb) := by
  refine jo_op op_rep (fun e w0 σ x y v u Q hk s rx ry o => ?_) ha hb
  unfold repW at o
  split at o
  · rename_i xs k h1
    split at o
    · rename_i hl
      obtain ⟨a, vs, rfl, ha, ra⟩ := ls_of s rx h1
      cases ry
      exact ⟨a, k, vs, rfl, rfl, ha, hl.1, hl.2.1, by rw [← ra.length]; exact hl.2.2, fun p hp => new_lst s (ra.rep _) o hp⟩
    · exact o.elim
  · exact o.elim
def divW (x y : W) (z : Z) : Res W := ofO (iOp (fun _ j => decide (0 < j ∧ j < 1073741824)) (fun i j => .int (i / j)) x y) z
theorem je_div (ha : JE X w0 a ma) (hb : JE X w0 b mb) : JE X w0 (.BinOp a .FloorDiv b pos) (mOp divW ma mb) := je_op op_fdiv (opv_i (C := CDiv) (c := fun _ j => decide (0 < j ∧ j < 1073741824)) (fun i j h => (of_decide_eq_true h : 0 < j ∧ j < 1073741824)) fun _ _ _ => .int _) ha hb
def modW (x y : W) (z : Z) : Res W := ofO (iOp (fun _ j => decide (0 < j)) (fun i j => .int (i % j)) x y) z
theorem je_mod (ha : JE X w0 a ma) (hb : JE X w0 b mb) : JE X w0 (.BinOp a .Mod b pos) (mOp modW ma mb) := je_op op_mod (opv_i (fun i j h => of_decide_eq_true h) fun _ _ _ => .int _) ha hb
def cPow (i j : Int) : Bool := decide (0 ≤ j ∧ j ≤ 1000000 ∧ i.natAbs < 2 ^ 64)
theorem cPow_ok {i j : Int} (h : cPow i j = true) : CPow i j := by
  have := of_decide_eq_true h
  exact this
def powW (x y : W) (z : Z) : Res W := ofO (iOp cPow (fun i j => .int (i ^ j.toNat)) x y) z
theorem je_pow (ha : JE X w0 a ma) (hb : JE X w0 b mb) : JE X w0 (.BinOp a .Pow b pos) (mOp powW ma mb) := je_op op_pow (opv_i (C := CPow) (c := cPow) (fun i j h => cPow_ok h) fun _ _ _ => .int _) ha hb
def shlW (x y : W) (z : Z) : Res W := ofO (iOp cPow (fun i j => .int (i * 2 ^ j.toNat)) x y) z
theorem je_shl (ha : JE X w0 a ma) (hb : JE X w0 b mb) : JE X w0 (.BinOp a .LShift b pos) (mOp shlW ma mb) := je_op op_shl (opv_i (C := CPow) (c := cPow) (fun i j h => cPow_ok h) fun _ _ _ => .int _) ha hb
def shrW (x y : W) (z : Z) : Res W := ofO (iOp (fun _ j => decide (0 ≤ j)) (fun i j => .int (i / 2 ^ j.toNat)) x y) z
theorem je_shr (ha : JE X w0 a ma) (hb : JE X w0 b mb) : JE X w0 (.BinOp a .RShift b pos) (mOp shrW ma mb) := je_op op_shr (opv_i (fun i j h => of_decide_eq_true h) fun _ _ _ => .int _) ha hb
def andW (x y : W) (z : Z) : Res W := ofO (iOp (fun _ _ => true) (fun i j => .int (Builtin.bitAnd i j)) x y) z
theorem je_band (ha : JE X w0 a ma) (hb : JE X w0 b mb) : JE X w0 (.BinOp a .BitAnd b pos) (mOp andW ma mb) := je_op op_and (opv_i0 fun _ _ _ => .int _) ha hb
def orW (x y : W) (z : Z) : Res W := ofO (iOp (fun _ _ => true) (fun i j => .int (Builtin.bitOr i j)) x y) z
theorem je_bor (ha : JE X w0 a ma) (hb : JE X w0 b mb) : JE X w0 (.BinOp a .BitOr b pos) (mOp orW ma mb) := je_op op_or (opv_i0 fun _ _ _ => .int _) ha hb
def xorW (x y : W) (z : Z) : Res W := ofO (iOp (fun _ _ => true) (fun i j => .int (Builtin.bitXor i j)) x y) z
theorem je_bxor (ha : JE X w0 a ma) (hb : JE X w0 b mb) : JE X w0 (.BinOp a .BitXor b pos) (mOp xorW ma mb) := je_op op_xor (opv_i0 fun _ _ _ => .int _) ha hb
def negW (x : W) (z : Z) : Res W := match x with
  | .int i => .ok (.int (-i)) z
  | _ => .bad
theorem je_neg (ha : JE X w0 a ma) : JE X w0 (.UnaryOp .USub a pos) (mUn negW ma) := by
  refine je_un un_neg (fun e w0 σ x v Q hk s rx o => ?_) ha
  cases rx <;> try exact o.elim
  exact ⟨_, rfl, out_val s (.int _) o⟩
/-! #### order -/
def cmpI (g : Int → Int → Bool) (h : Str → Str → Bool) (x y : W) (z : Z) : Res W := match x, y with
  | .int i, .int j => .ok (.bl (g i j)) z
  | .str i, .str j => .ok (.bl (h i j)) z
  | _, _ => .bad
def ltS (i j : Str) : Bool := decide (i.cps.toList < j.cps.toList)
def rStr (h : Str → Str → Bool) : R2 := fun x y H Q => ∃ i j, x = .str i ∧ y = .str j ∧ Q (.bl (h i j)) H
theorem opv_cmp {K : PySem.W.Frag} {g : Int → Int → Bool} {h : Str → Str → Bool} : OpV K (fun x y H Q => rI0 (fun i j => .bl (g i j)) x y H Q ∨ rStr h x y H Q) (cmpI g h) := by
  intro e w0 σ x y v u Q hk s rx ry o
  unfold cmpI at o
  split at o
  · cases rx; cases ry; exact .inl ⟨_, _, rfl, rfl, out_val s (.bl _) o⟩
  · cases rx; cases ry; exact .inr ⟨_, _, rfl, rfl, out_val s (.bl _) o⟩
  · exact o.elim
def ltW : W → W → Z → Res W := cmpI (fun i j => decide (i < j)) ltS
theorem op_ltW : OpR X (compareOp .Lt) (fun x y H Q => rI0 (fun i j => .bl (decide (i < j))) x y H Q ∨ rStr ltS x y H Q) := op_lt.or op_lt_str
def leI (x y : W) (z : Z) : Res W := ofO (iOp (fun _ _ => true) (fun i j => .bl (decide (i ≤ j))) x y) z
def gtI (x y : W) (z : Z) : Res W := ofO (iOp (fun _ _ => true) (fun i j => .bl (decide (j < i))) x y) z
def geI (x y : W) (z : Z) : Res W := ofO (iOp (fun _ _ => true) (fun i j => .bl (decide (j ≤ i))) x y) z
theorem opv_le {K : PySem.W.Frag} : OpV K (rI0 fun i j => .bl (decide (i ≤ j))) leI := opv_i0 fun _ _ _ => .bl _
theorem opv_gt {K : PySem.W.Frag} : OpV K (rI0 fun i j => .bl (decide (j < i))) gtI := opv_i0 fun _ _ _ => .bl _
theorem opv_ge {K : PySem.W.Frag} : OpV K (rI0 fun i j => .bl (decide (j ≤ i))) geI := opv_i0 fun _ _ _ => .bl _
theorem je_lt (ha : JE X w0 a ma) (hb : JE X w0 b mb) : JE X w0 (.Compare a [.Lt] [b] pos) (mOp ltW ma mb) := je_cmp op_ltW opv_cmp ha hb (nomark _)
theorem je_le (ha : JE X w0 a ma) (hb : JE X w0 b mb) : JE X w0 (.Compare a [.LtE] [b] pos) (mOp leI ma mb) := je_cmp op_le opv_le ha hb (nomark _)
theorem je_gt (ha : JE X w0 a ma) (hb : JE X w0 b mb) : JE X w0 (.Compare a [.Gt] [b] pos) (mOp gtI ma mb) := je_cmp op_gt opv_gt ha hb (nomark _)
theorem je_ge (ha : JE X w0 a ma) (hb : JE X w0 b mb) : JE X w0 (.Compare a [.GtE] [b] pos) (mOp geI ma mb) := je_cmp op_ge opv_ge ha hb (nomark _)
theorem jt_lt (ha : JE X w0 a ma) (hb : JE X w0 b mb) : JT X w0 (.Compare a [.Lt] [b] pos) (mBo (mOp ltW ma mb)) := jt_cmp op_ltW opv_cmp ha hb (nomark _)
theorem jt_le (ha : JE X w0 a ma) (hb : JE X w0 b mb) : JT X w0 (.Compare a [.LtE] [b] pos) (mBo (mOp leI ma mb)) := jt_cmp op_le opv_le ha hb (nomark _)
theorem jt_gt (ha : JE X w0 a ma) (hb : JE X w0 b mb) : JT X w0 (.Compare a [.Gt] [b] pos) (mBo (mOp gtI ma mb)) := jt_cmp op_gt opv_gt ha hb (nomark _)
theorem jt_ge (ha : JE X w0 a ma) (hb : JE X w0 b mb) : JT X w0 (.Compare a [.GtE] [b] pos) (mBo (mOp geI ma mb)) := jt_cmp op_ge opv_ge ha hb (nomark _)
/-! #### chains of two -/
def mChain (f g : W → W → Z → Res W) (ma mb mc : ME) : ME := fun r z => (ma r z).bind fun x z => (mb r z).bind fun y z => (f x y z).bind fun k z => match k with
  | .bl true => (mc r z).bind fun w z => g y w z
  | .bl false => .ok (.bl false) z
  | _ => .bad
theorem je_chain {op op' : CmpOp} {r r' : R2} {f g : W → W → Z → Res W} (ho : OpR X (compareOp op) r) (hf : OpV X.K r f) (ho' : OpR X (compareOp op') r') (hg : OpV X.K r' g) (ha : JE X w0 a ma) (hb : JE X w0 b mb) (hc : JE X w0 c mc)
    (hm : lastMarks [op, op'] [b, c] = false := by with_unfolding_all rfl) : JE X w0 (.Compare a [op, op'] [b, c] pos) (mChain f g ma mb mc) := by
  refine ⟨PE.of (pe_chain ho ho' ha.pe hb.pe hc.pe hm) fun σ H Q q => ?_⟩
  obtain ⟨mu, ex, rs, z, s, sl, o⟩ := q
  refine (tOf.go (R := RW) s sl o).imp fun v H1 ⟨mu1, z1, x, g1, s1, r1, o1⟩ => ?_
  refine (tOf.go (R := RW) s1 (sl.mono g1) o1).imp fun u H2 ⟨mu2, z2, y, g2, s2, r2, o2⟩ => ?_
  refine hf _ w0 σ x y v u _ rfl s2 (r1.mono g2) r2 ((o2.bind (R := RW)).mono fun b H3 ⟨mu3, z3, k, g3, s3, r3, o3⟩ => ?_)
  cases r3 with
  | bl k =>
    refine ⟨k, rfl, ?_⟩
    cases k with
    | true =>
      refine (tOf.go (R := RW) s3 (((sl.mono g1).mono g2).mono g3) o3).imp fun u4 H4 ⟨mu4, z4, w, g4, s4, r4, o4⟩ => ?_
      exact hg _ w0 σ y w u u4 Q rfl s4 ((r2.mono g3).mono g4) r4 o4
    | false => exact out_val s3 (.bl false) o3
  | _ => exact o3.elim
theorem jt_chain {op op' : CmpOp} {r r' : R2} {f g : W → W → Z → Res W} (ho : OpR X (compareOp op) r) (hf : OpV X.K r f) (ho' : OpR X (compareOp op') r') (hg : OpV X.K r' g) (ha : JE X w0 a ma) (hb : JE X w0 b mb) (hc : JE X w0 c mc)
    (hm : lastMarks [op, op'] [b, c] = false := by with_unfolding_all rfl) : JT X w0 (.Compare a [op, op'] [b, c] pos) (mBo (mChain f g ma mb mc)) := by
  refine ⟨PT.of (pt_chain ho ho' ha.pe hb.pe hc.pe hm) fun σ H Q q => ?_⟩
  obtain ⟨mu, ex, rs, z, s, sl, o⟩ := q
  have o' : Out RW w0 ⟨X.K, H, mu, z, ex⟩ σ (fun v H' => ∃ k, v = .bl k ∧ Q k H') (mChain f g ma mb mc rs z) := (o.bind (R := RW)).mono fun v H1 ⟨mu1, z1, x, g1, s1, r1, o1⟩ => by
    cases r1 with
    | bl k => exact ⟨k, rfl, o1 mu1 H1 k (Gr.refl _) s1 rfl⟩
    | _ => exact o1.elim
  refine (tOf.go (R := RW) s sl o').imp fun v H1 ⟨mu1, z1, x, g1, s1, r1, o1⟩ => ?_
  refine (tOf.go (R := RW) s1 (sl.mono g1) o1).imp fun u H2 ⟨mu2, z2, y, g2, s2, r2, o2⟩ => ?_
  refine hf _ w0 σ x y v u _ rfl s2 (r1.mono g2) r2 ((o2.bind (R := RW)).mono fun b H3 ⟨mu3, z3, k, g3, s3, r3, o3⟩ => ?_)
  cases r3 with
  | bl k =>
    refine ⟨k, rfl, ?_⟩
    cases k with
    | true =>
      refine (tOf.go (R := RW) s3 (((sl.mono g1).mono g2).mono g3) o3).imp fun u4 H4 ⟨mu4, z4, w, g4, s4, r4, o4⟩ => ?_
      exact hg _ w0 σ y w u u4 _ rfl s4 ((r2.mono g3).mono g4) r4 o4
    | false => exact out_val s3 (.bl false) o3
  | _ => exact o3.elim
/-! #### is None -/
def isN : W → Bool
  | .non => true
  | _ => false
theorem isN_eq {e : En} {x : W} {v : V} (r : RW e x v) : decide (v = .non) = isN x := by cases r <;> rfl
theorem je_isN {j : Nat} {pos' : Pos} (ha : JE X w0 a ma) : JE X w0 (.Compare a [.Is] [.Constant .none j pos'] pos) (mUn (fun x z => .ok (.bl (isN x)) z) ma) := by
  refine ⟨PE.of (pe_cmp (pc_isN ha.pe)) fun σ H Q q => ?_⟩
  obtain ⟨mu, ex, rs, z, s, sl, o⟩ := q
  refine (tOf.go (R := RW) s sl o).imp fun v H1 ⟨mu1, z1, x, g1, s1, r1, o1⟩ => ?_
  rw [isN_eq r1]
  exact out_val s1 (.bl _) o1
theorem je_notN {j : Nat} {pos' : Pos} (ha : JE X w0 a ma) : JE X w0 (.Compare a [.IsNot] [.Constant .none j pos'] pos) (mUn (fun x z => .ok (.bl (!isN x)) z) ma) := by
  refine ⟨PE.of (pe_cmp (pc_notN ha.pe)) fun σ H Q q => ?_⟩
  obtain ⟨mu, ex, rs, z, s, sl, o⟩ := q
  refine (tOf.go (R := RW) s sl o).imp fun v H1 ⟨mu1, z1, x, g1, s1, r1, o1⟩ => ?_
  rw [isN_eq r1]
  exact out_val s1 (.bl _) o1
theorem jt_isN {j : Nat} {pos' : Pos} (ha : JE X w0 a ma) : JT X w0 (.Compare a [.Is] [.Constant .none j pos'] pos) (fun r z => (ma r z).bind fun x z => .ok (isN x) z) := by
  refine ⟨PT.of (pt_cmp (pc_isN ha.pe)) fun σ H Q q => ?_⟩
  obtain ⟨mu, ex, rs, z, s, sl, o⟩ := q
  refine (tOf.go (R := RW) s sl o).imp fun v H1 ⟨mu1, z1, x, g1, s1, r1, o1⟩ => ?_
  exact ⟨_, rfl, by rw [isN_eq r1]; exact o1 mu1 H1 _ (Gr.refl _) s1 rfl⟩
theorem jt_notN {j : Nat} {pos' : Pos} (ha : JE X w0 a ma) : JT X w0 (.Compare a [.IsNot] [.Constant .none j pos'] pos) (fun r z => (ma r z).bind fun x z => .ok (!isN x) z) := by
  refine ⟨PT.of (pt_cmp (pc_notN ha.pe)) fun σ H Q q => ?_⟩
  obtain ⟨mu, ex, rs, z, s, sl, o⟩ := q
  refine (tOf.go (R := RW) s sl o).imp fun v H1 ⟨mu1, z1, x, g1, s1, r1, o1⟩ => ?_
  exact ⟨_, rfl, by rw [isN_eq r1]; exact o1 mu1 H1 _ (Gr.refl _) s1 rfl⟩
/-! #### nothing is said -/
def mBad : ME := fun _ _ => .bad
def sBad : MS := fun _ _ => .bad
theorem je_bad : JE X w0 a mBad := ⟨⟨fun pins s σ H Q I h => by obtain ⟨mu, ex, r, z, s, sl, o⟩ := h; exact o.elim⟩⟩
theorem jt_bad : JT X w0 a (fun _ _ => .bad) := ⟨⟨fun pins s σ H Q I h => by obtain ⟨mu, ex, r, z, s, sl, o⟩ := h; exact o.elim⟩⟩
theorem js_bad {st : Stmt} : JS X w0 st sBad := ⟨⟨fun pins s σ H Q I h => by obtain ⟨mu, ex, r, z, s, sl, o⟩ := h; exact o.elim⟩⟩
theorem jb_bad {st : List Stmt} : JB X w0 st sBad := ⟨⟨fun pins s σ H Q I h => by obtain ⟨mu, ex, r, z, s, sl, o⟩ := h; exact o.elim⟩⟩
end
end J
namespace J
open PySem PySem.Spec L2
/-! ### data -/
mutual
def dat : W → Option PyData
  | .non => some .none
  | .bl b => some (.bool b)
  | .int i => some (.int i)
  | .str x => some (.str x)
  | .tup xs => (datL xs).map .tuple
  | .lst xs => (datL xs).map .list
  | .rl xs => (datL xs).map .list
  | _ => none
def datL : List W → Option (List PyData)
  | [] => some []
  | x :: xs => (dat x).bind fun d => (datL xs).map fun ds => d :: ds
end
def datY (f : W → Option PyData) : List W → Option (List PyData)
  | [] => some []
  | x :: xs => (f x).bind fun d => (datY f xs).map fun ds => d :: ds
def datZ1 (z : Z) (w : W) : Option PyData := match w with
  | .ob n => (match z[n]? with
    | some (some (.lst xs)) => (datL xs).map .list
    | _ => none)
  | w => dat w
def datZ (z : Z) (w : W) : Option PyData := match w with
  | .ob n => (match z[n]? with
    | some (some (.lst xs)) => (datY (datZ1 z) xs).map .list
    | _ => none)
  | w => dat w
mutual
theorem dat_dp {e : En} : ∀ {w : W} {v : V} {d : PyData}, RW e w v → dat w = some d → Dp e.K e.H v d
  | _, _, _, .non, h => by cases h; exact .non
  | _, _, _, .bl b, h => by cases h; exact .bl b
  | _, _, _, .int b, h => by cases h; exact .int b
  | _, _, _, .str b, h => by cases h; exact .str b
  | _, _, _, .ty b, h => by simp [dat] at h
  | _, _, _, .gl b, h => by simp [dat] at h
  | _, _, _, .ob b, h => by simp [dat] at h
  | _, _, _, .tup hh n r, h => by
    obtain ⟨ds, h1, rfl⟩ := Option.map_eq_some_iff.mp h
    exact .tup (.inl hh) (datL_dp r h1)
  | _, _, _, .tupK hh r, h => by
    obtain ⟨ds, h1, rfl⟩ := Option.map_eq_some_iff.mp h
    exact .tup (.inr hh) (datL_dp r h1)
  | _, _, _, .lst hh n r, h => by
    obtain ⟨ds, h1, rfl⟩ := Option.map_eq_some_iff.mp h
    exact .lst (.inl (.inl hh)) (datL_dp r h1)
  | _, _, _, .rl hh n r, h => by
    obtain ⟨ds, h1, rfl⟩ := Option.map_eq_some_iff.mp h
    exact .lst (.inl hh) (datL_dp r h1)
  | _, _, _, .rlK hh r, h => by
    obtain ⟨ds, h1, rfl⟩ := Option.map_eq_some_iff.mp h
    exact .lst (.inr hh) (datL_dp r h1)
  | _, _, _, .dic _ _ _, h => by simp [dat] at h
  | _, _, _, .ins _ _ _, h => by simp [dat] at h
  | _, _, _, .exc _ _ _ _ _, h => by simp [dat] at h
theorem datL_dp {e : En} : ∀ {w : List W} {v : List V} {d : List PyData}, RWs e w v → datL w = some d → DpAll e.K e.H v d
  | _, _, _, .nil, h => by cases h; exact .nil
  | _, _, _, .cons a b, h => by
    obtain ⟨d, h1, h2⟩ := Option.bind_eq_some_iff.mp h
    obtain ⟨ds, h3, rfl⟩ := Option.map_eq_some_iff.mp h2
    exact .cons (dat_dp a h1) (datL_dp b h3)
end
theorem datY_dp {e : En} {f : W → Option PyData} (hf : ∀ {w v d}, RW e w v → f w = some d → Dp e.K e.H v d) : ∀ {w : List W} {v : List V} {d : List PyData}, RWs e w v → datY f w = some d → DpAll e.K e.H v d
  | _, _, _, .nil, h => by cases h; exact .nil
  | _, _, _, .cons a b, h => by
    obtain ⟨d, h1, h2⟩ := Option.bind_eq_some_iff.mp h
    obtain ⟨ds, h3, rfl⟩ := Option.map_eq_some_iff.mp h2
    exact .cons (hf a h1) (datY_dp hf b h3)
theorem datZ1_dp {e : En} (s : SR e) {w : W} {v : V} {d : PyData} (r : RW e w v) (h : datZ1 e.z w = some d) : Dp e.K e.H v d := by
  cases w with
  | ob n =>
    simp only [datZ1] at h
    split at h
    · rename_i xs hz
      obtain ⟨ds, h1, rfl⟩ := Option.map_eq_some_iff.mp h
      obtain ⟨a, rfl, _, c⟩ := ob_cell s r hz
      cases c with
      | lst hh rr => exact .lst (.inl (.inl hh)) (datL_dp rr h1)
    · cases h
  | _ => exact dat_dp r h
theorem datZ_dp {e : En} (s : SR e) {w : W} {v : V} {d : PyData} (r : RW e w v) (h : datZ e.z w = some d) : Dp e.K e.H v d := by
  cases w with
  | ob n =>
    simp only [datZ] at h
    split at h
    · rename_i xs hz
      obtain ⟨ds, h1, rfl⟩ := Option.map_eq_some_iff.mp h
      obtain ⟨a, rfl, _, c⟩ := ob_cell s r hz
      cases c with
      | lst hh rr => exact .lst (.inl (.inl hh)) (datY_dp (fun r h => datZ1_dp s r h) rr h1)
    · cases h
  | _ => exact dat_dp r h
/-! ### == -/
def eqS : W → W → Option Bool
  | .int i, .int j => some (i == j)
  | .str i, .str j => some (i == j)
  | .bl i, .bl j => some (i == j)
  | .non, .non => some true
  | .non, .int _ => some false
  | .int _, .non => some false
  | .non, .str _ => some false
  | .str _, .non => some false
  | .non, .bl _ => some false
  | .bl _, .non => some false
  | .int _, .str _ => some false
  | .str _, .int _ => some false
  | .bl _, .str _ => some false
  | .str _, .bl _ => some false
  | _, _ => none
def eqB (z : Z) (x y : W) : Option Bool := match eqS x y with
  | some b => some b
  | none => match datZ z x, datZ z y with
    | some d, some e => if SeqAt.shaped d && SeqAt.shaped e then some (PyData.eqv d e) else none
    | _, _ => none
theorem eqS_v {e : En} {x y : W} {v u : V} {b : Bool} (rx : RW e x v) (ry : RW e y u) (h : eqS x y = some b) : scal v u = true ∧ decide (v = u) = b := by
  unfold eqS at h
  split at h <;> cases h <;> cases rx <;> cases ry <;> first
    | exact ⟨rfl, dec_int⟩
    | exact ⟨rfl, dec_str⟩
    | exact ⟨rfl, dec_bl⟩
    | exact ⟨rfl, rfl⟩
def eqW (x y : W) (z : Z) : Res W := match eqB z x y with
  | some b => .ok (.bl b) z
  | none => .bad
def neW (x y : W) (z : Z) : Res W := match eqB z x y with
  | some b => .ok (.bl (!b)) z
  | none => .bad
theorem opv_eq {K : PySem.W.Frag} : OpV K (fun x y H Q => rEq x y H Q ∨ rEqD K x y H Q) eqW := by
  intro e w0 σ x y v u Q hk s rx ry o
  unfold eqW at o
  cases hb : eqB e.z x y with
  | none => rw [hb] at o; exact o.elim
  | some b =>
    rw [hb] at o
    unfold eqB at hb
    cases hs : eqS x y with
    | some b' =>
      rw [hs] at hb
      cases hb
      obtain ⟨h1, h2⟩ := eqS_v rx ry hs
      exact .inl ⟨h1, by rw [h2]; exact out_val s (.bl _) o⟩
    | none =>
      rw [hs] at hb
      dsimp only at hb
      split at hb
      · rename_i d d' h1 h2
        split at hb
        · rename_i h3
          cases hb
          obtain ⟨h4, h5⟩ := Bool.and_eq_true_iff.mp h3
          have p1 := datZ_dp s rx h1
          have p2 := datZ_dp s ry h2
          rw [hk] at p1 p2
          exact .inr ⟨d, d', p1, p2, h4, h5, out_val s (.bl _) o⟩
        · cases hb
      · cases hb
theorem opv_ne {K : PySem.W.Frag} : OpV K (fun x y H Q => rNe x y H Q ∨ rNeD K x y H Q) neW := by
  intro e w0 σ x y v u Q hk s rx ry o
  unfold neW at o
  cases hb : eqB e.z x y with
  | none => rw [hb] at o; exact o.elim
  | some b =>
    rw [hb] at o
    unfold eqB at hb
    cases hs : eqS x y with
    | some b' =>
      rw [hs] at hb
      cases hb
      obtain ⟨h1, h2⟩ := eqS_v rx ry hs
      exact .inl ⟨h1, by rw [h2]; exact out_val s (.bl _) o⟩
    | none =>
      rw [hs] at hb
      dsimp only at hb
      split at hb
      · rename_i d d' h1 h2
        split at hb
        · rename_i h3
          cases hb
          obtain ⟨h4, h5⟩ := Bool.and_eq_true_iff.mp h3
          have p1 := datZ_dp s rx h1
          have p2 := datZ_dp s ry h2
          rw [hk] at p1 p2
          exact .inr ⟨d, d', p1, p2, h4, h5, out_val s (.bl _) o⟩
        · cases hb
      · cases hb
section
variable {X : Cx} {w0 : WX} {a b c e : Expr} {es : List Expr} {ma mb mc : ME} {mr : MA} {pos p : Pos}
theorem je_eq (hu : X.A.units + 64 < cLine) (ha : JE X w0 a ma) (hb : JE X w0 b mb) : JE X w0 (.Compare a [.Eq] [b] pos) (mOp eqW ma mb) := je_cmp (op_eq.or (op_eqD hu)) opv_eq ha hb (nomark _)
theorem je_ne (hu : X.A.units + 64 < cLine) (ha : JE X w0 a ma) (hb : JE X w0 b mb) : JE X w0 (.Compare a [.NotEq] [b] pos) (mOp neW ma mb) := je_cmp (op_ne.or (op_neD hu)) opv_ne ha hb (nomark _)
theorem jt_eq (hu : X.A.units + 64 < cLine) (ha : JE X w0 a ma) (hb : JE X w0 b mb) : JT X w0 (.Compare a [.Eq] [b] pos) (mBo (mOp eqW ma mb)) := jt_cmp (op_eq.or (op_eqD hu)) opv_eq ha hb (nomark _)
theorem jt_ne (hu : X.A.units + 64 < cLine) (ha : JE X w0 a ma) (hb : JE X w0 b mb) : JT X w0 (.Compare a [.NotEq] [b] pos) (mBo (mOp neW ma mb)) := jt_cmp (op_ne.or (op_neD hu)) opv_ne ha hb (nomark _)
/-! ### in (flat items) -/
def flW : W → Bool
  | .non => true
  | .bl _ => true
  | .int _ => true
  | .str _ => true
  | _ => false
/-- == of flat values -/
def eqF : W → W → Bool
  | .non, .non => true
  | .bl a, .bl b => a == b
  | .bl a, .int b => (if a then 1 else 0) == b
  | .int a, .bl b => a == (if b then 1 else 0)
  | .int a, .int b => a == b
  | .str a, .str b => a == b
  | _, _ => false
theorem flW_v {e : En} {x : W} {v : V} (r : RW e x v) : flW x = flatV v := by cases r <;> rfl
theorem flWs_v {e : En} : ∀ {x : List W} {v : List V}, RWs e x v → x.all flW = v.all flatV
  | _, _, .nil => rfl
  | _, _, .cons a b => by rw [List.all_cons, List.all_cons, flW_v a, flWs_v b]
theorem eqF_v {e : En} {x y : W} {v u : V} (r : RW e x v) (q : RW e y u) : eqF x y = eqV v u := by
  cases r <;> cases q <;> rfl
theorem anyF_v {e : En} {x : W} {u : V} (q : RW e x u) : ∀ {xs : List W} {vs : List V}, RWs e xs vs → (xs.any fun y => eqF y x) = inV u vs
  | _, _, .nil => rfl
  | _, _, .cons a b => by
    show _ = (List.any _ _)
    rw [List.any_cons, List.any_cons, eqF_v a q, anyF_v q b]; rfl
/-- the items of a list or a tuple -/
def sqOf (z : Z) : W → Option (List W)
  | .tup xs => some xs
  | w => rlOf z w
theorem sq_of {e : En} {w : W} {v : V} {xs : List W} (s : SR e) (h : RW e w v) (hl : sqOf e.z w = some xs) : ∃ a vs, v = .ref a ∧ (SqL e.K e.H a vs ∨ SqT e.K e.H a vs) ∧ RWs e xs vs := by
  cases w with
  | tup ys =>
    cases hl
    obtain ⟨a, vs, ea, h, r⟩ := sqT_of (a := 0) h
    exact ⟨a, vs, ea, .inr h, r⟩
  | _ =>
    obtain ⟨a, vs, ea, h, r⟩ := rl_of s h hl
    exact ⟨a, vs, ea, .inl h, r⟩
def inF (neg : Bool) (x y : W) (z : Z) : Res W := match sqOf z y with
  | some xs => if flW x && xs.all flW then .ok (.bl (if neg then !(xs.any fun y => eqF y x) else xs.any fun y => eqF y x)) z else .bad
  | none => .bad
theorem opv_in {K : PySem.W.Frag} {neg : Bool} : OpV K (rIn K neg) (inF neg) := by
  intro e w0 σ x y v u Q hk s rx ry o
  unfold inF at o
  split at o
  · rename_i xs h1
    split at o
    · rename_i h2
      obtain ⟨a, vs, rfl, sq, rr⟩ := sq_of s ry h1
      obtain ⟨h3, h4⟩ := Bool.and_eq_true_iff.mp h2
      rw [hk] at sq
      refine ⟨a, vs, rfl, sq, flW_v rx ▸ h3, flWs_v rr ▸ h4, ?_⟩
      rw [anyF_v rx rr] at o
      exact out_val s (.bl _) o
    · exact o.elim
  · exact o.elim
theorem je_in (ha : JE X w0 a ma) (hb : JE X w0 b mb) (hm : behindInMarks .In b = false := by rfl) : JE X w0 (.Compare a [.In] [b] pos) (mOp (inF false) ma mb) := je_cmp op_in_seq opv_in ha hb hm
theorem je_nin (ha : JE X w0 a ma) (hb : JE X w0 b mb) (hm : behindInMarks .NotIn b = false := by rfl) : JE X w0 (.Compare a [.NotIn] [b] pos) (mOp (inF true) ma mb) := je_cmp op_notIn_seq opv_in ha hb hm
theorem jt_in (ha : JE X w0 a ma) (hb : JE X w0 b mb) (hm : behindInMarks .In b = false := by rfl) : JT X w0 (.Compare a [.In] [b] pos) (mBo (mOp (inF false) ma mb)) := jt_cmp op_in_seq opv_in ha hb hm
theorem jt_nin (ha : JE X w0 a ma) (hb : JE X w0 b mb) (hm : behindInMarks .NotIn b = false := by rfl) : JT X w0 (.Compare a [.NotIn] [b] pos) (mBo (mOp (inF true) ma mb)) := jt_cmp op_notIn_seq opv_in ha hb hm
/-! ### a[i], a dict's too -/
theorem RWs.atI {e : En} {xs : List W} {vs : List V} {i : Int} {x : W} (h : RWs e xs vs) (q : L2.atI xs i = some x) : ∃ v, L2.atI vs i = some v ∧ RW e x v := by
  unfold L2.atI at q ⊢
  rw [← h.length]
  obtain ⟨j, h1, h2⟩ := Option.bind_eq_some_iff.mp q
  obtain ⟨v, hv, rv⟩ := h.get h2
  exact ⟨v, by rw [h1]; exact hv, rv⟩
def keyW : W → Option Key
  | .int i => some (.inl i)
  | .str x => some (.inr x)
  | _ => none
def getK (kvs : List (Key × W)) (k : Key) : Option W := (kvs.find? fun kv => decide (kv.1 = k)).map (·.2)
def putKW (kvs : List (Key × W)) (k : Key) (v : W) : List (Key × W) :=
  if (kvs.any fun kv => decide (kv.1 = k)) = true then kvs.map (fun kv => if kv.1 = k then (kv.1, v) else kv) else kvs ++ [(k, v)]
theorem RKs.get {e : En} {k : Key} : ∀ {xs : List (Key × W)} {vs : List (Key × V)}, RKs e xs vs → (∀ w, getK xs k = some w → ∃ v, valV vs k = some v ∧ RW e w v) ∧ (getK xs k = none → valV vs k = none)
  | _, _, .nil => ⟨fun w h => (by cases h), fun _ => rfl⟩
  | _, _, .cons (k := k') (x := x) (v := v) (xs := xs) (vs := vs) a b => by
    have ih := RKs.get (k := k) b
    by_cases c : k' = k
    · have e1 : getK ((k', x) :: xs) k = some x := by simp [getK, c]
      have e2 : valV ((k', v) :: vs) k = some v := by simp [valV, c]
      exact ⟨fun w h => ⟨v, e2, by rw [e1] at h; cases h; exact a⟩, fun h => by rw [e1] at h; cases h⟩
    · have e1 : getK ((k', x) :: xs) k = getK xs k := by simp [getK, c]
      have e2 : valV ((k', v) :: vs) k = valV vs k := by simp [valV, c]
      rw [e1, e2]; exact ih
theorem RKs.any {e : En} {k : Key} : ∀ {xs : List (Key × W)} {vs : List (Key × V)}, RKs e xs vs → (xs.any fun kv => decide (kv.1 = k)) = (vs.any fun kv => decide (kv.1 = k))
  | _, _, .nil => rfl
  | _, _, .cons a b => by rw [List.any_cons, List.any_cons, RKs.any b]
theorem RKs.repl {e : En} {k : Key} {y : W} {u : V} (r : RW e y u) : ∀ {xs : List (Key × W)} {vs : List (Key × V)}, RKs e xs vs → RKs e (xs.map fun kv => if kv.1 = k then (kv.1, y) else kv) (vs.map fun kv => if kv.1 = k then (kv.1, u) else kv)
  | _, _, .nil => .nil
  | _, _, .cons (k := k') a b => by
    rw [List.map_cons, List.map_cons]
    by_cases c : k' = k
    · simp only [c, if_true]; exact .cons r (RKs.repl r b)
    · simp only [c, if_false]; exact .cons a (RKs.repl r b)
theorem RKs.append {e : En} : ∀ {w w2 : List (Key × W)} {v v2 : List (Key × V)}, RKs e w v → RKs e w2 v2 → RKs e (w ++ w2) (v ++ v2)
  | _, _, _, _, .nil, h => h
  | _, _, _, _, .cons a b, h => .cons a (RKs.append b h)
theorem RKs.put {e : En} {k : Key} {y : W} {u : V} (r : RW e y u) {xs : List (Key × W)} {vs : List (Key × V)} (h : RKs e xs vs) : RKs e (putKW xs k y) (putK vs k u) := by
  unfold putKW putK
  rw [h.any (k := k)]
  split
  · exact h.repl r
  · exact h.append (.cons r .nil)
theorem RKs.length {e : En} : ∀ {w : List (Key × W)} {v : List (Key × V)}, RKs e w v → w.length = v.length
  | _, _, .nil => rfl
  | _, _, .cons _ b => by rw [List.length_cons, List.length_cons, RKs.length b]
/-- the pairs of a dict -/
def dkOf (z : Z) : W → Option (List (Key × W))
  | .dic xs => some xs
  | .ob n => match z[n]? with
    | some (some (.dic xs)) => some xs
    | _ => none
  | _ => none
theorem dk_ofW {e : En} {w : W} {v : V} {xs : List (Key × W)} (s : SR e) (h : RW e w v) (hl : dkOf e.z w = some xs) : ∃ a vs, v = .ref a ∧ e.H a = some (.dK vs) ∧ RKs e xs vs := by
  cases w with
  | dic ys =>
    cases hl
    cases h with
    | dic h n r => exact ⟨_, _, rfl, h, r⟩
  | ob n =>
    simp only [dkOf] at hl
    split at hl
    · rename_i ys hz
      cases hl
      obtain ⟨a, ea, _, c⟩ := ob_cell s h hz
      cases c with
      | dic h r => exact ⟨a, _, ea, h, r⟩
    · cases hl
  | _ => cases hl
theorem keyW_v {e : En} {x : W} {v : V} {k : Key} (r : RW e x v) (h : keyW x = some k) : v = kV k := by
  cases r <;> first | (cases h; rfl) | cases h
def ixW (x y : W) (z : Z) : Res W := match sqOf z x, y with
  | some xs, .int i => ofO (L2.atI xs i) z
  | none, y => (match x, y with
    | .str s, .int i => if s.length ≤ sizeLine then ofO ((L2.atI s.cps.toList i).map fun c => .str ⟨#[c]⟩) z else .bad
    | x, y => match dkOf z x, keyW y with
      | some kvs, some k => ofO (getK kvs k) z
      | _, _ => .bad)
  | _, _ => .bad
def rIxDk : R2 := fun x y H Q => ∃ a v, x = .ref a ∧ DGet H a y (some v) ∧ Q v H
open PyProof.Rows in
theorem ix_dict (hu : X.A.units + 1 < cLine) : IxR X rIxDk := by
  intro value slice pins s σ H x y o i Q I rx ry h hs
  obtain ⟨a, v, rfl, g, q⟩ := h
  obtain rfl : o = Value.ref a := rx
  have hT := dict_typeIs I g
  have h₂ : wpAny (model X.prog X.w) X.A (getItem (.ref a) i) (EP X pins σ Q) X.xe s := d_getItem hu I g ry fun w' s3 I3 rw' => ⟨v, H, I3, rw', q⟩
  unfold subscriptTail
  refine wpAny_bind ?_
  rw [getitemInPython_of_ne hT.not_modules]
  refine wpAny_bind (wpAny_specialOf hT PySem.F.slot_dict_getitem.lookup ?_)
  have fin : wpAny (model X.prog X.w) X.A (subscripted slice false (.ref a) i) (fun r s₃ => wpAny (model X.prog X.w) X.A (letTemporaryGo value (.ref a) r >>= fun _ => pure r) (EP X pins σ Q) X.xe s₃) X.xe s := by
    rw [hs]
    exact wpAny_operating (wpAny_mono h₂ (fun r s₃ h₃ => wpAny_bind (wpAny_letTemporaryGo (wpAny_pure h₃))) fun _ _ x => x)
  first
    | exact wpAny_pure (wpAny_bind fin)
    | exact wpAny_bind (wpAny_pure (wpAny_bind fin))
    | exact wpAny_bind fin
theorem opv_ix {K : PySem.W.Frag} : OpV K (fun x y H Q => rIx K x y H Q ∨ rIxDk x y H Q) ixW := by
  intro e w0 σ x y v u Q hk s rx ry o
  unfold ixW at o
  split at o
  · rename_i xs i h1
    cases ry
    cases ha : L2.atI xs i with
    | none => rw [ha] at o; exact o.elim
    | some w =>
      rw [ha] at o
      obtain ⟨a, vs, rfl, sq, rr⟩ := sq_of s rx h1
      obtain ⟨v', hv', rv'⟩ := rr.atI ha
      rw [hk] at sq
      rcases sq with sq | sq
      · exact .inl (.inl ⟨a, vs, i, v', rfl, rfl, sq, hv', out_val s rv' o⟩)
      · exact .inl (.inr (.inl ⟨a, vs, i, v', rfl, rfl, sq, hv', out_val s rv' o⟩))
  · rename_i h1
    split at o
    · rename_i st i
      cases rx
      cases ry
      split at o
      · rename_i hl
        cases ha : L2.atI st.cps.toList i with
        | none => rw [ha] at o; exact o.elim
        | some c =>
          rw [ha] at o
          exact .inl (.inr (.inr ⟨st, i, c, rfl, rfl, hl, ha, out_val s (.str _) o⟩))
      · exact o.elim
    · rename_i x y _
      split at o
      · rename_i kvs k h2 h3
        cases hg : getK kvs k with
        | none => rw [hg] at o; exact o.elim
        | some w =>
          rw [hg] at o
          obtain ⟨a, vs, rfl, ha, rr⟩ := dk_ofW s rx h2
          obtain ⟨v', hv', rv'⟩ := (rr.get (k := k)).1 w hg
          refine .inr ⟨a, v', rfl, ?_, out_val s rv' o⟩
          rw [keyW_v ry h3, ← hv']
          exact DGet.k ha
      · exact o.elim
  · exact o.elim
theorem je_ixW (hu : X.A.units + 1 < cLine) (ha : JE X w0 a ma) (hb : JE X w0 b mb) (hs : PlainIx b) : JE X w0 (.Subscript a b pos) (mOp ixW ma mb) := je_ix (ix_seq.or (ix_dict hu)) opv_ix ha hb hs
/-- a dict of the module, by its text keys -/
def kdW (t : List (Str × W)) (y : W) (z : Z) : Res W := match y with
  | .str k => ofO (t.lookup k) z
  | _ => .bad
theorem je_ixK {d : Addr} {t : List (Str × W)} (ha : PE X a (tC (.ref d))) (hb : JE X w0 b mb) (hs : PlainIx b) (hd : ∀ k w, t.lookup k = some w → ∃ v, KDct X.K X.w d k v ∧ ∀ e, RW e w v) : JE X w0 (.Subscript a b pos) (mUn (kdW t) mb) := by
  refine ⟨PE.of (pe_ix ix_kdict ha hb.pe hs) fun σ H Q q => ?_⟩
  obtain ⟨mu, ex, rs, z, s, sl, o⟩ := q
  refine (tOf.go (R := RW) s sl o).imp fun v H1 ⟨mu1, z1, x, g1, s1, r1, o1⟩ => ?_
  dsimp only [kdW] at o1
  split at o1
  · rename_i k
    cases r1
    cases hl : t.lookup k with
    | none => rw [hl] at o1; exact o1.elim
    | some w =>
      rw [hl] at o1
      obtain ⟨v, h1, h2⟩ := hd k w hl
      exact ⟨d, k, v, rfl, rfl, h1, out_val s1 (h2 _) o1⟩
  · exact o1.elim
/-! ### slices -/
structure JP (X : Cx) (w0 : WX) (e : Option Expr) (m : Sl → Z → Res (Option Int)) : Prop where
  po : PO X e (tOf (fun _ a b => a = b) X.K w0 m)
def pNo : Sl → Z → Res (Option Int) := fun _ z => .ok none z
def pSo (m : ME) : Sl → Z → Res (Option Int) := fun r z => (m r z).bind fun w z => match w with
  | .int i => .ok (some i) z
  | _ => .bad
theorem PO.of {e : Option Expr} {t t' : TO} (h : PO X e t) (k : ∀ σ H Q, t' σ H Q → t σ H Q) : PO X e t' := ⟨fun pins s σ H Q I q => h.run pins s σ H Q I (k _ _ _ q)⟩
theorem jp_none : JP X w0 none pNo := by
  refine ⟨PO.of po_none fun σ H Q q => ?_⟩
  obtain ⟨mu, ex, rs, z, s, sl, o⟩ := q
  exact o mu H none (Gr.refl _) s rfl
theorem jp_some (h : JE X w0 e ma) : JP X w0 (some e) (pSo ma) := by
  refine ⟨PO.of (po_some h.pe) fun σ H Q q => ?_⟩
  obtain ⟨mu, ex, rs, z, s, sl, o⟩ := q
  refine (tOf.go (R := RW) s sl o).imp fun v H1 ⟨mu1, z1, x, g1, s1, r1, o1⟩ => ?_
  cases r1 with
  | int i => exact ⟨i, rfl, o1 mu1 H1 _ (Gr.refl _) s1 rfl⟩
  | _ => exact o1.elim
def cutW {α : Type} (xs : List α) (lo hi : Option Int) : List α := (xs.drop (HT.sIx xs.length 0 lo)).take (HT.sIx xs.length xs.length hi - HT.sIx xs.length 0 lo)
theorem RWs.cutW {e : En} {w : List W} {v : List V} (h : RWs e w v) (lo hi : Option Int) : RWs e (J.cutW w lo hi) (cutV v lo hi) := by
  unfold J.cutW cutV
  rw [h.length]
  exact (h.drop _).take _
def slW (x : W) (lo hi : Option Int) (z : Z) : Res W := match x with
  | .str s => if s.length ≤ sizeLine then .ok (.str (cutS s lo hi)) z else .bad
  | .tup xs => if HT.sIx xs.length 0 lo = 0 ∧ HT.sIx xs.length xs.length hi = xs.length then .bad else .ok (.tup (cutW xs lo hi)) z
  | x => match rlOf z x with
    | some xs => .ok (.lst (cutW xs lo hi)) z
    | none => .bad
def mSl (f : W → Option Int → Option Int → Z → Res W) (ma : ME) (ml mh : Sl → Z → Res (Option Int)) : ME := fun r z => (ma r z).bind fun x z => (ml r z).bind fun l z => (mh r z).bind fun h z => f x l h z
theorem opv_sl {K : PySem.W.Frag} (e : En) (w0 : WX) (σ : L2.St) (x : W) (lo hi : Option Int) (v : V) (Q : VK) (hk : e.K = K) (s : SR e) (rx : RW e x v) (o : Out RW w0 e σ Q (slW x lo hi e.z)) : rSlL K v lo hi e.H Q ∨ rSlT K v lo hi e.H Q ∨ rSlS v lo hi e.H Q := by
  unfold slW at o
  split at o
  · cases rx
    split at o
    · rename_i h
      exact .inr (.inr ⟨_, rfl, h, out_val s (.str _) o⟩)
    · exact o.elim
  · rename_i xs
    split at o
    · exact o.elim
    · rename_i h
      obtain ⟨a, vs, rfl, sq, rr⟩ := sqT_of (a := 0) rx
      rw [hk] at sq
      refine .inr (.inl ⟨a, vs, rfl, sq, by rw [← rr.length]; exact h, fun p hp => new_tup s (rr.cutW lo hi) o hp⟩)
  · split at o
    · rename_i xs h
      obtain ⟨a, vs, rfl, sq, rr⟩ := rl_of s rx h
      rw [hk] at sq
      exact .inl ⟨a, vs, rfl, sq, fun p hp => out_lst s (rr.cutW lo hi) o hp⟩
    · exact o.elim
theorem sl_t {ml mh : Sl → Z → Res (Option Int)} (σ : L2.St) (H : Hp) (Q : VK) (q : tE X.K w0 (mSl slW ma ml mh) σ H Q) :
    tSl (fun x lo hi H Q => rSlL X.K x lo hi H Q ∨ rSlT X.K x lo hi H Q ∨ rSlS x lo hi H Q) (tE X.K w0 ma) (tOf (fun _ a b => a = b) X.K w0 ml) (tOf (fun _ a b => a = b) X.K w0 mh) σ H Q := by
  obtain ⟨mu, ex, rs, z, s, sl, o⟩ := q
  refine (tOf.go (R := RW) s sl o).imp fun v H1 ⟨mu1, z1, x, g1, s1, r1, o1⟩ => ?_
  refine (tOf.go (R := fun _ a b => a = b) s1 (sl.mono g1) o1).imp fun l H2 ⟨mu2, z2, l', g2, s2, r2, o2⟩ => ?_
  refine (tOf.go (R := fun _ a b => a = b) s2 ((sl.mono g1).mono g2) o2).imp fun h H3 ⟨mu3, z3, h', g3, s3, r3, o3⟩ => ?_
  cases (show l' = l from r2)
  cases (show h' = h from r3)
  exact opv_sl _ w0 σ x _ _ v Q rfl s3 ((r1.mono g2).mono g3) o3
theorem je_sl {lo hi : Option Expr} {p2 : Pos} {ml mh : Sl → Z → Res (Option Int)} (he : JE X w0 e ma) (hl : JP X w0 lo ml) (hh : JP X w0 hi mh) : JE X w0 (.Subscript e (.Slice lo hi none p2) pos) (mSl slW ma ml mh) :=
  ⟨PE.of (pe_slice (sl_list.or (sl_tup.or sl_str)) he.pe hl.po hh.po) sl_t⟩
/-! ### calls of what is built in -/
def CaV (K : PySem.W.Frag) (r : List V → Hp → VK → Prop) (f : List W → Z → Res W) : Prop := ∀ (e : En) (w0 : WX) (σ : L2.St) (xs : List W) (vs : List V) (Q : VK), e.K = K → SR e → RWs e xs vs → Out RW w0 e σ Q (f xs e.z) → r vs e.H Q
def mCB (f : List W → Z → Res W) (mr : MA) : ME := fun r z => (mr r z).bind fun ws z => f ws z
theorem cb_t {r : List V → Hp → VK → Prop} {f : List W → Z → Res W} (hf : CaV X.K r f) (σ : L2.St) (H : Hp) (Q : VK) (q : tE X.K w0 (mCB f mr) σ H Q) : tCB r (tA X.K w0 mr) σ H Q := by
  obtain ⟨mu, ex, rs, z, s, sl, o⟩ := q
  refine (tOf.go (R := RWs) s sl o).imp fun v H1 ⟨mu1, z1, x, g1, s1, r1, o1⟩ => ?_
  exact hf _ w0 σ x v Q rfl s1 r1 o1
theorem je_cb {x : Str} {id : String} {r : List V → Hp → VK → Prop} {f : List W → Z → Res W} (hc : CallR X (.builtin id) r) (hf : CaV X.K r f) (hg : Gl X x) (hm : X.mg x = none) (hv : bootBuiltins x = some (.builtin id)) (ha : JA X w0 (e :: es) mr) (hn : x ≠ "__name__" := by decide) (hdb : (x == ("__debug__" : Str)) = false := by decide)
    (he : starEach (e :: es) X.env = (false, eval e X.env) :: starEach es X.env := by rfl) (hpl : (backTo pos (starEach es X.env)).any (·.1) = false := by rfl) : JE X w0 (.Call (.Name x p) (e :: es) [] pos) (mCB f mr) :=
  ⟨PE.of (pe_callB hc hg hm hv ha.pa hn hdb he hpl) (cb_t hf)⟩
theorem je_ct {x : Str} {T : String} {r : List V → Hp → VK → Prop} {f : List W → Z → Res W} (hc : CallR X (.type T) r) (hf : CaV X.K r f) (hg : Gl X x) (hm : X.mg x = none) (hv : bootBuiltins x = some (.type T)) (ha : JA X w0 (e :: es) mr) (hn : x ≠ "__name__" := by decide) (hdb : (x == ("__debug__" : Str)) = false := by decide)
    (he : starEach (e :: es) X.env = (false, eval e X.env) :: starEach es X.env := by rfl) (hpl : (backTo pos (starEach es X.env)).any (·.1) = false := by rfl) : JE X w0 (.Call (.Name x p) (e :: es) [] pos) (mCB f mr) :=
  ⟨PE.of (pe_callTy hc hg hm hv ha.pa hn hdb he hpl) (cb_t hf)⟩
theorem cav_or {K : PySem.W.Frag} {r1 r2 : List V → Hp → VK → Prop} {f1 f2 : List W → Z → Res W} (h1 : CaV K r1 f1) (h2 : CaV K r2 f2) : CaV K (fun xs H Q => r1 xs H Q ∨ r2 xs H Q) (fun xs z => match f1 xs z with | .bad => f2 xs z | o => o) := by
  intro e w0 σ xs vs Q hk s rx o
  dsimp only at o
  split at o
  · exact .inr (h2 e w0 σ xs vs Q hk s rx o)
  · exact .inl (h1 e w0 σ xs vs Q hk s rx o)
/-- the same with a new thing -/
def CaVO (K : PySem.W.Frag) (r : List V → Hp → VK → Prop) (f : List W → Z → Res W) : Prop := ∀ (e : En) (w0 : WX) (σ : L2.St) (xs : List W) (vs : List V) (Q : VK), e.K = K → SR e → RWs e xs vs → OutO w0 e σ Q (f xs e.z) → r vs e.H Q
theorem cb_tO {r : List V → Hp → VK → Prop} {f : List W → Z → Res W} (hf : CaVO X.K r f) (σ : L2.St) (H : Hp) (Q : VK) (q : tO X.K w0 (mCB f mr) σ H Q) : tCB r (tA X.K w0 mr) σ H Q := by
  obtain ⟨mu, ex, rs, z, s, sl, o⟩ := q
  refine (tOf.goO (R := RWs) s sl o).imp fun v H1 ⟨mu1, z1, x, g1, s1, r1, o1⟩ => ?_
  exact hf _ w0 σ x v Q rfl s1 r1 o1
theorem jo_ct {x : Str} {T : String} {r : List V → Hp → VK → Prop} {f : List W → Z → Res W} (hc : CallR X (.type T) r) (hf : CaVO X.K r f) (hg : Gl X x) (hm : X.mg x = none) (hv : bootBuiltins x = some (.type T)) (ha : JA X w0 (e :: es) mr) (hn : x ≠ "__name__" := by decide) (hdb : (x == ("__debug__" : Str)) = false := by decide)
    (he : starEach (e :: es) X.env = (false, eval e X.env) :: starEach es X.env := by rfl) (hpl : (backTo pos (starEach es X.env)).any (·.1) = false := by rfl) : JO X w0 (.Call (.Name x p) (e :: es) [] pos) (mCB f mr) :=
  ⟨PE.of (pe_callTy hc hg hm hv ha.pa hn hdb he hpl) (cb_tO hf)⟩
theorem jo_cb {x : Str} {id : String} {r : List V → Hp → VK → Prop} {f : List W → Z → Res W} (hc : CallR X (.builtin id) r) (hf : CaVO X.K r f) (hg : Gl X x) (hm : X.mg x = none) (hv : bootBuiltins x = some (.builtin id)) (ha : JA X w0 (e :: es) mr) (hn : x ≠ "__name__" := by decide) (hdb : (x == ("__debug__" : Str)) = false := by decide)
    (he : starEach (e :: es) X.env = (false, eval e X.env) :: starEach es X.env := by rfl) (hpl : (backTo pos (starEach es X.env)).any (·.1) = false := by rfl) : JO X w0 (.Call (.Name x p) (e :: es) [] pos) (mCB f mr) :=
  ⟨PE.of (pe_callB hc hg hm hv ha.pa hn hdb he hpl) (cb_tO hf)⟩
/-- len -/
def lenW (xs : List W) (z : Z) : Res W := match xs with
  | [.str s] => if s.length ≤ sizeLine then .ok (.int s.length) z else .bad
  | [x] => (match sqOf z x with
    | some ys => .ok (.int ys.length) z
    | none => .bad)
  | _ => .bad
theorem cav_len {K : PySem.W.Frag} : CaV K (fun xs H Q => ∃ x n, xs = [x] ∧ LenV K x H n ∧ Q (.int n) H) lenW := by
  intro e w0 σ xs vs Q hk s rx o
  unfold lenW at o
  split at o
  · cases rx with
    | cons a b =>
      cases b; cases a
      split at o
      · rename_i h
        exact ⟨_, _, rfl, ⟨h, rfl⟩, out_val s (.int _) o⟩
      · exact o.elim
  · rename_i x _
    cases rx with
    | cons a b =>
      cases b
      split at o
      · rename_i ys h
        obtain ⟨p, us, rfl, sq, rr⟩ := sq_of s a h
        rw [hk] at sq
        refine ⟨_, _, rfl, ?_, out_val s (.int _) o⟩
        rcases sq with sq | sq
        · exact .inl ⟨us, sq, rr.length⟩
        · exact .inr ⟨us, sq, rr.length⟩
      · exact o.elim
  · exact o.elim
theorem je_len {x1 : Str} (hx : x1 = "len") (hg : Gl X x1) (hm : X.mg x1 = none) (ha : JA X w0 [e] mr) (he : starEach [e] X.env = (false, eval e X.env) :: starEach [] X.env := by rfl) : JE X w0 (.Call (.Name x1 p) [e] [] pos) (mCB lenW mr) := by
  subst hx
  exact je_cb call_len cav_len hg hm PySem.boot_len ha (by decide) (by decide) he (by rfl)
/-- all, any of a list of truths -/
def blsW : List W → Option (List Bool)
  | [] => some []
  | .bl b :: r => (blsW r).map fun bs => b :: bs
  | _ => none
theorem bls_v {e : En} : ∀ {xs : List W} {vs : List V} {bs : List Bool}, RWs e xs vs → blsW xs = some bs → vs = bs.map V.bl
  | _, _, _, .nil, h => by cases h; rfl
  | _, _, _, .cons (.bl b) r, h => by
    obtain ⟨bs, h1, rfl⟩ := Option.map_eq_some_iff.mp h
    rw [bls_v r h1]; rfl
def allW (g : List Bool → Bool) (xs : List W) (z : Z) : Res W := match xs with
  | [x] => (match (rlOf z x).bind blsW with
    | some bs => .ok (.bl (g bs)) z
    | none => .bad)
  | _ => .bad
theorem cav_all {K : PySem.W.Frag} {g : List Bool → Bool} : CaV K (fun vs H Q => ∃ (a : Addr) (bs : List Bool), vs = [V.ref a] ∧ SqL K H a (bs.map V.bl) ∧ Q (.bl (g bs)) H) (allW g) := by
  intro e w0 σ xs vs Q hk s rx o
  unfold allW at o
  split at o
  · cases rx with
    | cons a b =>
      cases b
      split at o
      · rename_i bs h
        obtain ⟨ys, h1, h2⟩ := Option.bind_eq_some_iff.mp h
        obtain ⟨p, us, rfl, sq, rr⟩ := rl_of s a h1
        rw [hk, bls_v rr h2] at sq
        exact ⟨p, bs, rfl, sq, out_val s (.bl _) o⟩
      · exact o.elim
  · exact o.elim
theorem je_all (hc : X.calm = true) (hg : Gl X "all") (hm : X.mg "all" = none) (ha : JA X w0 [e] mr) (he : starEach [e] X.env = (false, eval e X.env) :: starEach [] X.env := by rfl) : JE X w0 (.Call (.Name "all" p) [e] [] pos) (mCB (allW fun bs => bs.all id) mr) :=
  je_cb (cr_all hc) cav_all hg hm (by decide +kernel) ha (by decide) (by decide) he (by rfl)
theorem je_any (hc : X.calm = true) (hg : Gl X "any") (hm : X.mg "any" = none) (ha : JA X w0 [e] mr) (he : starEach [e] X.env = (false, eval e X.env) :: starEach [] X.env := by rfl) : JE X w0 (.Call (.Name "any" p) [e] [] pos) (mCB (allW fun bs => bs.any id) mr) :=
  je_cb (cr_any hc) cav_all hg hm (by decide +kernel) ha (by decide) (by decide) he (by rfl)
/-- min, max of two numbers -/
def mm2 (g : Int → Int → Int) (xs : List W) (z : Z) : Res W := match xs with
  | [.int i, .int j] => .ok (.int (g i j)) z
  | _ => .bad
theorem cav_mm2 {K : PySem.W.Frag} {g : Int → Int → Int} : CaV K (fun xs H Q => ∃ i j, xs = [.int i, .int j] ∧ Q (.int (g i j)) H) (mm2 g) := by
  intro e w0 σ xs vs Q hk s rx o
  unfold mm2 at o
  split at o
  · cases rx with
    | cons a b =>
      cases b with
      | cons b c =>
        cases c; cases a; cases b
        exact ⟨_, _, rfl, out_val s (.int _) o⟩
  · exact o.elim
theorem je_min (hc : X.calm = true) (hg : Gl X "min") (hm : X.mg "min" = none) (ha : JA X w0 [a, b] mr) (he : starEach [a, b] X.env = (false, eval a X.env) :: starEach [b] X.env := by rfl) (hpl : (backTo pos (starEach [b] X.env)).any (·.1) = false := by rfl) : JE X w0 (.Call (.Name "min" p) [a, b] [] pos) (mCB (mm2 fun i j => if j < i then j else i) mr) :=
  je_cb (call_min2 hc) cav_mm2 hg hm (by decide +kernel) ha (by decide) (by decide) he hpl
theorem je_max (hc : X.calm = true) (hg : Gl X "max") (hm : X.mg "max" = none) (ha : JA X w0 [a, b] mr) (he : starEach [a, b] X.env = (false, eval a X.env) :: starEach [b] X.env := by rfl) (hpl : (backTo pos (starEach [b] X.env)).any (·.1) = false := by rfl) : JE X w0 (.Call (.Name "max" p) [a, b] [] pos) (mCB (mm2 fun i j => if j > i then j else i) mr) :=
  je_cb (call_max2 hc) cav_mm2 hg hm (by decide +kernel) ha (by decide) (by decide) he hpl
/-- repr -/
def reprW (xs : List W) (z : Z) : Res W := match xs with
  | [x] => (match datZ z x with
    | some d => if d.showable && decide (d.shown.length ≤ sizeLine) && decide (d.depth ≤ 64) then .ok (.str d.shown) z else .bad
    | none => .bad)
  | _ => .bad
theorem cav_repr {K : PySem.W.Frag} : CaV K (rReprD K) reprW := by
  intro e w0 σ xs vs Q hk s rx o
  unfold reprW at o
  split at o
  · cases rx with
    | cons a b =>
      cases b
      split at o
      · rename_i d h
        split at o
        · rename_i h2
          have p1 := datZ_dp s a h
          rw [hk] at p1
          obtain ⟨h3, h4⟩ := Bool.and_eq_true_iff.mp h2
          obtain ⟨h3, h5⟩ := Bool.and_eq_true_iff.mp h3
          exact ⟨_, d, rfl, p1, h3, of_decide_eq_true h5, of_decide_eq_true h4, out_val s (.str _) o⟩
        · exact o.elim
      · exact o.elim
  · exact o.elim
theorem je_repr (hG : X.A.guards = some []) (hu : X.A.units + 66 < cLine) (hg : Gl X "repr") (hm : X.mg "repr" = none) (ha : JA X w0 [e] mr) (he : starEach [e] X.env = (false, eval e X.env) :: starEach [] X.env := by rfl) : JE X w0 (.Call (.Name "repr" p) [e] [] pos) (mCB reprW mr) :=
  je_cb (call_reprD hG hu) cav_repr hg hm (by decide +kernel) ha (by decide) (by decide) he (by rfl)
/-- tuple, list of a list or tuple -/
def tupW (xs : List W) (z : Z) : Res W := match xs with
  | [.tup ys] => .ok (.tup ys) z
  | [x] => (match rlOf z x with
    | some ys => .ok (.tup ys) z
    | none => .bad)
  | _ => .bad
theorem cav_tuple {K : PySem.W.Frag} : CaV K (fun xs H Q => ∃ p ys, xs = [.ref p] ∧ ((SqL K H p ys ∧ ∀ l, H l = none → Q (.ref l) (upd H l (.tup ys))) ∨ (SqT K H p ys ∧ Q (.ref p) H))) tupW := by
  intro e w0 σ xs vs Q hk s rx o
  unfold tupW at o
  split at o
  · cases rx with
    | cons a b =>
      cases b
      have a' := a
      obtain ⟨p, us, rfl, sq, rr⟩ := sqT_of (a := 0) a
      rw [hk] at sq
      exact ⟨p, us, rfl, .inr ⟨sq, out_val s a' o⟩⟩
  · cases rx with
    | cons a b =>
      cases b
      split at o
      · rename_i ys h
        obtain ⟨p, us, rfl, sq, rr⟩ := rl_of s a h
        rw [hk] at sq
        exact ⟨p, us, rfl, .inl ⟨sq, fun l hl => new_tup s rr o hl⟩⟩
      · exact o.elim
  · exact o.elim
theorem je_tuple (hg : Gl X "tuple") (hm : X.mg "tuple" = none) (ha : JA X w0 [e] mr) (he : starEach [e] X.env = (false, eval e X.env) :: starEach [] X.env := by rfl) : JE X w0 (.Call (.Name "tuple" p) [e] [] pos) (mCB tupW mr) :=
  je_ct call_tuple_of cav_tuple hg hm (by decide +kernel) ha (by decide) (by decide) he (by rfl)
def listW (xs : List W) (z : Z) : Res W := match xs with
  | [x] => (match sqOf z x with
    | some ys => .ok (.lst ys) z
    | none => .bad)
  | _ => .bad
theorem jo_list (hg : Gl X "list") (hm : X.mg "list" = none) (ha : JA X w0 [e] mr) (he : starEach [e] X.env = (false, eval e X.env) :: starEach [] X.env := by rfl) : JO X w0 (.Call (.Name "list" p) [e] [] pos) (mCB listW mr) := by
  refine jo_ct call_list_of (fun e w0 σ xs vs Q hk s rx o => ?_) hg hm (by decide +kernel) ha (by decide) (by decide) he (by rfl)
  unfold listW at o
  split at o
  · cases rx with
    | cons a b =>
      cases b
      split at o
      · rename_i ys h
        obtain ⟨p, us, rfl, sq, rr⟩ := sq_of s a h
        rw [hk] at sq
        exact ⟨p, us, rfl, sq, fun l hl => new_lst s rr o hl⟩
      · exact o.elim
  · exact o.elim
/-! ### isinstance -/
/-- a value's type, a class: a built-in one, or one of the module -/
def tyW (z : Z) : W → Option W
  | .non => some (.ty "NoneType")
  | .bl _ => some (.ty "bool")
  | .int _ => some (.ty "int")
  | .str _ => some (.ty "str")
  | .tup _ => some (.ty "tuple")
  | .lst _ => some (.ty "list")
  | .rl _ => some (.ty "list")
  | .dic _ => some (.ty "dict")
  | .ob n => (match z[n]? with
    | some (some (.lst _)) => some (.ty "list")
    | some (some (.dic _)) => some (.ty "dict")
    | _ => none)
  | _ => none
def tagV (K : PySem.W.Frag) : W → Value
  | .ty n => .type n
  | .gl x => .ref (cA K x)
  | _ => .none
theorem tyW_x {e : En} (s : SR e) {x : W} {v : V} {t : W} (r : RW e x v) (h : tyW e.z x = some t) : TyX e.K e.H v (tagV e.K t) := by
  cases x with
  | ob n =>
    simp only [tyW] at h
    split at h
    · rename_i hz
      cases h
      obtain ⟨a, rfl, _, c⟩ := ob_cell s r hz
      cases c with
      | lst h _ => exact .base (.lst h)
    · rename_i hz
      cases h
      obtain ⟨a, rfl, _, c⟩ := ob_cell s r hz
      cases c with
      | dic h _ => exact .base (.dK h)
    · cases h
  | non => cases h; cases r; exact .base .non
  | bl _ => cases h; cases r; exact .base (.bl _)
  | int _ => cases h; cases r; exact .base (.int _)
  | str _ => cases h; cases r; exact .base (.str _)
  | tup _ =>
    cases h
    cases r with
    | tup h _ _ =>
      rcases h with h | ⟨o, h⟩
      · exact .base (.tup h)
      · exact .fTuple h
    | tupK h _ =>
      obtain ⟨o, its, n, h1, h2, _⟩ := h
      exact .kTuple h1 h2
  | lst _ =>
    cases h
    cases r with
    | lst h _ _ => exact .base (.lst h)
  | rl _ =>
    cases h
    cases r with
    | rl h _ _ =>
      rcases h with h | ⟨o, h⟩
      · exact .base (.lst h)
      · exact .base (.frz h)
    | rlK h _ =>
      obtain ⟨o, its, n, h1, h2, _⟩ := h
      exact .kList h1 h2
  | dic _ =>
    cases h
    cases r with
    | dic h _ _ => exact .base (.dK h)
  | _ => cases h
def isCls : W → Bool
  | .ty _ => true
  | .gl _ => true
  | _ => false
theorem cls_v {e : En} {x : W} {v : V} (r : RW e x v) (h : isCls x = true) : ClsV v (tagV e.K x) := by
  cases r <;> first | exact .ty _ | exact .own _ | cases h
/-- what is known of classes -/
abbrev Kit := W → W → Option Bool
def KitOk (K : PySem.W.Frag) (kit : Kit) : Prop := ∀ t u b, kit t u = some b → PySem.W.kitOne K (tagV K t) (tagV K u) = some b
def isiW (kit : Kit) (xs : List W) (z : Z) : Res W := match xs with
  | [x, c] => (match tyW z x with
    | some t => if isCls c then ofO ((kit t c).map .bl) z else .bad
    | none => .bad)
  | _ => .bad
theorem cav_isi {K : PySem.W.Frag} {kit : Kit} (hkit : KitOk K kit) : CaV K (rIsi K) (isiW kit) := by
  intro e w0 σ xs vs Q hk s rx o
  unfold isiW at o
  split at o
  · rename_i x u
    cases rx with
    | cons a b =>
      cases b with
      | cons b c =>
        cases c
        split at o
        · rename_i t h1
          split at o
          · rename_i h2
            cases hb : kit t u with
            | none => rw [hb] at o; exact o.elim
            | some k =>
              rw [hb] at o
              have p1 := tyW_x s a h1
              have p2 := cls_v b h2
              rw [hk] at p1 p2
              exact ⟨_, _, _, _, k, rfl, p2, p1, hkit t u k hb, out_val s (.bl _) o⟩
          · exact o.elim
        · exact o.elim
  · exact o.elim
/-- instances of the module's classes, exceptions among them -/
def tyI (z : Z) : W → Option Str
  | .ins C _ => some C
  | .ob n => (match z[n]? with
    | some (some (.ins C _)) => some C
    | _ => none)
  | _ => none
end
end J
namespace J
open PySem PySem.Spec L2
/-! ### what may change is changed -/
section
variable {e : En} {n : Nat} {a : Addr}
theorem wr_lst (s : SR e) {w : W} {ys : List W} {us : List V} (hz : e.z[n]? = some (some w)) (hm : e.mu[n]? = some a) (r : RWs e ys us) : SR (e.wr n a (.lst us) (.lst ys)) ∧ Gr e (e.wr n a (.lst us) (.lst ys)) :=
  ⟨s.wr hz hm (.lst upd_same (r.mono (s.gwr hz hm))), s.gwr hz hm⟩
theorem wr_dic (s : SR e) {w : W} {ys : List (Key × W)} {us : List (Key × V)} (hz : e.z[n]? = some (some w)) (hm : e.mu[n]? = some a) (r : RKs e ys us) : SR (e.wr n a (.dK us) (.dic ys)) ∧ Gr e (e.wr n a (.dK us) (.dic ys)) :=
  ⟨s.wr hz hm (.dic upd_same (r.mono (s.gwr hz hm))), s.gwr hz hm⟩
end
/-! ### methods of what is built in -/
def okL (z : Z) (x : W) : Bool := (rlOf z x).isSome
def okS (_ : Z) (x : W) : Bool := match x with
  | .str _ => true
  | _ => false
def okD (z : Z) (x : W) : Bool := (dkOf z x).isSome
def MeV (K : PySem.W.Frag) (r : V → List V → Hp → VK → Prop) (f : W → List W → Z → Res W) : Prop := ∀ (e : En) (w0 : WX) (σ : L2.St) (x : W) (xs : List W) (v : V) (vs : List V) (Q : VK), e.K = K → SR e → RW e x v → RWs e xs vs → Out RW w0 e σ Q (f x xs e.z) → r v vs e.H Q
def MeVO (K : PySem.W.Frag) (r : V → List V → Hp → VK → Prop) (f : W → List W → Z → Res W) : Prop := ∀ (e : En) (w0 : WX) (σ : L2.St) (x : W) (xs : List W) (v : V) (vs : List V) (Q : VK), e.K = K → SR e → RW e x v → RWs e xs vs → OutO w0 e σ Q (f x xs e.z) → r v vs e.H Q
def TyOk (K : PySem.W.Frag) (T : String) (ok : Z → W → Bool) : Prop := ∀ (e : En) (x : W) (v : V), e.K = K → SR e → RW e x v → ok e.z x = true → tyV K T v e.H
theorem ty_list {K : PySem.W.Frag} : TyOk K "list" okL := by
  intro e x v hk s r h
  obtain ⟨xs, hx⟩ := Option.isSome_iff_exists.mp h
  obtain ⟨a, vs, rfl, sq, _⟩ := rl_of s r hx
  rw [hk] at sq
  exact .inl ⟨rfl, vs, sq⟩
theorem ty_str {K : PySem.W.Frag} : TyOk K "str" okS := by
  intro e x v hk s r h
  cases r <;> first | rfl | cases h
theorem ty_dict {K : PySem.W.Frag} : TyOk K "dict" okD := by
  intro e x v hk s r h
  obtain ⟨xs, hx⟩ := Option.isSome_iff_exists.mp h
  obtain ⟨a, vs, rfl, sq, _⟩ := dk_ofW s r hx
  exact .inr (.inr (.inl ⟨rfl, .inl ⟨vs, sq⟩⟩))
def mMt (ok : Z → W → Bool) (f : W → List W → Z → Res W) (mo : ME) (mr : MA) : ME := fun r z => (mo r z).bind fun x z => if ok z x then (mr r z).bind fun ws z => f x ws z else .bad
section
variable {X : Cx} {w0 : WX} {o e a b : Expr} {es : List Expr} {ma mb mo mi mv : ME} {mr : MA} {pos p cpos apos : Pos} {name : Str} {T id : String} {ok : Z → W → Bool} {r : V → List V → Hp → VK → Prop} {f : W → List W → Z → Res W} {st : Stmt}
theorem mt_t (ht : TyOk X.K T ok) (hf : MeV X.K r f) (σ : L2.St) (H : Hp) (Q : VK) (q : tE X.K w0 (mMt ok f mo mr) σ H Q) : tBM X.K T r (tE X.K w0 mo) (tA X.K w0 mr) σ H Q := by
  obtain ⟨mu, ex, rs, z, s, sl, o⟩ := q
  refine (tOf.go (R := RW) s sl o).imp fun v H1 ⟨mu1, z1, x, g1, s1, r1, o1⟩ => ?_
  dsimp only at o1
  by_cases h : ok z1 x = true
  · rw [if_pos h] at o1
    refine ⟨ht _ x v rfl s1 r1 h, (tOf.go (R := RWs) s1 (sl.mono g1) o1).imp fun v2 H2 ⟨mu2, z2, x2, g2, s2, r2, o2⟩ => ?_⟩
    exact hf _ w0 σ x x2 v v2 Q rfl s2 (r1.mono g2) r2 o2
  · rw [if_neg h] at o1; exact o1.elim
theorem mt_tO (ht : TyOk X.K T ok) (hf : MeVO X.K r f) (σ : L2.St) (H : Hp) (Q : VK) (q : tO X.K w0 (mMt ok f mo mr) σ H Q) : tBM X.K T r (tE X.K w0 mo) (tA X.K w0 mr) σ H Q := by
  obtain ⟨mu, ex, rs, z, s, sl, o⟩ := q
  refine (tOf.goO (R := RW) s sl o).imp fun v H1 ⟨mu1, z1, x, g1, s1, r1, o1⟩ => ?_
  dsimp only at o1
  by_cases h : ok z1 x = true
  · rw [if_pos h] at o1
    refine ⟨ht _ x v rfl s1 r1 h, (tOf.goO (R := RWs) s1 (sl.mono g1) o1).imp fun v2 H2 ⟨mu2, z2, x2, g2, s2, r2, o2⟩ => ?_⟩
    exact hf _ w0 σ x x2 v v2 Q rfl s2 (r1.mono g2) r2 o2
  · rw [if_neg h] at o1; exact o1.elim
theorem mt_t0 (ht : TyOk X.K T ok) (hf : MeV X.K r f) (σ : L2.St) (H : Hp) (Q : VK) (q : tE X.K w0 (mMt ok f mo aNil) σ H Q) : tBM0 X.K T r (tE X.K w0 mo) σ H Q := by
  obtain ⟨mu, ex, rs, z, s, sl, o⟩ := q
  refine (tOf.go (R := RW) s sl o).imp fun v H1 ⟨mu1, z1, x, g1, s1, r1, o1⟩ => ?_
  dsimp only at o1
  by_cases h : ok z1 x = true
  · rw [if_pos h] at o1
    exact ⟨ht _ x v rfl s1 r1 h, hf _ w0 σ x [] v [] Q rfl s1 r1 .nil o1⟩
  · rw [if_neg h] at o1; exact o1.elim
theorem je_mt (h : PE X e (tBM X.K T r (tE X.K w0 mo) (tA X.K w0 mr))) (ht : TyOk X.K T ok) (hf : MeV X.K r f) : JE X w0 e (mMt ok f mo mr) := ⟨PE.of h (mt_t ht hf)⟩
theorem je_mt0 (h : PE X e (tBM0 X.K T r (tE X.K w0 mo))) (ht : TyOk X.K T ok) (hf : MeV X.K r f) : JE X w0 e (mMt ok f mo aNil) := ⟨PE.of h (mt_t0 ht hf)⟩
theorem jo_mt (h : PE X e (tBM X.K T r (tE X.K w0 mo) (tA X.K w0 mr))) (ht : TyOk X.K T ok) (hf : MeVO X.K r f) : JO X w0 e (mMt ok f mo mr) := ⟨PE.of h (mt_tO ht hf)⟩
/-- xs.append(y) -/
def appW (x : W) (xs : List W) (z : Z) : Res W := match x, xs with
  | .ob n, [y] => (match z[n]? with
    | some (some (.lst ys)) => if ys.length < sizeLine then .ok .non (z.set n (some (.lst (ys ++ [y])))) else .bad
    | _ => .bad)
  | _, _ => .bad
theorem mev_app {K : PySem.W.Frag} : MeV K rAppend appW := by
  intro e w0 σ x xs v vs Q hk s rx rxs o
  unfold appW at o
  split at o
  · rename_i n y
    split at o
    · rename_i ys hz
      split at o
      · rename_i hl
        obtain ⟨a, rfl, hm, c⟩ := ob_cell s rx hz
        cases rxs with
        | cons r1 r2 =>
          cases r2
          cases c with
          | lst h rr =>
            obtain ⟨s2, g2⟩ := wr_lst s hz hm (rr.append (.cons r1 .nil))
            exact ⟨a, _, _, rfl, rfl, h, rr.length ▸ hl, o e.mu _ .non g2 s2 .non⟩
      · exact o.elim
    · exact o.elim
  · exact o.elim
theorem je_app (ho : JE X w0 o mo) (ha : JA X w0 [e] mr) (hbase : attributeBase o "append" X.env (eval o X.env) = eval o X.env := by rfl)
    (hfew : ((backTo cpos (starEach [e] X.env)).all (fun x => !x.1) && (backToKw cpos (keywordEach [] X.env)).all (fun x => x.1.isSome) && decide (([e] : List Expr).length + ([] : List Keyword).length + (if ([] : List Keyword).isEmpty then 0 else 1) < 30)) = true := by rfl)
    (hline : (apos.endLine == cpos.line) = true := by rfl) (hs : starEach [e] X.env = (false, eval e X.env) :: starEach [] X.env := by rfl) (hplain : (backTo cpos (starEach [] X.env)).any (·.1) = false := by rfl) :
    JE X w0 (.Call (.Attribute o "append" apos) [e] [] cpos) (mMt okL appW mo mr) :=
  je_mt (pe_bm PySem.F.plainAttrs_list PySem.F.slot_list_append PySem.F.type_list_append mt_append ho.pe ha.pa hbase hfew hline hs hplain) ty_list mev_app
/-- xs.pop(i) -/
def popW (x : W) (xs : List W) (z : Z) : Res W := match x, xs with
  | .ob n, [.int i] => (match z[n]? with
    | some (some (.lst ys)) => if -(2 ^ 63) ≤ i ∧ i < 2 ^ 63 then (match seqIndex? i ys.length with
      | some k => (match ys[k]? with
        | some y => .ok y (z.set n (some (.lst (ys.eraseIdx k))))
        | none => .bad)
      | none => .bad) else .bad
    | _ => .bad)
  | _, _ => .bad
theorem mev_pop {K : PySem.W.Frag} : MeV K rPopAt popW := by
  intro e w0 σ x xs v vs Q hk s rx rxs o
  unfold popW at o
  split at o
  · rename_i n i
    split at o
    · rename_i ys hz
      split at o
      · rename_i hl
        split at o
        · rename_i k hk
          split at o
          · rename_i y hy
            obtain ⟨a, rfl, hm, c⟩ := ob_cell s rx hz
            cases rxs with
            | cons r1 r2 =>
              cases r2; cases r1
              cases c with
              | lst h rr =>
                obtain ⟨v, hv, rv⟩ := rr.get hy
                obtain ⟨s2, g2⟩ := wr_lst s hz hm (rr.erase k)
                exact ⟨a, _, i, k, v, rfl, rfl, h, hl.1, hl.2, rr.length ▸ hk, hv, o e.mu _ v g2 s2 (rv.mono g2)⟩
          · exact o.elim
        · exact o.elim
      · exact o.elim
    · exact o.elim
  · exact o.elim
theorem je_pop (ho : JE X w0 o mo) (ha : JA X w0 [e] mr) (hbase : attributeBase o "pop" X.env (eval o X.env) = eval o X.env := by rfl)
    (hfew : ((backTo cpos (starEach [e] X.env)).all (fun x => !x.1) && (backToKw cpos (keywordEach [] X.env)).all (fun x => x.1.isSome) && decide (([e] : List Expr).length + ([] : List Keyword).length + (if ([] : List Keyword).isEmpty then 0 else 1) < 30)) = true := by rfl)
    (hline : (apos.endLine == cpos.line) = true := by rfl) (hs : starEach [e] X.env = (false, eval e X.env) :: starEach [] X.env := by rfl) (hplain : (backTo cpos (starEach [] X.env)).any (·.1) = false := by rfl) :
    JE X w0 (.Call (.Attribute o "pop" apos) [e] [] cpos) (mMt okL popW mo mr) :=
  je_mt (pe_bm PySem.F.plainAttrs_list PySem.F.slot_list_pop PySem.F.type_list_pop mt_popAt ho.pe ha.pa hbase hfew hline hs hplain) ty_list mev_pop
/-- xs.index(y), flat items -/
def idxF (y : W) : List W → Nat → Option Nat
  | [], _ => none
  | x :: r, n => if eqF x y then some n else idxF y r (n + 1)
def indexW (x : W) (xs : List W) (z : Z) : Res W := match rlOf z x, xs with
  | some ys, [y] => if flW y && ys.all flW then ofO ((idxF y ys 0).map fun n => .int (n : Nat)) z else .bad
  | _, _ => .bad
theorem idxF_spec {y : W} : ∀ {ys : List W} {n j : Nat}, idxF y ys n = some j → ∃ i, j = n + i ∧ (∃ z, ys[i]? = some z ∧ eqF z y = true) ∧ ∀ m z', m < i → ys[m]? = some z' → eqF z' y = false
  | x :: r, n, j, h => by
    unfold idxF at h
    by_cases c : eqF x y = true
    · rw [if_pos c] at h
      cases h
      exact ⟨0, rfl, ⟨x, rfl, c⟩, fun m z' hm => absurd hm (Nat.not_lt_zero m)⟩
    · rw [if_neg c] at h
      obtain ⟨i, e1, ⟨z, hz, ez⟩, h3⟩ := idxF_spec h
      refine ⟨i + 1, by omega, ⟨z, hz, ez⟩, fun m z' hm hz' => ?_⟩
      cases m with
      | zero => cases hz'; simpa using c
      | succ m => exact h3 m z' (by omega) hz'
theorem mev_index {K : PySem.W.Frag} : MeV K (rIndex K) indexW := by
  intro e w0 σ x xs v vs Q hk s rx rxs o
  unfold indexW at o
  split at o
  · rename_i ys y h1
    split at o
    · rename_i h2
      cases rxs with
      | cons r1 r2 =>
        cases r2
        cases hi : idxF y ys 0 with
        | none => rw [hi] at o; exact o.elim
        | some j =>
          rw [hi] at o
          obtain ⟨i, e1, ⟨z, hz, ez⟩, h3⟩ := idxF_spec hi
          obtain ⟨a, us, rfl, sq, rr⟩ := rl_of s rx h1
          obtain ⟨h4, h5⟩ := Bool.and_eq_true_iff.mp h2
          obtain ⟨v', hv', rv'⟩ := rr.get hz
          rw [hk] at sq
          have e1' : j = i := by omega
          subst e1'
          refine ⟨a, us, _, j, v', rfl, rfl, sq, flW_v r1 ▸ h4, flWs_v rr ▸ h5, hv', by rw [← eqF_v rv' r1]; exact ez, fun m z' hm hz' => ?_, out_val s (.int _) o⟩
          have hml : m < ys.length := by
            rw [rr.length]
            rcases Nat.lt_or_ge m us.length with q | q
            · exact q
            · rw [List.getElem?_eq_none q] at hz'; cases hz'
          have hy := List.getElem?_eq_getElem hml
          obtain ⟨v2, hv2, rv2⟩ := rr.get hy
          rw [hz'] at hv2
          cases hv2
          rw [← eqF_v rv2 r1]
          exact h3 m _ hm hy
    · exact o.elim
  · exact o.elim
theorem je_index (ho : JE X w0 o mo) (ha : JA X w0 [e] mr) (hbase : attributeBase o "index" X.env (eval o X.env) = eval o X.env := by rfl)
    (hfew : ((backTo cpos (starEach [e] X.env)).all (fun x => !x.1) && (backToKw cpos (keywordEach [] X.env)).all (fun x => x.1.isSome) && decide (([e] : List Expr).length + ([] : List Keyword).length + (if ([] : List Keyword).isEmpty then 0 else 1) < 30)) = true := by rfl)
    (hline : (apos.endLine == cpos.line) = true := by rfl) (hs : starEach [e] X.env = (false, eval e X.env) :: starEach [] X.env := by rfl) (hplain : (backTo cpos (starEach [] X.env)).any (·.1) = false := by rfl) :
    JE X w0 (.Call (.Attribute o "index" apos) [e] [] cpos) (mMt okL indexW mo mr) :=
  je_mt (pe_bm PySem.F.plainAttrs_list PySem.F.slot_list_index PySem.F.type_list_index mt_index ho.pe ha.pa hbase hfew hline hs hplain) ty_list mev_index
/-! ### o[i] = v -/
def setW (o i x : W) (z : Z) : Option Z := match o with
  | .ob n => (match z[n]? with
    | some (some (.lst xs)) => (match i with
      | .int k => (ixN xs.length k).map fun j => z.set n (some (.lst (xs.set j x)))
      | _ => none)
    | some (some (.dic kvs)) => (match keyW i with
      | some k => if kvs.length < sizeLine then some (z.set n (some (.dic (putKW kvs k x)))) else none
      | none => none)
    | _ => none)
  | _ => none
def rSetD : TSet := fun o i v H Q => ∃ a H4, o = .ref a ∧ DPut H a i v H4 ∧ Q H4
theorem set_dict (hu : X.A.units + 1 < cLine) : PSet X rSetD := by
  intro pins s σ H o i v ov iv u Q I ro ri rv h
  obtain ⟨a, H4, rfl, hp, q⟩ := h
  obtain rfl : ov = Value.ref a := ro
  exact d_setItem hu I hp ri rv fun s' I' => ⟨H4, I', q⟩
theorem PSet.or {t t' : TSet} (h : PSet X t) (h' : PSet X t') : PSet X (fun o i v H Q => t o i v H Q ∨ t' o i v H Q) := fun pins s σ H o i v ov iv u Q I a b c q => q.elim (h pins s σ H o i v ov iv u Q I a b c) (h' pins s σ H o i v ov iv u Q I a b c)
theorem setv_set {K : PySem.W.Frag} : SetV K (fun o i v H Q => rSetL o i v H Q ∨ rSetD o i v H Q) setW := by
  intro e o i x vo vi vx z' Q hk s ro ri rx h hq
  unfold setW at h
  split at h
  · rename_i n
    split at h
    · rename_i xs hz
      split at h
      · rename_i k
        obtain ⟨j, hj, rfl⟩ := Option.map_eq_some_iff.mp h
        obtain ⟨a, rfl, hm, c⟩ := ob_cell s ro hz
        cases ri
        cases c with
        | lst hh rr =>
          obtain ⟨s2, g2⟩ := wr_lst s hz hm (RWs.set rx j rr)
          exact .inl ⟨a, _, k, j, rfl, rfl, hh, rr.length ▸ hj, hq _ g2 s2⟩
      · cases h
    · rename_i kvs hz
      split at h
      · rename_i k hk'
        split at h
        · rename_i hl
          cases h
          obtain ⟨a, rfl, hm, c⟩ := ob_cell s ro hz
          cases c with
          | dic hh rr =>
            obtain ⟨s2, g2⟩ := wr_dic s hz hm (rr.put (k := k) rx)
            refine .inr ⟨a, _, rfl, ?_, hq _ g2 s2⟩
            rw [keyW_v ri hk']
            exact DPut.k hh (rr.length ▸ hl)
        · cases h
      · cases h
    · cases h
  · cases h
theorem js_setI {pos' : Pos} (hu : X.A.units + 1 < cLine) (hv : JE X w0 e mv) (ho : JE X w0 o mo) (hi : JE X w0 a mi) (ha : ∀ v, assign (.Subscript o a pos') X.env v = (do
      let ov ← holding [v] (eval o X.env)
      let iv ← holding [v, ov] (eval a X.env)
      standAt pos'
      holding [v, ov, iv] (setItem ov iv v)
      release [v, ov, iv] []) := by intro _; rfl) (hs : swapsWithSole [.Subscript o a pos'] e pos.line X.env = pure false := by rfl) (hw : swappedStores [.Subscript o a pos'] e X.env = pure none := by rfl)
    (h1 : (assignEach [.Subscript o a pos'] X.env).map (·.2) = [assign (.Subscript o a pos') X.env] := by rfl) : JS X w0 (.Assign [.Subscript o a pos'] e pos) (sSub setW mv mo mi) :=
  js_sub (ps_asg hv.pe (pg_sub ho.pe hi.pe (PSet.or set_list (set_dict hu)) ha) hs hw h1) setv_set
/-! ### {k: v, ..} -/
def mPairs : List (ME × ME) → Sl → Z → Res (List (Key × W))
  | [], _, z => .ok [] z
  | (mk, mv) :: r, rs, z => (mk rs z).bind fun k z => (mv rs z).bind fun v z => (mPairs r rs z).bind fun ps z => match keyW k with
    | some k => .ok ((k, v) :: ps) z
    | none => .bad
def mergeW (kvs : List (Key × W)) : List (Key × W) → List (Key × W)
  | [] => kvs
  | (k, v) :: r => mergeW (putKW kvs k v) r
def mDisp (ps : List (ME × ME)) : ME := fun r z => (mPairs ps r z).calm.bind fun kvs z => if kvs.length ≤ 15 then .ok (.dic (mergeW [] kvs)) z else .bad
structure JD (X : Cx) (w0 : WX) (pos : Pos) (keys : List (Option Expr)) (values : List Expr) (ps : List (ME × ME)) : Prop where
  pps : PPs X pos keys values (ps.map fun p => (tE X.K w0 p.1, tE X.K w0 p.2))
theorem jd_nil : JD X w0 pos [] [] [] := ⟨pps_nil⟩
theorem jd_cons {k v : Expr} {mk mv : ME} {ks : List (Option Expr)} {vs : List Expr} {ps : List (ME × ME)} (hk : JE X w0 k mk) (hv : JE X w0 v mv) (hr : JD X w0 pos ks vs ps) : JD X w0 pos (some k :: ks) (v :: vs) ((mk, mv) :: ps) := ⟨pps_cons hk.pe hv.pe hr.pps⟩
theorem RKs.merge {e : En} : ∀ {more : List (Key × W)} {us : List (Key × V)} {kvs : List (Key × W)} {vs : List (Key × V)}, RKs e more us → RKs e kvs vs → RKs e (mergeW kvs more) (mergeK vs us)
  | _, _, _, _, .nil, h => h
  | _, _, kvs, vs, .cons (k := k) (x := x) (v := v) (xs := xs) (vs := us) a b, h => show RKs e (mergeW (putKW kvs k x) xs) (mergeK (putK vs k v) us) from RKs.merge b (h.put a)
theorem pairs_t {K : PySem.W.Frag} {e0 : En} {D : Addr} : ∀ {ps : List (ME × ME)} {r : Sl} {σ : L2.St} {kvs0 : List (Key × W)} {z z' : Z} {H : Hp} {mu : List Addr} {N : List (V × V) → Hp → Prop}, e0.K = K → SR ⟨K, H, mu, z, D :: e0.ex⟩ → SlO ⟨K, H, mu, z, D :: e0.ex⟩ r σ →
    mPairs ps r z = .ok kvs0 z' → (∀ mu' H' us, Gr ⟨K, H, mu, z, D :: e0.ex⟩ ⟨K, H', mu', z', D :: e0.ex⟩ → SR ⟨K, H', mu', z', D :: e0.ex⟩ → RKs ⟨K, H', mu', z', D :: e0.ex⟩ kvs0 us → N (us.map fun kv => (kV kv.1, kv.2)) H') →
    tPairs (ps.map fun p => (tE K w0 p.1, tE K w0 p.2)) σ H N
  | [], r, σ, kvs0, z, z', H, mu, N, hk, s, l, h, hN => by
    cases h
    exact hN mu H [] (Gr.refl _) s .nil
  | (mk, mv) :: ps, r, σ, kvs0, z, z', H, mu, N, hk, s, l, h, hN => by
    obtain ⟨k, z1, h1, h⟩ := bind_ok h
    obtain ⟨v, z2, h2, h⟩ := bind_ok h
    obtain ⟨kvs, z3, h3, h⟩ := bind_ok h
    cases hk' : keyW k with
    | none => rw [hk'] at h; cases h
    | some kk =>
      rw [hk'] at h
      cases h
      refine ⟨mu, D :: e0.ex, r, z, s, l, ?_⟩
      show Out RW w0 ⟨K, H, mu, z, D :: e0.ex⟩ σ _ (mk r z)
      rw [h1]
      intro mu1 H1 v1 g1 s1 r1
      refine ⟨mu1, D :: e0.ex, r, z1, s1, l.mono g1, ?_⟩
      show Out RW w0 ⟨K, H1, mu1, z1, D :: e0.ex⟩ σ _ (mv r z1)
      rw [h2]
      intro mu2 H2 v2 g2 s2 r2
      refine pairs_t hk s2 ((l.mono g1).mono g2) h3 fun mu3 H3 us g3 s3 r3 => ?_
      rw [keyW_v r1 hk']
      exact hN mu3 H3 ((kk, v2) :: us) ((g1.trans g2).trans g3) s3 (.cons (r2.mono g3) r3)
theorem jo_disp {keys : List (Option Expr)} {values : List Expr} {ps : List (ME × ME)} (h : JD X w0 pos keys values ps) (hall : keys.all (·.isSome) = true := by rfl) (hl : keys.length = values.length := by rfl) (h0 : keys ≠ [] := by intro z; cases z) (h15 : keys.length ≤ 15 := by decide) : JO X w0 (.Dict keys values pos) (mDisp ps) := by
  refine ⟨PE.of (pe_disp h.pps hall hl h0 h15) fun σ H Q q p hp => ?_⟩
  obtain ⟨mu, ex, rs, z, s, sl, o⟩ := q
  unfold mDisp at o
  have g0 : Gr ⟨X.K, H, mu, z, ex⟩ (En.own ⟨X.K, H, mu, z, ex⟩ p (.dK [])) := s.gown hp
  have s0 : SR (En.own ⟨X.K, H, mu, z, ex⟩ p (.dK [])) := s.own hp
  cases hm : mPairs ps rs z with
  | bad => rw [hm] at o; exact o.elim
  | ex x z1 => rw [hm] at o; exact o.elim
  | ok kvs z1 =>
    rw [hm] at o
    refine pairs_t (e0 := ⟨X.K, H, mu, z, ex⟩) (D := p) rfl s0 (sl.mono g0) hm fun mu' H' us g1 s1 r1 => ?_
    dsimp only [Res.bind, Res.calm] at o
    split at o
    · rename_i hl15
      have hpm : p ∈ (⟨X.K, H', mu', z1, p :: ex⟩ : En).ex := List.mem_cons_self ..
      have e1 : H' p = some (.dK []) := (g1.keepx p (List.mem_cons_self ..)).trans upd_same
      refine ⟨e1, us, rfl, r1.length ▸ hl15, ?_⟩
      obtain ⟨s2, two⟩ := s1.wrx (o := .dK (mergeK [] us)) hpm
      have gg := g0.toGq.trans g1.toGq
      refine o mu' (upd H' p (.dK (mergeK [] us))) p hp ⟨⟨rfl, ⟨[], rfl⟩, gg.pre, fun b l => gg.live b (by
        rcases l with l | l
        · exact .inl l
        · exact .inr (List.mem_cons_of_mem _ l)), fun b u q n => ?_⟩, fun b m => ?_⟩ s2 (.dic upd_same (RKs.to (e := ⟨X.K, H', mu', z1, p :: ex⟩) (e' := En.put ⟨X.K, H', mu', z1, p :: ex⟩ p (.dK (mergeK [] us))) rfl (fun _ _ h => h) two (r1.merge .nil)))
      · show upd H' p _ b = some u
        rw [upd_ne (ne_new q hp)]
        exact gg.keep b u q n
      · have ne : b ≠ p := fun z => s.offx hp (z ▸ m)
        show upd H' p _ b = H b
        rw [upd_ne ne]
        exact (g1.keepx b (List.mem_cons_of_mem _ m)).trans (g0.keepx b m)
    · exact o.elim
end
end J
namespace J
open PySem PySem.Spec L2
/-! ### defs by their names -/
structure Df (P : Program) (w : World) (K : PySem.W.Frag) (mg : Str → Option Value) (base : Heap) (k : Nat) (x : Str) (dws : List W) (F : Fn) : Prop where
  ex : ∃ (fd : FuncData) (ps : List Str) (ds : List Value) (dvs : List V), GOk P w K mg base (L2.CX P w) k (cA K x) fd ps (spOf K F) ∧ mg x = some (.ref (cA K x)) ∧ PySem.W.keepIn K (.ref (cA K x)) = true ∧ Binds K fd ps ds ∧ Vals dvs ds ∧ ∀ e, RWs e dws dvs
abbrev Dfx (X : Cx) : Nat → Str → List W → Fn → Prop := Df X.prog X.w X.K X.mg X.base
section
variable {X : Cx} {w0 : WX} {k : Nat} {F : Fn} {dws : List W} {x : Str} {p pos apos : Pos} {e o : Expr} {es : List Expr} {ma : MA} {mo mv : ME} {st : Stmt}
theorem je_def (D : Dfx X k x dws F) (hG : X.A.guards = some []) (hr : Room k X.A) (hg : Gl X x) (tk : Takes X w0)
    (ha : JA X w0 (e :: es) ma) (hdb : (x == ("__debug__" : Str)) = false := by decide) (he : starEach (e :: es) X.env = (false, eval e X.env) :: starEach es X.env := by rfl) (hpl : (backTo pos (starEach es X.env)).any (·.1) = false := by rfl) :
    JE X w0 (.Call (.Name x p) (e :: es) [] pos) (mCall F dws ma) := by
  obtain ⟨fd, ps, ds, dvs, G, m, kp, b, v, r⟩ := D.ex
  exact je_call G hG hr hg m kp b v r tk ha hdb he hpl
/-- a slot that holds one of several defs -/
def mCallV (S : Str → Option Fn) (i : Nat) (ma : MA) : ME := fun r z => match r[i]? with
  | some (some (.gl x)) => (match S x with
    | some F => (ma r z).bind fun ws z => F ws z
    | none => .bad)
  | _ => .bad
theorem je_callV {S : Str → Option Fn} {i : Nat} (hS : ∀ y F, S y = some F → Dfx X k y [] F) (hG : X.A.guards = some []) (hr : Room k X.A) (hN : X.N[i]? = some x) (hv : Vis X.env.scope x) (tk : Takes X w0) (ha : JA X w0 (e :: es) ma)
    (hdb : (x == ("__debug__" : Str)) = false := by decide) (hcd : (x == ("__classdict__" : Str)) = false := by decide)
    (he : starEach (e :: es) X.env = (false, eval e X.env) :: starEach es X.env := by rfl) (hpl : (backTo pos (starEach es X.env)).any (·.1) = false := by rfl) : JE X w0 (.Call (.Name x p) (e :: es) [] pos) (mCallV S i ma) := by
  refine ⟨⟨fun pins s σ H Q I h => ?_⟩⟩
  obtain ⟨mu, ex, rs, z, sr, sl, o'⟩ := h
  unfold mCallV at o'
  split at o'
  · rename_i y hy
    split at o'
    · rename_i F hF
      obtain ⟨fd, ps, ds, dvs, G, m, kp, b, vd, rd⟩ := (hS y F hF).ex
      obtain ⟨v, hv', rv⟩ := sl.at_ i _ hy
      cases rv
      refine wpAny_Call_Name_kw (thn ((pe_var (pos := p) hN hv hdb hcd).run pins s σ H (fun v H1 => v = .ref (cA X.K y) ∧ H1 = H) I ⟨_, hv', rfl, rfl⟩) fun u s1 ⟨v, H1, I1, r1, q1⟩ => ?_)
      obtain ⟨rfl, rfl⟩ := q1
      cases r1
      refine PySem.W.callWith_K (h₀ := X.base) I.ok.mod.kin kp (thn (ha.pa.run pos pins s1 σ _ _ I1 (tOf.go (R := RWs) sr sl o')) fun us s2 ⟨vs, H2, I2, r, q⟩ => ⟨I2.kIn, ?_⟩) he hpl
      obtain ⟨mu1, z1, ws, g1, s3, r3, o3⟩ := q
      have r2 : Vals (vs ++ dvs) (us ++ ds) := r.append vd
      have dn : dvs = [] := by
        have := rd ⟨X.K, H2, mu1, z1, ex⟩
        cases this; rfl
      subst dn
      rw [List.append_nil] at r2
      have q2 : spOf X.K F vs H2 Q (WE w0 σ) := ⟨mu1, ex, ws, z1, s3, r3, o3⟩
      have hl : (us ++ ds).length = ps.length := by rw [← r2.length]; exact G.len _ _ _ _ q2
      exact run_G G hG hr (b s2 us I2.kIn hl) (passAt tk σ) I2 r2 q2
    · exact o'.elim
  · exact o'.elim
/-! ### instances -/
theorem RFs.lookup {e : En} {f : Str} : ∀ {xs : List (Str × W)} {vs : List (Str × V)}, RFs e xs vs → (∀ w, xs.lookup f = some w → ∃ v, vs.lookup f = some v ∧ RW e w v) ∧ (xs.lookup f = none → vs.lookup f = none)
  | _, _, .nil => ⟨fun w h => (by cases h), fun _ => rfl⟩
  | _, _, .cons (k := k') (x := x) (v := v) (xs := xs) (vs := vs) a b => by
    have ih := RFs.lookup (f := f) b
    by_cases c : f = k'
    · have e1 : ((k', x) :: xs).lookup f = some x := by subst c; simp [List.lookup]
      have e2 : ((k', v) :: vs).lookup f = some v := by subst c; simp [List.lookup]
      exact ⟨fun w h => ⟨v, e2, by rw [e1] at h; cases h; exact a⟩, fun h => by rw [e1] at h; cases h⟩
    · have c' : (f == k') = false := by simpa using c
      have e1 : ((k', x) :: xs).lookup f = xs.lookup f := by simp [List.lookup, c']
      have e2 : ((k', v) :: vs).lookup f = vs.lookup f := by simp [List.lookup, c']
      rw [e1, e2]; exact ih
/-- an instance: its class, its attributes -/
def inOf (z : Z) : W → Option (Str × List (Str × W))
  | .ins C fs => some (C, fs)
  | .ob n => (match z[n]? with
    | some (some (.ins C fs)) => some (C, fs)
    | _ => none)
  | _ => none
theorem in_of {e : En} {w : W} {v : V} {C : Str} {fs : List (Str × W)} (s : SR e) (h : RW e w v) (hl : inOf e.z w = some (C, fs)) : ∃ a dx us, v = .ref a ∧ e.H a = some (.ins (cA e.K C) dx us) ∧ RFs e fs us := by
  cases w with
  | ins C' fs' =>
    cases hl
    cases h with
    | ins h n r => exact ⟨_, _, _, rfl, h, r⟩
  | ob n =>
    simp only [inOf] at hl
    split at hl
    · rename_i hz
      cases hl
      obtain ⟨a, ea, _, c⟩ := ob_cell s h hz
      cases c with
      | ins h r => exact ⟨a, _, _, ea, h, r⟩
    · cases hl
  | _ => cases hl
/-- an exception that is held -/
def exOf : W → Option (Str × List (Str × W))
  | .exc C fs => some (C, fs)
  | _ => none
theorem ex_of {e : En} {w : W} {v : V} {C : Str} {fs : List (Str × W)} (h : RW e w v) (hl : exOf w = some (C, fs)) : ∃ a us, v = .ref a ∧ ExAt e.H a (cA e.K C) us ∧ RFs e fs us := by
  cases w with
  | exc C' fs' =>
    cases hl
    cases h with
    | exc h h2 n n2 r => exact ⟨_, _, rfl, ⟨_, h, h2⟩, r⟩
  | _ => cases hl
/-- o.f: instances of classes of ia, exceptions of xa -/
def mFld (ia xa : Str → Bool) (f : Str) (mo : ME) : ME := fun r z => (mo r z).bind fun x z => match inOf z x with
  | some (C, fs) => if ia C then ofO (fs.lookup f) z else .bad
  | none => (match exOf x with
    | some (C, fs) => if xa C then ofO (fs.lookup f) z else .bad
    | none => .bad)
theorem PE.or {t t' : TE} (h : PE X e t) (h' : PE X e t') : PE X e (fun σ H Q => t σ H Q ∨ t' σ H Q) := ⟨fun pins s σ H Q I q => q.elim (h.run pins s σ H Q I) (h'.run pins s σ H Q I)⟩
theorem je_fld {ia xa : Str → Bool} {f : Str} (hi : ∀ C, ia C = true → Cls X.K (cA X.K C) ∧ NoAttr X.K (cA X.K C) f) (hx : ∀ C, xa C = true → ExT X.K (cA X.K C) ∧ PySem.W.findIn X.K (.ref (cA X.K C)) f = some none) (ho : JE X w0 o mo)
    (hb : attributeBase o f X.env (eval o X.env) = eval o X.env := by rfl) : JE X w0 (.Attribute o f pos) (mFld ia xa f mo) := by
  refine ⟨PE.of (J.PE.or (pe_fld ho.pe hb) (pe_xg ho.pe hb)) fun σ H Q q => ?_⟩
  obtain ⟨mu, ex, rs, z, s, sl, o⟩ := q
  unfold mFld at o
  cases hm : mo rs z with
  | bad => rw [hm] at o; exact o.elim
  | ex x z1 => rw [hm] at o; exact .inl ⟨mu, ex, rs, z, s, sl, by rw [hm]; exact o⟩
  | ok x z1 =>
    rw [hm] at o
    dsimp only [Res.bind] at o
    split at o
    · rename_i C fs hin
      split at o
      · rename_i hC
        refine .inl ⟨mu, ex, rs, z, s, sl, ?_⟩
        rw [hm]
        intro mu1 H1 v g1 s1 r1
        cases hl : fs.lookup f with
        | none => rw [hl] at o; exact o.elim
        | some w =>
          rw [hl] at o
          obtain ⟨a, dx, us, rfl, ha, rf⟩ := in_of s1 r1 hin
          obtain ⟨v, hv, rv⟩ := (rf.lookup (f := f)).1 w hl
          exact ⟨a, _, dx, us, v, rfl, ha, (hi C hC).1, (hi C hC).2, hv, o mu1 H1 v g1 s1 rv⟩
      · exact o.elim
    · split at o
      · rename_i C fs hin
        split at o
        · rename_i hC
          refine .inr ⟨mu, ex, rs, z, s, sl, ?_⟩
          rw [hm]
          intro mu1 H1 v g1 s1 r1
          cases hl : fs.lookup f with
          | none => rw [hl] at o; exact o.elim
          | some w =>
            rw [hl] at o
            obtain ⟨a, us, rfl, ha, rf⟩ := ex_of r1 hin
            obtain ⟨v, hv, rv⟩ := (rf.lookup (f := f)).1 w hl
            exact ⟨a, _, us, v, rfl, ha, (hx C hC).1, (hx C hC).2, hv, o mu1 H1 v g1 s1 rv⟩
        · exact o.elim
      · exact o.elim
/-- o.f = e -/
def putFW (f : Str) (v : W) : List (Str × W) → List (Str × W)
  | [] => [(f, v)]
  | (g, x) :: r => if g = f then (g, v) :: r else (g, x) :: putFW f v r
theorem RFs.put {e : En} {f : Str} {y : W} {u : V} (r : RW e y u) : ∀ {xs : List (Str × W)} {vs : List (Str × V)}, RFs e xs vs → RFs e (putFW f y xs) (putF f u vs)
  | _, _, .nil => .cons r .nil
  | _, _, .cons (k := k) a b => by
    unfold putFW putF
    split
    · exact .cons r b
    · exact .cons a (RFs.put r b)
theorem RFs.length {e : En} : ∀ {w : List (Str × W)} {v : List (Str × V)}, RFs e w v → w.length = v.length
  | _, _, .nil => rfl
  | _, _, .cons _ b => by rw [List.length_cons, List.length_cons, RFs.length b]
def sFldW (ia : Str → Bool) (f : Str) (mv mo : ME) : MS := fun r z => (mv r z).st r fun v z => (mo r z).st r fun o z => match o with
  | .ob n => (match z[n]? with
    | some (some (.ins C fs)) => if ia C && decide (fs.length < 1000) then .ok (.nx r) (z.set n (some (.ins C (putFW f v fs)))) else .bad
    | _ => .bad)
  | _ => .bad
theorem js_fld {ia : Str → Bool} {f : Str} {value : Expr} {pos' : Pos} (hi : ∀ C, ia C = true → Cls X.K (cA X.K C) ∧ NoAttr X.K (cA X.K C) f) (ho : JE X w0 o mo) (hv : JE X w0 value mv)
    (hs : swapsWith value (some (.Attribute o f pos')) pos.line X.env = pure false := by rfl) : JS X w0 (.Assign [.Attribute o f pos'] value pos) (sFldW ia f mv mo) := by
  refine ⟨PS.of (ps_fld ho.pe hv.pe hs) fun D σ H q => ?_⟩
  obtain ⟨mu, ex, rs, z, s, sl, o⟩ := q
  refine (tOf.goS (R := RW) s sl o).imp fun v H1 ⟨mu1, z1, x, g1, s1, r1, o1⟩ => ?_
  refine (tOf.goS (R := RW) s1 (sl.mono g1) o1).imp fun v2 H2 ⟨mu2, z2, x2, g2, s2, r2, o2⟩ => ?_
  dsimp only at o2
  split at o2
  · rename_i n
    split at o2
    · rename_i C fs hz
      split at o2
      · rename_i hc
        obtain ⟨h1, h2⟩ := Bool.and_eq_true_iff.mp hc
        obtain ⟨a, rfl, hm, c⟩ := ob_cell s2 r2 hz
        cases c with
        | @ins _ dx _ us h rf =>
          refine ⟨a, _, _, _, rfl, h, (hi C h1).1, (hi C h1).2, rf.length ▸ of_decide_eq_true h2, ?_⟩
          have g3 := s2.gwr (o := .ins (cA X.K C) dx (putF f v us)) (w := .ins C (putFW f x fs)) hz hm
          have s3 := s2.wr hz hm (.ins upd_same ((rf.put (f := f) (r1.mono g2)).mono g3))
          exact o2 mu2 _ σ g3 s3 (((sl.mono g1).mono g2).mono g3)
      · exact o2.elim
    · exact o2.elim
  · exact o2.elim
/-! ### own methods -/
structure Mf (P : Program) (w : World) (K : PySem.W.Frag) (mg : Str → Option Value) (base : Heap) (k : Nat) (C m : Str) (dws : List W) (F : Fn) : Prop where
  ex : ∃ (f : Addr) (fd : FuncData) (ps : List Str) (ds : List Value) (dvs : List V), GOk P w K mg base (L2.CX P w) k f fd ps (spOf K F) ∧ Cls K (cA K C) ∧ Meth K (cA K C) m f ∧ Binds K fd ps ds ∧ Vals dvs ds ∧ ∀ e, RWs e dws dvs
abbrev Mfx (X : Cx) : Nat → Str → Str → List W → Fn → Prop := Mf X.prog X.w X.K X.mg X.base
def mMeth (T : Str → Option (List W × Fn)) (m : Str) (mo : ME) (ma : MA) : ME := fun r z => (mo r z).bind fun x z => match inOf z x with
  | some (C, fs) => (match T C with
    | some (dws, F) => if (fs.lookup m).isNone then (ma r z).bind fun ws z => F (x :: (ws ++ dws)) z else .bad
    | none => .bad)
  | none => .bad
theorem je_meth {T : Str → Option (List W × Fn)} {m : Str} {pl : Sem Bool} (hT : ∀ C dws F, T C = some (dws, F) → Mfx X k C m dws F) (hG : X.A.guards = some []) (hr : Room k X.A) (tk : Takes X w0) (ho : JE X w0 o mo) (ha : JA X w0 (e :: es) ma)
    (hst : starEach (e :: es) X.env = (false, eval e X.env) :: starEach es X.env := by rfl) (hpl : (backTo pos (starEach es X.env)).any (·.1) = false := by rfl)
    (ht : eval (.Call (.Attribute o m apos) (e :: es) [] pos) X.env = (do
      let ov ← eval o X.env
      standAt apos.atName
      let (f, first) ← holding [ov] (getMethod ov m pl)
      callWith pos f first (backTo pos (starEach (e :: es) X.env)) (backToKw pos (keywordEach [] X.env))) := by rfl) :
    JE X w0 (.Call (.Attribute o m apos) (e :: es) [] pos) (mMeth T m mo ma) := by
  refine ⟨⟨fun pins s σ H Q I h => ?_⟩⟩
  obtain ⟨mu, ex, rs, z, sr, sl, o'⟩ := h
  refine PySem.W.methodCall_KW (pl := pl) (thn (ho.pe.run pins s σ H _ I (tOf.go (R := RW) sr sl o')) fun u s1 ⟨xv, H1, I1, rx, q⟩ => ?_) ht
  obtain ⟨mu1, z1, x, g1, sr1, r1, o1⟩ := q
  dsimp only at o1
  split at o1
  · rename_i C fs hin
    split at o1
    · rename_i dws F hF
      split at o1
      · rename_i hn
        obtain ⟨f, fd, ps, ds, dvs, G, c, hm, b, vd, rd⟩ := (hT C dws F hF).ex
        obtain ⟨a, dx, us, rfl, ha', rf⟩ := in_of sr1 r1 hin
        obtain rfl : u = Value.ref a := rx
        have l : us.lookup m = none := (rf.lookup (f := m)).2 (by simpa using hn)
        refine getmeth_ok I1 ha' c hm l ?_
        refine PySem.W.callWith_K (first := [.ref a]) (h₀ := X.base) I.ok.mod.kin hm.kp (thn (ha.pa.run pos pins s1 σ H1 _ I1 (tOf.go (R := RWs) sr1 (sl.mono g1) o1)) fun us s2 ⟨vs, H2, I2, r, q⟩ => ⟨I2.kIn, ?_⟩) hst hpl
        obtain ⟨mu2, z2, ws, g2, sr2, r2, o2⟩ := q
        have r3 : Vals (V.ref a :: (vs ++ dvs)) (Value.ref a :: (us ++ ds)) := .cons rfl (r.append vd)
        have q2 : spOf X.K F (V.ref a :: (vs ++ dvs)) H2 Q (WE w0 σ) := ⟨mu2, ex, x :: (ws ++ dws), z2, sr2, .cons (r1.mono g2) (r2.append (rd _)), o2⟩
        have hl : (Value.ref a :: us ++ ds).length = ps.length := by
          have := r3.length
          rw [G.len _ _ _ _ q2] at this
          simpa using this.symm
        exact run_G G hG hr (b s2 (Value.ref a :: us) I2.kIn hl) (passAt tk σ) I2 r3 q2
      · exact o1.elim
    · exact o1.elim
  · exact o1.elim
theorem je_meth0 {T : Str → Option (List W × Fn)} {m : Str} {pl : Sem Bool} (hT : ∀ C dws F, T C = some (dws, F) → Mfx X k C m dws F) (hG : X.A.guards = some []) (hr : Room k X.A) (tk : Takes X w0) (ho : JE X w0 o mo)
    (ht : eval (.Call (.Attribute o m apos) [] [] pos) X.env = (do
      let ov ← eval o X.env
      standAt apos.atName
      let (f, first) ← holding [ov] (getMethod ov m pl)
      callWith pos f first (backTo pos (starEach [] X.env)) (backToKw pos (keywordEach [] X.env))) := by rfl) :
    JE X w0 (.Call (.Attribute o m apos) [] [] pos) (mMeth T m mo aNil) := by
  refine ⟨⟨fun pins s σ H Q I h => ?_⟩⟩
  obtain ⟨mu, ex, rs, z, sr, sl, o'⟩ := h
  refine PySem.W.methodCall_KW (pl := pl) (thn (ho.pe.run pins s σ H _ I (tOf.go (R := RW) sr sl o')) fun u s1 ⟨xv, H1, I1, rx, q⟩ => ?_) ht
  obtain ⟨mu1, z1, x, g1, sr1, r1, o1⟩ := q
  dsimp only at o1
  split at o1
  · rename_i C fs hin
    split at o1
    · rename_i dws F hF
      split at o1
      · rename_i hn
        obtain ⟨f, fd, ps, ds, dvs, G, c, hm, b, vd, rd⟩ := (hT C dws F hF).ex
        obtain ⟨a, dx, us, rfl, ha', rf⟩ := in_of sr1 r1 hin
        obtain rfl : u = Value.ref a := rx
        have l : us.lookup m = none := (rf.lookup (f := m)).2 (by simpa using hn)
        refine getmeth_ok I1 ha' c hm l ?_
        have r3 : Vals (V.ref a :: dvs) (Value.ref a :: ds) := .cons rfl vd
        have q2 : spOf X.K F (V.ref a :: dvs) H1 Q (WE w0 σ) := ⟨mu1, ex, x :: dws, z1, sr1, .cons r1 (rd _), o1⟩
        have hl : ([Value.ref a] ++ ds).length = ps.length := by
          have := r3.length
          rw [G.len _ _ _ _ q2] at this
          simpa using this.symm
        exact PySem.W.callWith_K0 (first := [.ref a]) I1.kIn hm.kp (run_G G hG hr (b s1 [Value.ref a] I1.kIn hl) (passAt tk σ) I1 r3 q2)
      · exact o1.elim
    · exact o1.elim
  · exact o1.elim
end
end J
namespace L2
open PySem PySem.Spec PyProof.Rows
section
variable {X : Cx} {pins : List (Addr × Obj)} {σ : St} {H : Hp} {s : Shared}
theorem Inv.suiteN (I : Inv X pins σ H s) (a : Addr) : Inv (X.suite a (X.pn ++ pins)) [] σ H s :=
  ⟨I.ok.suite _ _, I.os, I.bare, I.base, I.loc, I.cell, I.free, I.freeC, fun p hp => I.pin p (by rw [List.append_nil] at hp; exact hp), I.hok, I.len⟩
theorem Inv.unsuiteN {a : Addr} {pn' : List (Addr × Obj)} (I : Inv (X.suite a (X.pn ++ pins)) pn' σ H s) (ok : X.Ok) : Inv X pins σ H s :=
  ⟨ok, I.os, I.bare, I.base, I.loc, I.cell, I.free, I.freeC, fun p hp => I.pin p (List.mem_append_left _ hp), I.hok, I.len⟩
end
/-- what the clauses «except x as n» wish of an exception of the body: it is an object of its own from the suite on -/
def wTrk (K : PySem.W.Frag) (Wout : WX) (D : Ends) (i : Nat) : List (Value × (Addr → Value → Option Addr → TS)) → WX
  | [] => Wout
  | (c, ts) :: r => fun cls d σ H => ∃ b, PySem.W.exmOne K cls c = some b ∧ (b = true → ∀ a, H a = none → ts a cls d { nx := fun σ' H' => D.nx (σ'.set i none) H', rt := D.rt, bk := fun σ' H' => D.bk (σ'.set i none) H', ct := fun σ' H' => D.ct (σ'.set i none) H' } (σ.set i (some (.ref a))) (upd H a (exV a cls d))) ∧
      (b = false → wTrk K Wout D i r cls d σ H)
inductive HdsTr (X : Cx) (i : Nat) (n : Str) : List ExceptHandler → List (Value × (Addr → Value → Option Addr → TS)) → Prop
  | nil : HdsTr X i n [] []
  | cons {x : Str} {c : Value} {ts : Addr → Value → Option Addr → TS} {b₀ : Stmt} {suite : List Stmt} {np pos' : Pos} {hds : List ExceptHandler} {l : List (Value × (Addr → Value → Option Addr → TS))} (hc : Names X x c)
      (hsu : ∀ (a : Addr) (cls : Value) (d : Option Addr) (pn : List (Addr × Obj)), PSs (X.suite a pn) (b₀ :: suite) (ts a cls d)) (r : HdsTr X i n hds l) :
      HdsTr X i n (.ExceptHandler (some (.Name x np)) (some n) (b₀ :: suite) pos' :: hds) ((c, ts) :: l)
section
variable {X : Cx} {body : List Stmt} {h₀ : ExceptHandler} {hds : List ExceptHandler} {l : List (Value × (Addr → Value → Option Addr → TS))} {pos : Pos} {tb : WX → TS} {Wout : WX} {i : Nat} {n : Str}
theorem ps_try_trk (hs : X.stack = X.env :: X.outer) (hf : X.env.frame = some X.env.locals) (hN : X.N.Nodup) (hi : X.N[i]? = some n) (hln : X.env.kindOf n = some .local) (tk : Takes X Wout) (hex : X.ex = [])
    (hb : ∀ (W : WX) (pn : List (Addr × Obj)) (xe : Value → Shared → Prop), Takes (X.tr pn xe) W → PassesOwn (model X.prog X.w) X.A X.env xe → PSs (X.tr pn xe) body (tb W))
    (hh : HdsTr X i n (h₀ :: hds) l) : PS X (.Try body (h₀ :: hds) [] [] pos) (fun D σ H => tb (wTrk X.K Wout D i l) D σ H) := by
  refine ⟨fun pins s σ H D I h => ?_⟩
  have ok := I.ok
  have hfr : X.A.frames = some (X.env :: X.outer) := by rw [ok.frames, hs]
  have hloc : Loc X.env.scope n := .inl hln
  refine wpAny_Try_except ?_
  refine wpAny_mono ((hb (wTrk X.K Wout D i l) (X.pn ++ pins) (fun e s₁ => wpAny (model X.prog X.w) X.A (noteFrame e X.env) (fun _ s₂ => wpAny (model X.prog X.w) X.A (setFlight e none) (fun _ s₃ =>
    wpAny (model X.prog X.w) X.A (handleBy e X.env (h₀ :: hds)) (SP X pins D) X.xe s₃) X.xe s₂) X.xe s₁) (fun u s' xx => ?_) PassesOwn.looking).run [] s σ H D (I.toTry _) h) (fun f s1 hsp => ?_) (fun e s1 he => he)
  · obtain ⟨a, B, sI, pins', σ', H', cls, d, rfl, J', nb, up, sky, na, os, ag, w⟩ := xx
    have J : Inv X pins σ' H' sI := J'.ofTry ok
    have sky' : Sky B (X.env :: X.outer) a (Zc cls d) X.env.locals s'.heap := by rw [← hs]; exact sky
    show wpAny (model X.prog X.w) X.A (noteFrame (.ref a) X.env) _ _ _
    refine Sky.land Zc.steady hfr hf sky' fun h3 fl3 up3 => ?_
    have J3 : Inv X pins σ' H' { s' with heap := h3 } := J.landed nb fl3.1 (up.trans up3) os ag
    obtain ⟨oe3, vs3, he3, hz3, hd3⟩ := fl3.there
    have nfr : a ∉ frs (X.env :: X.outer) := fun hm => by
      obtain ⟨_, o', e', hnf⟩ := fl3.2.2.1.mem hm
      rw [he3] at e'
      cases e'
      exact hnf _ hd3
    have nL : a ≠ X.env.locals := fun z => nfr (List.mem_filterMap.mpr ⟨X.env, List.mem_cons_self, by rw [hf, z]⟩)
    have nF : a ∉ X.fs := fun hm => by
      obtain ⟨e, he, q⟩ := List.mem_filterMap.mp hm
      exact nfr (List.mem_filterMap.mpr ⟨e, List.mem_cons_of_mem _ he, q⟩)
    have nB : B.get? a = none := fl3.2.1
    have nfr' : a ∉ frs X.stack := by rw [hs]; exact nfr
    have nI : ∀ b o, sI.heap.get? b = some o → b ≠ a := fun b o e z => by
      subst z
      have q := nb b o e nfr'
      rw [nB] at q
      cases q
    have n0 : X.s_0.heap.get? a = none := by
      cases e : X.s_0.heap.get? a with
      | none => rfl
      | some o =>
        obtain ⟨o', q⟩ := J.base.there a o e (by rw [hex]; exact fun z => nomatch z)
        exact absurd rfl (nI a o' q)
    have np : ∀ p ∈ X.pn ++ pins, p.1 ≠ a := fun p hp => nI p.1 p.2 (J.pin p hp).1
    have S3 := J3.suite he3 hd3 na nL nF
    have go : ∀ {hds' : List ExceptHandler} {l' : List (Value × (Addr → Value → Option Addr → TS))}, HdsTr X i n hds' l' → wTrk X.K Wout D i l' cls d σ' H' →
        wpAny (model X.prog X.w) X.A (handleBy (.ref a) X.env hds') (SP X pins D) X.xe { s' with heap := h3 } := by
      intro hds' l' hk
      induction hk with
      | nil =>
        intro w
        refine wpAny_handleBy_nil ?_
        obtain ⟨k1, k2, k3, oe, vs, T, oT, ts', he, hz, hd, h1, hr⟩ := id fl3
        unfold PySem.passOn
        refine wpAny_bind (wpAny_field he hd h1 ?_)
        rw [if_neg (show ¬ ((Value.ref T == Value.none) = true) from by simp)]
        have fin : wpAny (model X.prog X.w) X.A (setFlight (.ref a) X.env.frame) (fun _ s4 => wpAny (model X.prog X.w) X.A (throw (.ref a) : Sem Flow) (SP X pins D) X.xe s4) X.xe { s' with heap := h3 } := by
          rw [hf]
          refine HandSPX.setFlight_upZ fl3 fun h4 hh4 up4 => wpAny_throw (tk _ _ ?_)
          exact ⟨a, B, sI, pins, σ', H', cls, d, rfl, J, nb, (up.trans up3).trans up4, .inr (.inr (by rw [hs]; exact hh4)), na, os, ag, w⟩
        first
          | exact wpAny_bind (wpAny_pure (wpAny_bind fin))
          | exact wpAny_bind fin
      | @cons x c ts b₀ suite np' pos' hds2 l2 hc hsu r ih =>
        intro w
        obtain ⟨b, hb1, hyes, hno⟩ := w
        refine wpAny_handleBy_cons (codeAny_handlers_test ?_) (by intro q; cases q)
        have LT : PySem.W.Looks (model X.prog X.w) h3 (typeOf (.ref a)) cls := fun A Q E s k q => wpAny_typeOf_ref (k _ _ he3) (by rw [hz3.1]; exact q)
        have LM := PySem.W.exm_one (M := model X.prog X.w) (J3.kIn) LT hb1
        have test : ∀ {Q : Value → Shared → Prop} {E : Value → Shared → Prop}, Q c { s' with heap := h3 } → wpAny (model X.prog X.w) (X.A.mark (some (.ref a))) (eval (.Name x np') X.env) Q E { s' with heap := h3 } := fun {Q E} q => by
          obtain ⟨hg, hdbg, hm | ⟨hm, hv, hnn⟩⟩ := hc
          · exact ld_glob (X := X.suite a ((a, oe3) :: (X.pn ++ pins))) S3 hg hm q hdbg
          · exact ld_blt (X := X.suite a ((a, oe3) :: (X.pn ++ pins))) S3 hg hm hv q hnn hdbg
        refine test (LM.here ?_)
        cases b with
        | true =>
          refine codeAny_handlers_suite_as ?_
          refine HandSPX.lands_againZ fl3 fun h4 fl4 up4 => ?_
          have J4 : Inv X pins σ' H' { s' with heap := h4 } := J.landed nb fl4.1 ((up.trans up3).trans up4) os ag
          obtain ⟨oe4, vs4, he4, hz4, hd4⟩ := fl4.there
          have J4p : Inv X ((a, oe4) :: pins) σ' H' { s' with heap := h4 } := ⟨J4.ok, J4.os, J4.bare, J4.base, J4.loc, J4.cell, J4.free, J4.freeC, fun p hp => by
            rcases List.mem_append.mp hp with h | h
            · exact J4.pin p (List.mem_append_left _ h)
            · rcases List.mem_cons.mp h with h | h
              · rw [h]; exact ⟨he4, na, nL, nF, fun v z => by have z' : oe4.data = .cell v := z; rw [hd4] at z'; cases z'⟩
              · exact J4.pin p (List.mem_append_right _ h), J4.hok, J4.len⟩
          have J4t : Inv X pins σ' (upd H' a (exV a cls d)) { s' with heap := h4 } := J4p.track n0 np (exV_ok he4 hz4 hd4)
          have S4 : Inv (X.suite a (X.pn ++ pins)) [] σ' (upd H' a (exV a cls d)) { s' with heap := h4 } := J4t.suiteN a
          refine store_ok (X := X.suite a (X.pn ++ pins)) (v := .ref a) S4 hN hi hloc rfl (fun s5 S5 => ?_) (.inr hln)
          refine wpAny_mono ((hsu a cls d (X.pn ++ pins)).run [] s5 _ _ _ S5 (hyes rfl a na)) (fun f s6 hsp => ?_) (fun _ _ z => False.elim z)
          have end_ : ∀ {σ6 : St} {H6 : Hp} {Q : Shared → Prop}, Inv (X.suite a (X.pn ++ pins)) [] σ6 H6 s6 → (∀ s7, Inv X pins (σ6.set i none) H6 s7 → Q s7) →
              wpAny (model X.prog X.w) X.A (do bindName X.env n .none; unbindBehindTheSuite X.env n pos') (fun _ s7 => Q s7) X.xe s6 := fun {σ6 H6 Q} S6 hq => gone_ok (S6.unsuiteN ok) hN hi hln fun s7 J7 => hq s7 J7
          cases f with
          | next =>
            obtain ⟨σ6, H6, S6, q6⟩ := hsp
            exact end_ S6 fun s7 J7 => ⟨_, _, J7, q6⟩
          | brk =>
            obtain ⟨σ6, H6, S6, q6⟩ := hsp
            exact end_ S6 fun s7 J7 => ⟨_, _, J7, q6⟩
          | cont =>
            obtain ⟨σ6, H6, S6, q6⟩ := hsp
            exact end_ S6 fun s7 J7 => ⟨_, _, J7, q6⟩
          | ret u =>
            obtain ⟨v6, σ6, H6, S6, r6, q6⟩ := hsp
            exact end_ S6 fun s7 J7 => ⟨_, _, _, J7, r6, q6⟩
        | false =>
          show wpAny _ X.A (handleBy (.ref a) X.env hds2) _ _ _
          exact ih (hno rfl)
    exact go hh w
  · cases f with
    | next =>
      obtain ⟨σ', H', J', q⟩ := hsp
      exact wpAny_execs_nil ⟨σ', H', J'.ofTry ok, q⟩
    | brk =>
      obtain ⟨σ', H', J', q⟩ := hsp
      exact ⟨σ', H', J'.ofTry ok, q⟩
    | cont =>
      obtain ⟨σ', H', J', q⟩ := hsp
      exact ⟨σ', H', J'.ofTry ok, q⟩
    | ret u =>
      obtain ⟨v, σ', H', J', r, q⟩ := hsp
      exact ⟨v, σ', H', J'.ofTry ok, r, q⟩
end
end L2
namespace J
open PySem PySem.Spec L2
section
variable {X : Cx} {w0 : WX} {k : Nat} {F : Fn} {dws : List W} {x : Str} {p pos apos : Pos} {e o a b : Expr} {es : List Expr} {ma mr : MA} {mo mv me me2 : ME} {st : Stmt}
/-! ### C(..) -/
structure Nf (P : Program) (w : World) (K : PySem.W.Frag) (mg : Str → Option Value) (base : Heap) (k : Nat) (C : Str) (dws : List W) (F : Fn) : Prop where
  ex : ∃ (f : Addr) (fd : FuncData) (ps : List Str) (ds : List Value) (dvs : List V), GOk P w K mg base (L2.CX P w) k f fd ps (spOf K F) ∧ Mk K (cA K C) f ∧ mg C = some (.ref (cA K C)) ∧ Binds K fd ps ds ∧ Vals dvs ds ∧ ∀ e, RWs e dws dvs
abbrev Nfx (X : Cx) : Nat → Str → List W → Fn → Prop := Nf X.prog X.w X.K X.mg X.base
theorem guards_make {A : Around} {C : Addr} {us : List Value} {kw : List (Str × Value)} (h : A.guards = some []) : (A.under (.builtin "type.__call__" ⟨.ref C :: us, kw⟩)).guards = some [] := by
  simp only [Around.under]
  rw [h]
  rfl
def mNew (C : Str) (F : Fn) (dws : List W) (ma : MA) : ME := fun r z => (ma r z).bind fun ws z => (F (.ob z.length :: (ws ++ dws)) (z ++ [some (.ins C [])])).bind fun w z' => match w with
  | .non => .ok (.ob z.length) z'
  | _ => .bad
open PyProof.Rows in
theorem run_makeG {pins : List (Addr × Obj)} {σ : L2.St} {H : Hp} {s : Shared} {Q : VK} {us ds : List Value} {vs dvs : List V} {C f : Addr} {fd : FuncData} {ps : List Str} {sp : Sp} {E : XK} {CX : CXT} (M : Mk X.K C f) (G : GOk X.prog X.w X.K X.mg X.base CX k f fd ps sp) (hG : X.A.guards = some []) (hr : Room (k + 1) X.A) (hb : Binds X.K fd ps ds) (hd : Vals dvs ds)
    (hx : PassesAt CX X σ E) (I : Inv X pins σ H s) (r : Vals vs us)
    (h : ∀ x dx, H x = none → H dx = none → dx ≠ x → sp (.ref x :: (vs ++ dvs)) (upd (upd H dx (.own x)) x (.ins C dx [])) (fun v H2 => v = .non ∧ Q (.ref x) H2) E) :
    wpAny (model X.prog X.w) X.A (call (.ref C) us) (EP X pins σ Q) X.xe s := by
  have hq := h (s.heap.objs.size + 1) s.heap.objs.size (I.hok.fresh (Nat.le_succ _)) (I.hok.fresh (Nat.le_refl _)) (Nat.ne_of_lt (Nat.lt_succ_self _))
  have I2 := Inv.made (C := C) I
  have r2 : Vals (V.ref (s.heap.objs.size + 1) :: (vs ++ dvs)) (Value.ref (s.heap.objs.size + 1) :: (us ++ ds)) := .cons rfl (r.append hd)
  have hl : (Value.ref (s.heap.objs.size + 1) :: us ++ ds).length = ps.length := by
    have e := r2.length
    rw [G.len _ _ _ _ hq] at e
    exact e.symm
  refine wpAny_call (make_map (f := f) I.kIn M.makes M.init (beq_iff_eq.mp M.fn) (codeAny_mono (G.run _ X.stack _ _ ⟨Value.ref (s.heap.objs.size + 1) :: us, []⟩ (Value.ref (s.heap.objs.size + 1) :: (us ++ ds)) _ _ E (guards_make hG) (hr.make C us [])
    (I2.env0.make C us []) (hb _ (Value.ref (s.heap.objs.size + 1) :: us) I2.kIn hl) r2 hq) fun r s' hq' => ?_))
  cases r with
  | error e => exact hx pins _ _ e s' I2 hq'
  | ok fl =>
    cases fl with
    | ret u =>
      obtain ⟨v, H', I3, rv, ev, q3⟩ := I2.after hq'
      subst ev
      exact ⟨rv, ⟨V.ref (s.heap.objs.size + 1), H', I3, rfl, q3⟩⟩
    | next => exact False.elim hq'
    | brk => exact False.elim hq'
    | cont => exact False.elim hq'
theorem mk_state {K : PySem.W.Frag} {H : Hp} {mu ex : List Addr} {z : Z} {C : Str} {x dx : Addr} (s : SR ⟨K, H, mu, z, ex⟩) (hx : H x = none) (hdx : H dx = none) (ne : dx ≠ x) :
    SR ⟨K, upd (upd H dx (.own x)) x (.ins (cA K C) dx []), mu ++ [x], z ++ [some (.ins C [])], ex⟩ ∧ Gr ⟨K, H, mu, z, ex⟩ ⟨K, upd (upd H dx (.own x)) x (.ins (cA K C) dx []), mu ++ [x], z ++ [some (.ins C [])], ex⟩ := by
  have s1 : SR ⟨K, upd H dx (.own x), mu, z, ex⟩ := SR.put (e := ⟨K, H, mu, z, ex⟩) s hdx
  have g1 : Gr ⟨K, H, mu, z, ex⟩ ⟨K, upd H dx (.own x), mu, z, ex⟩ := SR.gput (e := ⟨K, H, mu, z, ex⟩) s hdx
  have hx1 : upd H dx (.own x) x = none := by rw [upd_ne (Ne.symm ne)]; exact hx
  have s2 : SR ⟨K, upd (upd H dx (.own x)) x (.ins (cA K C) dx []), mu, z, x :: ex⟩ := SR.own (e := ⟨K, upd H dx (.own x), mu, z, ex⟩) s1 hx1
  have g2 : Gr ⟨K, upd H dx (.own x), mu, z, ex⟩ ⟨K, upd (upd H dx (.own x)) x (.ins (cA K C) dx []), mu, z, x :: ex⟩ := SR.gown (e := ⟨K, upd H dx (.own x), mu, z, ex⟩) s1 hx1
  have s3 : SR ⟨K, upd (upd H dx (.own x)) x (.ins (cA K C) dx []), mu ++ [x], z ++ [some (.ins C [])], ex⟩ :=
    SR.num (e := ⟨K, upd (upd H dx (.own x)) x (.ins (cA K C) dx []), mu, z, x :: ex⟩) s2 rfl (s.offx hx) (.ins upd_same .nil)
  have gg := g1.trans g2
  refine ⟨s3, ⟨⟨rfl, ⟨[], rfl⟩, ⟨[x], rfl⟩, fun b l => ?_, gg.keep⟩, fun b m => gg.keepx b m⟩⟩
  rcases l with l | l
  · rcases Lv.num s.len l with l | l
    · exact .inl (.inl l)
    · rw [l]; exact .inr hx
  · exact .inl (.inr l)
theorem je_new {C : Str} (D : Nfx X k C dws F) (hG : X.A.guards = some []) (hr : Room (k + 1) X.A) (hg : Gl X C) (tk : Takes X w0) (ha : JA X w0 (e :: es) ma)
    (hdb : (C == ("__debug__" : Str)) = false := by decide) (he : starEach (e :: es) X.env = (false, eval e X.env) :: starEach es X.env := by rfl) (hpl : (backTo pos (starEach es X.env)).any (·.1) = false := by rfl) :
    JE X w0 (.Call (.Name C p) (e :: es) [] pos) (mNew C F dws ma) := by
  obtain ⟨f, fd, ps, ds, dvs, G, M, m, b, vd, rd⟩ := D.ex
  refine ⟨⟨fun pins s σ H Q I h => ?_⟩⟩
  obtain ⟨mu, ex, rs, z, sr, sl, o'⟩ := h
  refine wpAny_Call_Name_kw (ld_glob I hg m ?_ hdb)
  refine PySem.W.callWith_K (h₀ := X.base) I.ok.mod.kin M.kp (thn (ha.pa.run pos pins s σ H _ I (tOf.go (R := RWs) sr sl o')) fun us s1 ⟨vs, H1, I1, r, q⟩ => ⟨I1.kIn, ?_⟩) he hpl
  obtain ⟨mu1, z1, ws, g1, sr1, r1, o1⟩ := q
  refine run_makeG M G hG hr b vd (passAt tk σ) I1 r fun x dx hx hdx ne => ?_
  obtain ⟨s4, g4⟩ := mk_state (C := C) sr1 hx hdx ne
  have hlen : mu1.length = z1.length := sr1.len
  have at4 : (mu1 ++ [x])[z1.length]? = some x := by rw [← hlen, List.getElem?_append_right (Nat.le_refl _), Nat.sub_self]; rfl
  refine ⟨mu1 ++ [x], ex, .ob z1.length :: (ws ++ dws), z1 ++ [some (.ins C [])], s4, .cons (.ob at4) ((r1.mono g4).append (rd _)), ?_⟩
  have o2 := Out.from g4 rfl o1
  refine (o2.bind (R := RW)).mono fun v H5 ⟨mu5, z5, w, g5, s5, r5, o5⟩ => ?_
  cases r5 with
  | non => exact ⟨rfl, o5 mu5 H5 (.ref x) (Gr.refl _) s5 (.ob (g5.at at4))⟩
  | _ => exact o5.elim
/-! ### raise -/
structure Xf (P : Program) (w : World) (K : PySem.W.Frag) (mg : Str → Option Value) (base : Heap) (C f : Str) : Prop where
  ex : ∃ (fI : Addr) (fd : FuncData), Ex1 P w K mg base (cA K C) fI fd f
  mg : mg C = some (.ref (cA K C))
structure Xf2 (P : Program) (w : World) (K : PySem.W.Frag) (mg : Str → Option Value) (base : Heap) (C f g : Str) : Prop where
  ex : ∃ (fI : Addr) (fd : FuncData), Ex2 P w K mg base (cA K C) fI fd f g
  mg : mg C = some (.ref (cA K C))
def sRz (C f : Str) (m : ME) : MS := fun r z => (m r z).st r fun w z => .ex ⟨C, [(f, w)]⟩ r z
theorem js_raise {C f : Str} (D : Xf X.prog X.w X.K X.mg X.base C f) (hc : X.calm = true) (hr : Room 2 X.A) (hg : Gl X C) (tk : Takes X w0) (ha : JE X w0 e me) (hdb : (C == ("__debug__" : Str)) = false := by decide) (hs : starEach [e] X.env = (false, eval e X.env) :: starEach [] X.env := by rfl) :
    JS X w0 (.Raise (some (.Call (.Name C p) [e] [] pos)) none apos) (sRz C f me) := by
  obtain ⟨fI, fd, L⟩ := D.ex
  refine ⟨PS.of (ps_raise hc tk (pmk_ex1 L hr hg D.mg ha.pe hdb hs)) fun D' σ H q => ?_⟩
  obtain ⟨mu, ex, rs, z, s, sl, o⟩ := q
  refine (tOf.goS (R := RW) s sl o).imp fun v H1 ⟨mu1, z1, x, g1, s1, r1, o1⟩ => fun d hd => ?_
  have g2 : Gr ⟨X.K, H1, mu1, z1, ex⟩ ⟨X.K, upd H1 d (.xd [(f, v)]), mu1, z1, ex⟩ := SR.gput (e := ⟨X.K, H1, mu1, z1, ex⟩) s1 hd
  exact o1 mu1 (upd H1 d (.xd [(f, v)])) σ d _ g2 (SR.put (e := ⟨X.K, H1, mu1, z1, ex⟩) s1 hd) ((sl.mono g1).mono g2) upd_same (fun l => s1.offL hd l) (.cons (r1.mono g2) .nil)
def sRz2 (C f g : Str) (m m2 : ME) : MS := fun r z => (m r z).st r fun w z => (m2 r z).st r fun u z => .ex ⟨C, [(g, u), (f, w)]⟩ r z
theorem js_raise2 {C f g : Str} {e2 : Expr} (D : Xf2 X.prog X.w X.K X.mg X.base C f g) (hc : X.calm = true) (hr : Room 2 X.A) (hg : Gl X C) (tk : Takes X w0) (ha : JE X w0 e me) (hb : JE X w0 e2 me2) (hdb : (C == ("__debug__" : Str)) = false := by decide)
    (hs : starEach [e, e2] X.env = (false, eval e X.env) :: starEach [e2] X.env := by rfl) (hs2 : starEach [e2] X.env = (false, eval e2 X.env) :: starEach [] X.env := by rfl) (hpl : (backTo pos (starEach [e2] X.env)).any (·.1) = false := by rfl) :
    JS X w0 (.Raise (some (.Call (.Name C p) [e, e2] [] pos)) none apos) (sRz2 C f g me me2) := by
  obtain ⟨fI, fd, L⟩ := D.ex
  refine ⟨PS.of (ps_raise hc tk (pmk_ex2 L hr hg D.mg ha.pe hb.pe hdb hs hs2)) fun D' σ H q => ?_⟩
  obtain ⟨mu, ex, rs, z, s, sl, o⟩ := q
  refine (tOf.goS (R := RW) s sl o).imp fun v H1 ⟨mu1, z1, x, g1, s1, r1, o1⟩ => ?_
  refine (tOf.goS (R := RW) s1 (sl.mono g1) o1).imp fun v2 H2 ⟨mu2, z2, x2, g2, s2, r2, o2⟩ => fun d hd => ?_
  have g3 : Gr ⟨X.K, H2, mu2, z2, ex⟩ ⟨X.K, upd H2 d (.xd [(g, v2), (f, v)]), mu2, z2, ex⟩ := SR.gput (e := ⟨X.K, H2, mu2, z2, ex⟩) s2 hd
  exact o2 mu2 (upd H2 d (.xd [(g, v2), (f, v)])) σ d _ g3 (SR.put (e := ⟨X.K, H2, mu2, z2, ex⟩) s2 hd) (((sl.mono g1).mono g2).mono g3) upd_same (fun l => s2.offL hd l) (.cons (r2.mono g3) (.cons ((r1.mono g2).mono g3) .nil))
/-! ### try .. except x as n -/
def hdl (exm : Str → W → Option Bool) (i : Nat) : List (W × MS) → Exn → Sl → Z → RS
  | [], x, r, z => .ex x r z
  | (c, m) :: rest, x, r, z => match exm x.C c with
    | none => .bad
    | some false => hdl exm i rest x r z
    | some true => (match m (r.set i (some (.exc x.C x.fs))) z with
      | .ok (.nx r') z' => .ok (.nx (r'.set i none)) z'
      | .ok (.rt w) z' => .ok (.rt w) z'
      | .ok (.bk r') z' => .ok (.bk (r'.set i none)) z'
      | .ok (.ct r') z' => .ok (.ct (r'.set i none)) z'
      | _ => .bad)
def sTry (exm : Str → W → Option Bool) (i : Nat) (mb : MS) (hs : List (W × MS)) : MS := fun r z => match mb r z with
  | .ex x r' z' => hdl exm i hs x r' z'
  | o => o
inductive JH (X : Cx) (n : Str) : List ExceptHandler → List (W × MS) → Prop
  | nil : JH X n [] []
  | cons {x : Str} {c : W} {m : MS} {b₀ : Stmt} {suite : List Stmt} {np pos' : Pos} {hds : List ExceptHandler} {l : List (W × MS)} (hc : Names X x (tagV X.K c)) (hsu : ∀ (a : Addr) (pn : List (Addr × Obj)), JB (X.suite a pn) wF (b₀ :: suite) m) (r : JH X n hds l) :
      JH X n (.ExceptHandler (some (.Name x np)) (some n) (b₀ :: suite) pos' :: hds) ((c, m) :: l)
theorem JH.hds {n : Str} {i : Nat} {hds : List ExceptHandler} {l : List (W × MS)} (h : JH X n hds l) : HdsTr X i n hds (l.map fun p => (tagV X.K p.1, fun _ _ _ => tS X.K wF p.2)) := by
  induction h with
  | nil => exact .nil
  | cons hc hsu r ih => exact .cons hc (fun a cls d pn => (hsu a pn).ps) ih
theorem hdl_t {exm : Str → W → Option Bool} (hexm : ∀ C c b, exm C c = some b → PySem.W.exmOne X.K (.ref (cA X.K C)) (tagV X.K c) = some b) {i : Nat} {D : Ends} : ∀ {l : List (W × MS)} {x : Exn} {r : Sl} {z : Z} {H : Hp} {mu ex : List Addr} {σ : L2.St} {d : Addr} {us : List (Str × V)},
    SR ⟨X.K, H, mu, z, ex⟩ → SlO ⟨X.K, H, mu, z, ex⟩ r σ → H d = some (.xd us) → ¬ En.L ⟨X.K, H, mu, z, ex⟩ d → RFs ⟨X.K, H, mu, z, ex⟩ x.fs us → OutS w0 ⟨X.K, H, mu, z, ex⟩ D (hdl exm i l x r z) →
    wTrk X.K w0 D i (l.map fun p => (tagV X.K p.1, fun _ _ _ => tS X.K wF p.2)) (.ref (cA X.K x.C)) (some d) σ H
  | [], x, r, z, H, mu, ex, σ, d, us, s, sl, hd, nl, rf, o => o mu H σ d us (Gr.refl _) s sl hd nl rf
  | (c, m) :: l, x, r, z, H, mu, ex, σ, d, us, s, sl, hd, nl, rf, o => by
    unfold hdl at o
    cases hb : exm x.C c with
    | none => rw [hb] at o; exact o.elim
    | some b =>
      rw [hb] at o
      refine ⟨b, hexm _ _ _ hb, fun hb1 a na => ?_, fun hb1 => ?_⟩
      · subst hb1
        have g1 : Gr ⟨X.K, H, mu, z, ex⟩ ⟨X.K, upd H a (exV a (.ref (cA X.K x.C)) (some d)), mu, z, ex⟩ := SR.gput (e := ⟨X.K, H, mu, z, ex⟩) s na
        have s1 : SR ⟨X.K, upd H a (exV a (.ref (cA X.K x.C)) (some d)), mu, z, ex⟩ := SR.put (e := ⟨X.K, H, mu, z, ex⟩) s na
        have hd1 : upd H a (exV a (.ref (cA X.K x.C)) (some d)) d = some (.xd us) := by rw [upd_ne (ne_new hd na)]; exact hd
        refine ⟨mu, ex, r.set i (some (.exc x.C x.fs)), z, s1, (sl.mono g1).set (.exc upd_same hd1 (fun l => s.offL na l) nl (rf.mono g1)), ?_⟩
        have o1 := OutS.from g1 rfl o
        dsimp only at o1
        show OutS wF ⟨X.K, upd H a (exV a (.ref (cA X.K x.C)) (some d)), mu, z, ex⟩ _ (m (r.set i (some (.exc x.C x.fs))) z)
        cases hm : m (r.set i (some (.exc x.C x.fs))) z with
        | bad => rw [hm] at o1; exact o1.elim
        | ex _ _ _ => rw [hm] at o1; exact o1.elim
        | ok f z2 =>
          rw [hm] at o1
          cases f with
          | nx r2 => exact fun mu' H' σ' g s l => o1 mu' H' _ g s l.forget
          | bk r2 => exact fun mu' H' σ' g s l => o1 mu' H' _ g s l.forget
          | ct r2 => exact fun mu' H' σ' g s l => o1 mu' H' _ g s l.forget
          | rt w => exact o1
      · subst hb1
        exact hdl_t hexm s sl hd nl rf o
theorem js_try {exm : Str → W → Option Bool} {i : Nat} {n : Str} {body : List Stmt} {h₀ : ExceptHandler} {hds : List ExceptHandler} {mb : MS} {l : List (W × MS)} (hexm : ∀ C c b, exm C c = some b → PySem.W.exmOne X.K (.ref (cA X.K C)) (tagV X.K c) = some b)
    (hs : X.stack = X.env :: X.outer) (hf : X.env.frame = some X.env.locals) (hN : X.N.Nodup) (hi : X.N[i]? = some n) (hln : X.env.kindOf n = some .local) (tk : Takes X w0) (hex : X.ex = [])
    (hb : ∀ (W' : WX) (pn : List (Addr × Obj)) (xe : Value → Shared → Prop), Takes (X.tr pn xe) W' → PassesOwn (model X.prog X.w) X.A X.env xe → JB (X.tr pn xe) W' body mb) (hh : JH X n (h₀ :: hds) l) : JS X w0 (.Try body (h₀ :: hds) [] [] pos) (sTry exm i mb l) := by
  refine ⟨PS.of (ps_try_trk (tb := fun W' => tS X.K W' mb) hs hf hN hi hln tk hex (fun W' pn xe t p => (hb W' pn xe t p).ps) hh.hds) fun D σ H q => ?_⟩
  obtain ⟨mu, ex, rs, z, s, sl, o⟩ := q
  refine ⟨mu, ex, rs, z, s, sl, ?_⟩
  show OutS (wTrk X.K w0 D i _) ⟨X.K, H, mu, z, ex⟩ D (mb rs z)
  unfold sTry at o
  cases hm : mb rs z with
  | bad => rw [hm] at o; exact o
  | ok f z1 =>
    rw [hm] at o
    cases f with
    | nx r2 => exact o
    | bk r2 => exact o
    | ct r2 => exact o
    | rt w => exact o
  | ex x r' z' =>
    rw [hm] at o
    exact fun mu' H' σ' d us g s' l' hd nl rf => hdl_t (w0 := w0) hexm s' l' hd nl rf (OutS.from g rfl o)
/-! ### isinstance of all of these -/
structure InT (K : PySem.W.Frag) (C : Addr) : Prop where
  cl : Cls K C
  ca : PySem.W.findIn K (.ref C) "__class__" = some (some (.builtin "object.__class__"))
  gn : PySem.W.specialIn K (.builtin "object.__class__") "__get__" = some (some (.builtin "getset_descriptor.__get__"))
  tk : PySem.W.takesIn K (.builtin "object.__class__") = some true
  mro : PySem.W.mroIn K C (.type "object") = some true
def isiA (ic xc : Str → Bool) (kit : Kit) (xs : List W) (z : Z) : Res W := match xs with
  | [x, c] => if isCls c then (match tyW z x with
    | some t => ofO ((kit t c).map .bl) z
    | none => (match inOf z x with
      | some (C, _) => if ic C then ofO ((kit (.gl C) c).map .bl) z else .bad
      | none => (match exOf x with
        | some (C, _) => if xc C then ofO ((kit (.gl C) c).map .bl) z else .bad
        | none => .bad))) else .bad
  | _ => .bad
theorem cav_isiA {K : PySem.W.Frag} {ic xc : Str → Bool} {kit : Kit} (hkit : KitOk K kit) (hi : ∀ C, ic C = true → InT K (cA K C)) (hx : ∀ C, xc C = true → ExT K (cA K C)) : CaV K (fun xs H Q => rIsi K xs H Q ∨ rIsX K xs H Q) (isiA ic xc kit) := by
  intro e w0 σ xs vs Q hk s rx o
  unfold isiA at o
  split at o
  · rename_i x c
    cases rx with
    | cons a b =>
      cases b with
      | cons b c' =>
        cases c'
        split at o
        · rename_i h2
          have p2 := cls_v b h2
          rw [hk] at p2
          split at o
          · rename_i t h1
            cases hb : kit t c with
            | none => rw [hb] at o; exact o.elim
            | some k =>
              rw [hb] at o
              have p1 := tyW_x s a h1
              rw [hk] at p1
              exact .inl ⟨_, _, _, _, k, rfl, p2, p1, hkit t c k hb, out_val s (.bl _) o⟩
          · split at o
            · rename_i C fs hin
              split at o
              · rename_i hC
                cases hb : kit (.gl C) c with
                | none => rw [hb] at o; exact o.elim
                | some k =>
                  rw [hb] at o
                  obtain ⟨p, dx, us, rfl, ha, rf⟩ := in_of s a hin
                  rw [hk] at ha
                  have t := hi C hC
                  exact .inl ⟨_, _, _, _, k, rfl, p2, .base (.ins ha t.cl t.ca t.gn t.tk t.mro), hkit _ c k hb, out_val s (.bl _) o⟩
              · exact o.elim
            · split at o
              · rename_i C fs hin
                split at o
                · rename_i hC
                  cases hb : kit (.gl C) c with
                  | none => rw [hb] at o; exact o.elim
                  | some k =>
                    rw [hb] at o
                    obtain ⟨p, us, rfl, ha, rf⟩ := ex_of a hin
                    rw [hk] at ha
                    exact .inr ⟨_, _, _, _, _, k, rfl, ha, hx C hC, p2, hkit _ c k hb, out_val s (.bl _) o⟩
                · exact o.elim
              · exact o.elim
        · exact o.elim
  · exact o.elim
theorem je_isi {ic xc : Str → Bool} {kit : Kit} (hkit : KitOk X.K kit) (hi : ∀ C, ic C = true → InT X.K (cA X.K C)) (hx : ∀ C, xc C = true → ExT X.K (cA X.K C)) (hg : Gl X "isinstance") (hm : X.mg "isinstance" = none) (ha : JA X w0 [a, b] mr)
    (he : starEach [a, b] X.env = (false, eval a X.env) :: starEach [b] X.env := by rfl) (hpl : (backTo pos (starEach [b] X.env)).any (·.1) = false := by rfl) : JE X w0 (.Call (.Name "isinstance" p) [a, b] [] pos) (mCB (isiA ic xc kit) mr) :=
  je_cb (call_isi.or call_isX) (cav_isiA hkit hi hx) hg hm (by decide +kernel) ha (by decide) (by decide) he hpl
/-! ### names of the module -/
theorem je_gl {y : Str} (hg : Gl X y) (hm : X.mg y = some (.ref (cA X.K y))) (hd : (y == ("__debug__" : Str)) = false := by decide) : JE X w0 (.Name y pos) (mC (.gl y)) := by
  refine ⟨PE.of (pe_glob (v := .ref (cA X.K y)) hg hm rfl hd) fun σ H Q q => ?_⟩
  obtain ⟨mu, ex, r, z, s, sl, o⟩ := q
  exact o mu H _ (Gr.refl _) s (.gl y)
theorem je_glc {y : Str} {u : Value} {v : V} {w : W} (hg : Gl X y) (hm : X.mg y = some u) (r : RelV v u) (hw : ∀ e : En, e.K = X.K → RW e w v) (hd : (y == ("__debug__" : Str)) = false := by decide) : JE X w0 (.Name y pos) (mC w) := by
  refine ⟨PE.of (pe_glob (v := v) hg hm r hd) fun σ H Q q => ?_⟩
  obtain ⟨mu, ex, r, z, s, sl, o⟩ := q
  exact o mu H _ (Gr.refl _) s (hw _ rfl)
theorem je_ty {y : Str} {n : String} (hg : Gl X y) (hm : X.mg y = none) (hv : bootBuiltins y = some (.type n)) (hn : y ≠ "__name__" := by decide) (hd : (y == ("__debug__" : Str)) = false := by decide) : JE X w0 (.Name y pos) (mC (.ty n)) :=
  je_c (pe_bltn (v := .ty n) hg hm hv rfl hn hd) fun _ => .ty n
end
end J
namespace J
open PySem PySem.Spec L2
theorem hu1 {k : Nat} {A : Around} (hr : Room k A) : A.units + 1 < cLine := by have := hr.un; omega
theorem hu64 {k : Nat} {A : Around} (hr : Room k A) : A.units + 64 < cLine := by have := hr.un; omega
section
variable {X : Cx} {w0 : WX} {p pos : Pos} {kws : List Keyword} {mk : MA}
/-- an exception that is made and not raised -/
theorem exc_new {K : PySem.W.Frag} {H : Hp} {mu ex : List Addr} {z : Z} {C : Str} {a d : Addr} {fs : List (Str × W)} {us : List (Str × V)} (s : SR ⟨K, H, mu, z, ex⟩) (rf : RFs ⟨K, H, mu, z, ex⟩ fs us) (ha : H a = none) (hd : H d = none) (ne : d ≠ a) :
    Gr ⟨K, H, mu, z, ex⟩ ⟨K, upd (upd H d (.xd us)) a (exV a (.ref (cA K C)) (some d)), mu, z, ex⟩ ∧ SR ⟨K, upd (upd H d (.xd us)) a (exV a (.ref (cA K C)) (some d)), mu, z, ex⟩ ∧ RW ⟨K, upd (upd H d (.xd us)) a (exV a (.ref (cA K C)) (some d)), mu, z, ex⟩ (.exc C fs) (.ref a) := by
  have s1 : SR ⟨K, upd H d (.xd us), mu, z, ex⟩ := SR.put (e := ⟨K, H, mu, z, ex⟩) s hd
  have g1 : Gr ⟨K, H, mu, z, ex⟩ ⟨K, upd H d (.xd us), mu, z, ex⟩ := SR.gput (e := ⟨K, H, mu, z, ex⟩) s hd
  have ha1 : upd H d (.xd us) a = none := by rw [upd_ne (Ne.symm ne)]; exact ha
  have s2 : SR ⟨K, upd (upd H d (.xd us)) a (exV a (.ref (cA K C)) (some d)), mu, z, ex⟩ := SR.put (e := ⟨K, upd H d (.xd us), mu, z, ex⟩) s1 ha1
  have g2 : Gr ⟨K, upd H d (.xd us), mu, z, ex⟩ ⟨K, upd (upd H d (.xd us)) a (exV a (.ref (cA K C)) (some d)), mu, z, ex⟩ := SR.gput (e := ⟨K, upd H d (.xd us), mu, z, ex⟩) s1 ha1
  have hd2 : upd (upd H d (.xd us)) a (exV a (.ref (cA K C)) (some d)) d = some (.xd us) := by rw [upd_ne ne]; exact upd_same
  exact ⟨g1.trans g2, s2, .exc (d := d) upd_same hd2 (fun l => s.offL ha l) (fun l => s.offL hd l) (rf.mono (g1.trans g2))⟩
def mXk1 (C f : Str) (mk : MA) : ME := fun r z => (mk r z).bind fun ws z => match ws with
  | [w] => .ok (.exc C [(f, w)]) z
  | _ => .bad
def mXk2 (C f g : Str) (mk : MA) : ME := fun r z => (mk r z).bind fun ws z => match ws with
  | [u, w] => .ok (.exc C [(g, u), (f, w)]) z
  | _ => .bad
theorem je_xk1 {C f : Str} (D : Xf X.prog X.w X.K X.mg X.base C f) (hr : Room 2 X.A) (hg : Gl X C) (hk : JK X w0 kws mk)
    (hall : (backToKw pos (keywordEach kws X.env)).all (·.1.isSome) = true := by rfl) (hks : (backToKw pos (keywordEach kws X.env)).filterMap (·.1) = [f] := by rfl) (hdb : (C == ("__debug__" : Str)) = false := by decide)
    (hpl : ((backTo pos (starEach [] X.env)).any (·.1) || (backToKw pos (keywordEach kws X.env)).any (·.1.isNone)) = false := by rfl) : JE X w0 (.Call (.Name C p) [] kws pos) (mXk1 C f mk) := by
  obtain ⟨fI, fd, L⟩ := D.ex
  refine ⟨PE.of (pe_ev1 L hr hg D.mg hk.pk hall hks hdb hpl) fun σ H Q q => ?_⟩
  obtain ⟨mu, ex, rs, z, s, sl, o⟩ := q
  refine (tOf.go (R := RWs) s sl o).imp fun vs H1 ⟨mu1, z1, ws, g1, s1, r1, o1⟩ => ?_
  dsimp only at o1
  split at o1
  · cases r1 with
    | cons a b =>
      cases b
      refine ⟨_, rfl, fun p d hp hd ne => ?_⟩
      obtain ⟨g2, s2, r2⟩ := exc_new (C := C) s1 (.cons (k := f) a .nil) hp hd ne
      exact o1 mu1 _ _ g2 s2 r2
  · exact o1.elim
theorem je_xk2 {C f g : Str} (D : Xf2 X.prog X.w X.K X.mg X.base C f g) (hr : Room 2 X.A) (hg : Gl X C) (hk : JK X w0 kws mk)
    (hall : (backToKw pos (keywordEach kws X.env)).all (·.1.isSome) = true := by rfl) (hks : (backToKw pos (keywordEach kws X.env)).filterMap (·.1) = [g, f] := by rfl) (hdb : (C == ("__debug__" : Str)) = false := by decide)
    (hpl : ((backTo pos (starEach [] X.env)).any (·.1) || (backToKw pos (keywordEach kws X.env)).any (·.1.isNone)) = false := by rfl) : JE X w0 (.Call (.Name C p) [] kws pos) (mXk2 C f g mk) := by
  obtain ⟨fI, fd, L⟩ := D.ex
  refine ⟨PE.of (pe_ev2 L hr hg D.mg hk.pk hall hks hdb hpl) fun σ H Q q => ?_⟩
  obtain ⟨mu, ex, rs, z, s, sl, o⟩ := q
  refine (tOf.go (R := RWs) s sl o).imp fun vs H1 ⟨mu1, z1, ws, g1, s1, r1, o1⟩ => ?_
  dsimp only at o1
  split at o1
  · cases r1 with
    | cons a b =>
      cases b with
      | cons b c =>
        cases c
        refine ⟨_, _, rfl, fun p d hp hd ne => ?_⟩
        obtain ⟨g2, s2, r2⟩ := exc_new (C := C) s1 (.cons (k := g) a (.cons (k := f) b .nil)) hp hd ne
        exact o1 mu1 _ _ g2 s2 r2
  · exact o1.elim
end
end J
namespace J
open PySem PySem.Spec L2
/-! ### loops, plainly -/
theorem seq_nx {m1 m2 : MS} {r r1 : Sl} {z z1 : Z} (h : m1 r z = .ok (.nx r1) z1) : sSeq m1 m2 r z = m2 r1 z1 := by
  simp only [sSeq, h]
theorem for_nx {xs : List W} {f : W → Sl → Option Sl} {mb : MS} (I : Nat → Sl → Z → Prop) (h : ∀ i w r z, xs[i]? = some w → I i r z → ∃ r', f w r = some r' ∧ ∃ r2 z2, mb r' z = .ok (.nx r2) z2 ∧ I (i + 1) r2 z2) :
    ∀ (k i : Nat) (r : Sl) (z : Z), i + k = xs.length → I i r z → ∃ r2 z2, forL (nxF xs) f mb (k + 1) i r z = .ok (.nx r2) z2 ∧ I xs.length r2 z2
  | 0, i, r, z, hk, hI => by
    have hn : xs[i]? = none := List.getElem?_eq_none (by omega)
    refine ⟨r, z, ?_, ?_⟩
    · unfold forL
      simp only [nxF, hn]
    · rw [← hk]; exact hI
  | k + 1, i, r, z, hk, hI => by
    have hl : i < xs.length := by omega
    have hs : xs[i]? = some xs[i] := List.getElem?_eq_getElem hl
    obtain ⟨r', hf, r2, z2, hb, hI2⟩ := h i _ r z hs hI
    obtain ⟨r3, z3, he, hI3⟩ := for_nx I h k (i + 1) r2 z2 (by omega) hI2
    refine ⟨r3, z3, ?_, hI3⟩
    unfold forL
    simp only [nxF, hs, hf, hb]
    exact he
/-- a comprehension's turns, plainly -/
theorem lc_nx {nx : Nx} {xs : List W} {f : W → Sl → Option Sl} {mt : MT} {body : Sl → List W → Z → Res (List W)} {r : Sl} {z : Z} (hnx : ∀ i, nx z i = some xs[i]?) (I : Nat → List W → Prop)
    (h : ∀ i w acc, xs[i]? = some w → I i acc → ∃ r' b, f w r = some r' ∧ mt r' z = .ok b z ∧ if b = true then ∃ acc', body r' acc z = .ok acc' z ∧ I (i + 1) acc' else I (i + 1) acc) :
    ∀ (k i : Nat) (acc : List W), i + k = xs.length → I i acc → ∃ acc', lcI nx f mt body r (k + 1) i acc z = .ok acc' z ∧ I xs.length acc'
  | 0, i, acc, hk, hI => by
    have hn : xs[i]? = none := List.getElem?_eq_none (by omega)
    refine ⟨acc, ?_, ?_⟩
    · unfold lcI
      simp only [hnx, hn]
    · rw [← hk]; exact hI
  | k + 1, i, acc, hk, hI => by
    have hl : i < xs.length := by omega
    have hs : xs[i]? = some xs[i] := List.getElem?_eq_getElem hl
    obtain ⟨r', b, hf, ht, hb⟩ := h i _ acc hs hI
    cases b with
    | true =>
      rw [if_pos rfl] at hb
      obtain ⟨acc2, hb2, hI2⟩ := hb
      obtain ⟨acc3, he, hI3⟩ := lc_nx hnx I h k (i + 1) acc2 (by omega) hI2
      refine ⟨acc3, ?_, hI3⟩
      unfold lcI
      simp only [hnx, hs, hf, ht, Res.calm, Res.bind, hb2, if_true]
      exact he
    | false =>
      rw [if_neg (by decide)] at hb
      obtain ⟨acc3, he, hI3⟩ := lc_nx hnx I h k (i + 1) acc (by omega) hb
      refine ⟨acc3, ?_, hI3⟩
      unfold lcI
      simp only [hnx, hs, hf, ht, Res.calm, Res.bind]
      exact he
theorem eqW_str {s : Str} {z : Z} : eqW (.str s) (.str s) z = .ok (.bl true) z := by
  simp [eqW, eqB, eqS]
end J
namespace L2
open PySem PySem.Spec PyProof.Rows
theorem walk_ofW {l : PySem.W.OpenLaw} {n k : Nat} {q : Program} {loose : List Str} {XP : (Str → Option Value) → Heap → Prop} {YP : World → Heap → Prop} {d : DefRec} {x : Str}
    (hn : l.most = some n) (hn2 : n ≤ sizeLine) (hdf : d.params.defaults = []) (hr : Room k callerA)
    (F : ∀ (w : World) (mg : Str → Option Value) (fa : Addr) (h : Heap), YP w h → h.Ns mainGlobals mg → mg d.name = some (.ref fa) →
      ∃ (K : PySem.W.Frag) (fd : FuncData) (sp : Sp), K.In h ∧ (∀ (s : Shared) (u : Value), BindsTo s fd ⟨[u], []⟩ [(x, u)]) ∧
        (∀ (H : Hp) (a : Addr) (ns : List Int), ns.length ≤ n → Only H → SqL K H a (ns.map V.int) → sp [.ref a] H (fun v _ => v = .bl true) fun _ _ _ => False) ∧
        ∀ base : Heap, K.In base → base.Ns mainGlobals mg → GOk l.prog w K mg base (L2.CX l.prog w) k fa fd [x] sp) :
    PySem.W.WalkO q loose XP YP l.row.toRowW d [] (fun f vs => PySem.call f vs) := by
  refine Att.attach_call hn hdf fun w s₀ s₁ mg mb fa o pm cd doc a vs ns G Y ho hd hcd hmg hobj hints hlen hg => ?_
  obtain ⟨K, fd, sp, KX, hb, hsp, hF⟩ := F w mg fa _ Y G.T.g hmg
  refine law_callG KX G.T.g G.T.b G.T.builtins G.T.nolimit hg hobj hints (Nat.le_trans hlen hn2) hr hF hb (fun H hO hS => hsp H a ns hlen hO hS) fun H e s' z => ?_
  obtain ⟨_, _, _, _, _, _, _, _, _, _, _, _, z⟩ := z
  exact z
end L2
namespace J
open PySem PySem.Spec L2
theorem rws_ints {e : En} : ∀ ns : List Int, RWs e (ns.map W.int) (ns.map V.int)
  | [] => .nil
  | n :: ns => .cons (.int n) (rws_ints ns)
/-- a law's promise, by what its def tells of a script -/
theorem law_sp {F : Fn} (K : PySem.W.Frag) (H : Hp) (a : Addr) (ns : List Int) (hF : ∃ z, F [.rl (ns.map .int)] [] = .ok (.bl true) z) (hS : SqL K H a (ns.map V.int)) : spOf K F [.ref a] H (fun v _ => v = .bl true) fun _ _ _ => False := by
  obtain ⟨z, hz⟩ := hF
  have nl : ∀ b, ¬ En.L ⟨K, H, [], [], []⟩ b := fun b l => by
    rcases l with ⟨n, w, h, _⟩ | h
    · cases h
    · cases h
  refine ⟨[], [], [.rl (ns.map .int)], [], ⟨rfl, List.nodup_nil, fun a m => (by cases m), fun a m => (by cases m), fun n w a h => (by cases h)⟩, .cons ?_ .nil, ?_⟩
  · rcases hS with h | h
    · exact .rl h (nl a) (rws_ints ns)
    · exact .rlK h (rws_ints ns)
  · rw [hz]
    intro mu' H' b g s r
    cases r
    rfl
end J
namespace K01
open PySem PySem.Spec PyProof.Rows L2
/-! ### the text by places -/
def top (i : Nat) : Stmt := PySem.Challenge.pw_semirail_k01_three_families.main.body.getD i (.Pass ⟨0, 0, 0, 0⟩)
abbrev sMixed : Stmt := top 32
abbrev sRaiseOne : Stmt := top 33
abbrev sRaiseTwo : Stmt := top 34
abbrev sRaiseThree : Stmt := top 35
abbrev sByNames : Stmt := top 36
abbrev sRaised : Stmt := top 37
abbrev sKinds : Stmt := top 38
abbrev sFamilies : Stmt := top 39
abbrev sFields : Stmt := top 40
abbrev sIsRight : Stmt := top 41
abbrev sThing : Stmt := top 42
abbrev sLaw : Stmt := top 43
abbrev sI0 : Stmt := inClass (top 2) 0
abbrev sI1 : Stmt := inClass (top 3) 0
abbrev sI2 : Stmt := inClass (top 4) 0
abbrev sI3 : Stmt := inClass (top 5) 0
abbrev sI4 : Stmt := inClass (top 6) 0
abbrev sI5 : Stmt := inClass (top 7) 0
abbrev sI6 : Stmt := inClass (top 8) 0
abbrev sI7 : Stmt := inClass (top 9) 0
abbrev sI8 : Stmt := inClass (top 10) 0
abbrev sI9 : Stmt := inClass (top 11) 0
abbrev sI10 : Stmt := inClass (top 12) 0
abbrev sI11 : Stmt := inClass (top 13) 0
abbrev sI12 : Stmt := inClass (top 14) 0
abbrev sI13 : Stmt := inClass (top 15) 0
abbrev sI14 : Stmt := inClass (top 16) 0
abbrev sI15 : Stmt := inClass (top 17) 0
abbrev sI16 : Stmt := inClass (top 19) 0
abbrev sI17 : Stmt := inClass (top 20) 0
abbrev sI18 : Stmt := inClass (top 21) 0
abbrev sI19 : Stmt := inClass (top 22) 0
abbrev sI20 : Stmt := inClass (top 23) 0
abbrev sI21 : Stmt := inClass (top 25) 0
abbrev sI22 : Stmt := inClass (top 26) 0
abbrev sI23 : Stmt := inClass (top 27) 0
abbrev sI24 : Stmt := inClass (top 28) 0
abbrev sI25 : Stmt := inClass (top 29) 0
abbrev sI26 : Stmt := inClass (top 30) 0
def nms : List Str := ["BadRing", "BadTable", "BadWeight", "BadLeading", "BadNumber", "BadWord", "BadWeb", "BadPath", "BadAutomaton", "BadExpression", "BadTransducer", "BadMachine", "BadAnswer", "BadName", "BadDeed", "BadLine", "NoStar", "NoOrder", "NotClosed", "NotFew", "TooMany", "NoName", "Taken", "InUse", "Round", "TooDeep", "Nothing"]
def fls : List Str := ["what", "rule", "why", "why", "why", "why", "why", "why", "why", "why", "why", "why", "why", "why", "why", "line", "why", "step", "why", "why", "most", "name", "name", "users", "circle", "name", "why"]
def nm (i : Nat) : Str := nms.getD i "BadRing"
def fl (i : Nat) : Str := fls.getD i "why"
/-- where the i-th class stands -/
def C (K : PySem.W.Frag) (i : Nat) : Addr := He.ga K (nm i)
def fam (i : Nat) : Nat := if i < 16 then 0 else if i < 21 then 1 else 2
def famN (j : Nat) : Str := if j = 0 then "Refused" else if j = 1 then "Unreckoned" else "Unknown"
def FA (K : PySem.W.Frag) (j : Nat) : Addr := He.ga K (famN j)
/-- the nine names of families, as values -/
def fcls (K : PySem.W.Frag) : List Value := [.ref (FA K 0), .type "ValueError", .ref (FA K 1), .type "ArithmeticError", .ref (FA K 2), .type "LookupError", .type "KeyError", .type "IndexError", .type "ZeroDivisionError"]
def fdue (i : Nat) : List Bool := [fam i == 0, fam i == 0, fam i == 1, fam i == 1, fam i == 2, fam i == 2, false, false, false]
def clsB (K : PySem.W.Frag) (i : Nat) : Bool := exB K (C K i) && (He.eqO (PySem.W.findIn K (.ref (C K i)) (fl i)) (some none) && (He.eqO (PySem.W.findIn K (.ref (C K i)) "__init__") (some (some (.ref (He.ma K (C K i) "__init__")))) && decide (PySem.W.typeIn K (.ref (He.ma K (C K i) "__init__")) = some (.type "function"))))
def kitB2 (K : PySem.W.Frag) (i : Nat) : Bool := (List.range 27).all fun j => decide (PySem.W.kitOne K (.ref (C K i)) (.ref (C K j)) = some (decide (i = j)))
def famB (K : PySem.W.Frag) (i : Nat) : Bool := (List.range 9).all fun j => decide (PySem.W.kitOne K (.ref (C K i)) ((fcls K).getD j .none) = some ((fdue i).getD j false))
def exmB (K : PySem.W.Frag) (i : Nat) : Bool := (List.range 3).all fun j => decide (PySem.W.exmOne K (.ref (C K i)) (.ref (FA K j)) = some (decide (fam i = j)))
def more (K : PySem.W.Frag) : Bool := ((List.range 27).all fun i => clsB K i && (kitB2 K i && (famB K i && exmB K i))) && He.eqO (PySem.W.findIn K (.ref (C K 1)) "things") (some none)
/-! ### the head -/
def dI0 : He.DefD := ⟨("BadRing", some "__init__"), "__init__", "BadRing.__init__", defArgs sI0, defBody sI0, defScope sI0, [], []⟩
def dI1 : He.DefD := ⟨("BadTable", some "__init__"), "__init__", "BadTable.__init__", defArgs sI1, defBody sI1, defScope sI1, [], []⟩
def dI2 : He.DefD := ⟨("BadWeight", some "__init__"), "__init__", "BadWeight.__init__", defArgs sI2, defBody sI2, defScope sI2, [], []⟩
def dI3 : He.DefD := ⟨("BadLeading", some "__init__"), "__init__", "BadLeading.__init__", defArgs sI3, defBody sI3, defScope sI3, [], []⟩
def dI4 : He.DefD := ⟨("BadNumber", some "__init__"), "__init__", "BadNumber.__init__", defArgs sI4, defBody sI4, defScope sI4, [], []⟩
def dI5 : He.DefD := ⟨("BadWord", some "__init__"), "__init__", "BadWord.__init__", defArgs sI5, defBody sI5, defScope sI5, [], []⟩
def dI6 : He.DefD := ⟨("BadWeb", some "__init__"), "__init__", "BadWeb.__init__", defArgs sI6, defBody sI6, defScope sI6, [], []⟩
def dI7 : He.DefD := ⟨("BadPath", some "__init__"), "__init__", "BadPath.__init__", defArgs sI7, defBody sI7, defScope sI7, [], []⟩
def dI8 : He.DefD := ⟨("BadAutomaton", some "__init__"), "__init__", "BadAutomaton.__init__", defArgs sI8, defBody sI8, defScope sI8, [], []⟩
def dI9 : He.DefD := ⟨("BadExpression", some "__init__"), "__init__", "BadExpression.__init__", defArgs sI9, defBody sI9, defScope sI9, [], []⟩
def dI10 : He.DefD := ⟨("BadTransducer", some "__init__"), "__init__", "BadTransducer.__init__", defArgs sI10, defBody sI10, defScope sI10, [], []⟩
def dI11 : He.DefD := ⟨("BadMachine", some "__init__"), "__init__", "BadMachine.__init__", defArgs sI11, defBody sI11, defScope sI11, [], []⟩
def dI12 : He.DefD := ⟨("BadAnswer", some "__init__"), "__init__", "BadAnswer.__init__", defArgs sI12, defBody sI12, defScope sI12, [], []⟩
def dI13 : He.DefD := ⟨("BadName", some "__init__"), "__init__", "BadName.__init__", defArgs sI13, defBody sI13, defScope sI13, [], []⟩
def dI14 : He.DefD := ⟨("BadDeed", some "__init__"), "__init__", "BadDeed.__init__", defArgs sI14, defBody sI14, defScope sI14, [], []⟩
def dI15 : He.DefD := ⟨("BadLine", some "__init__"), "__init__", "BadLine.__init__", defArgs sI15, defBody sI15, defScope sI15, [], []⟩
def dI16 : He.DefD := ⟨("NoStar", some "__init__"), "__init__", "NoStar.__init__", defArgs sI16, defBody sI16, defScope sI16, [], []⟩
def dI17 : He.DefD := ⟨("NoOrder", some "__init__"), "__init__", "NoOrder.__init__", defArgs sI17, defBody sI17, defScope sI17, [], []⟩
def dI18 : He.DefD := ⟨("NotClosed", some "__init__"), "__init__", "NotClosed.__init__", defArgs sI18, defBody sI18, defScope sI18, [], []⟩
def dI19 : He.DefD := ⟨("NotFew", some "__init__"), "__init__", "NotFew.__init__", defArgs sI19, defBody sI19, defScope sI19, [], []⟩
def dI20 : He.DefD := ⟨("TooMany", some "__init__"), "__init__", "TooMany.__init__", defArgs sI20, defBody sI20, defScope sI20, [], []⟩
def dI21 : He.DefD := ⟨("NoName", some "__init__"), "__init__", "NoName.__init__", defArgs sI21, defBody sI21, defScope sI21, [], []⟩
def dI22 : He.DefD := ⟨("Taken", some "__init__"), "__init__", "Taken.__init__", defArgs sI22, defBody sI22, defScope sI22, [], []⟩
def dI23 : He.DefD := ⟨("InUse", some "__init__"), "__init__", "InUse.__init__", defArgs sI23, defBody sI23, defScope sI23, [], []⟩
def dI24 : He.DefD := ⟨("Round", some "__init__"), "__init__", "Round.__init__", defArgs sI24, defBody sI24, defScope sI24, [], []⟩
def dI25 : He.DefD := ⟨("TooDeep", some "__init__"), "__init__", "TooDeep.__init__", defArgs sI25, defBody sI25, defScope sI25, [], []⟩
def dI26 : He.DefD := ⟨("Nothing", some "__init__"), "__init__", "Nothing.__init__", defArgs sI26, defBody sI26, defScope sI26, [], []⟩
def dMixed : He.DefD := ⟨("_law_mixed", none), "_law_mixed", "_law_mixed", defArgs sMixed, defBody sMixed, defScope sMixed, [], []⟩
def dRaiseOne : He.DefD := ⟨("_law_raise_one", none), "_law_raise_one", "_law_raise_one", defArgs sRaiseOne, defBody sRaiseOne, defScope sRaiseOne, [], []⟩
def dRaiseTwo : He.DefD := ⟨("_law_raise_two", none), "_law_raise_two", "_law_raise_two", defArgs sRaiseTwo, defBody sRaiseTwo, defScope sRaiseTwo, [], []⟩
def dRaiseThree : He.DefD := ⟨("_law_raise_three", none), "_law_raise_three", "_law_raise_three", defArgs sRaiseThree, defBody sRaiseThree, defScope sRaiseThree, [], []⟩
def dByNames : He.DefD := ⟨("_law_by_names", none), "_law_by_names", "_law_by_names", defArgs sByNames, defBody sByNames, defScope sByNames, [], []⟩
def dRaised : He.DefD := ⟨("_law_raised", none), "_law_raised", "_law_raised", defArgs sRaised, defBody sRaised, defScope sRaised, [], []⟩
def dKinds : He.DefD := ⟨("_law_kinds", none), "_law_kinds", "_law_kinds", defArgs sKinds, defBody sKinds, defScope sKinds, [], []⟩
def dFamilies : He.DefD := ⟨("_law_families", none), "_law_families", "_law_families", defArgs sFamilies, defBody sFamilies, defScope sFamilies, [], []⟩
def dFields : He.DefD := ⟨("_law_fields", none), "_law_fields", "_law_fields", defArgs sFields, defBody sFields, defScope sFields, [], []⟩
def dIsRight : He.DefD := ⟨("_law_is_right", none), "_law_is_right", "_law_is_right", defArgs sIsRight, defBody sIsRight, defScope sIsRight, [], []⟩
def dThing : He.DefD := ⟨("_law_thing", none), "_law_thing", "_law_thing", defArgs sThing, defBody sThing, defScope sThing, [], []⟩
def dLaw : He.DefD := ⟨("law", none), "law", "law", defArgs sLaw, defBody sLaw, defScope sLaw, [], []⟩
def fn : List He.DefD := [dI0, dI1, dI2, dI3, dI4, dI5, dI6, dI7, dI8, dI9, dI10, dI11, dI12, dI13, dI14, dI15, dI16, dI17, dI18, dI19, dI20, dI21, dI22, dI23, dI24, dI25, dI26, dMixed, dRaiseOne, dRaiseTwo, dRaiseThree, dByNames, dRaised, dKinds, dFamilies, dFields, dIsRight, dThing, dLaw]
def fa : List He.Fa := [.glo "BadRing", .glo "BadTable", .glo "BadWeight", .glo "BadLeading", .glo "BadNumber", .glo "BadWord", .glo "BadWeb", .glo "BadPath", .glo "BadAutomaton", .glo "BadExpression", .glo "BadTransducer", .glo "BadMachine", .glo "BadAnswer", .glo "BadName", .glo "BadDeed", .glo "BadLine", .glo "NoStar", .glo "NoOrder", .glo "NotClosed", .glo "NotFew", .glo "TooMany", .glo "NoName", .glo "Taken", .glo "InUse", .glo "Round", .glo "TooDeep", .glo "Nothing", .glo "Refused", .glo "Unreckoned", .glo "Unknown", .glo "_law_mixed", .glo "_law_raise_one", .glo "_law_raise_two", .glo "_law_raise_three", .glo "_law_by_names", .glo "_law_raised", .glo "_law_kinds", .glo "_law_families", .glo "_law_fields", .glo "_law_is_right", .glo "_law_thing", .glo "law", .free "isinstance", .free "enumerate", .free "range", .free "repr", .free "ValueError", .free "ArithmeticError", .free "LookupError", .free "KeyError", .free "IndexError", .free "ZeroDivisionError"]
abbrev R : PySem.W.OpenRow := PySem.W.OpenLaw.row PySem.Challenge.rw_semirail_k01_three_families
abbrev hk : PySem.W.Hook := He.hookX 5 fa fn more
def ob (s : PySem.W.SharedT) : He.AlD := He.obsXG 5 fa fn more (HandSHeadRun.getT s)
theorem ob_eq (s : PySem.W.SharedT) : ob s = hk.obs s.abs := He.obsXG_eq (HandSHeadRun.getT_eq s)
def names1 : List PySem.Str := ["Refused", "BadRing", "BadTable", "BadWeight", "BadLeading", "BadNumber", "BadWord", "BadWeb", "BadPath", "BadAutomaton", "BadExpression", "BadTransducer", "BadMachine", "BadAnswer", "BadName", "BadDeed", "BadLine", "Unreckoned", "NoStar", "NoOrder"]
def names2 : List PySem.Str := ["NotClosed", "NotFew", "TooMany", "Unknown", "NoName", "Taken", "InUse", "Round", "TooDeep", "Nothing", "_law_mixed", "_law_raise_one", "_law_raise_two", "_law_raise_three", "_law_by_names", "_law_raised", "_law_kinds", "_law_families", "_law_fields", "_law_is_right", "_law_thing"]
def names : List PySem.Str := names1 ++ names2
end K01
namespace K01
open PySem PySem.Spec PyProof.Rows L2
theorem run (w : World) : HandSHeadRun.RunEq R (PySem.W.view R.prog [43]) hk ob 8000 names w := by
  intro os
  kernel_rfl
end K01
namespace K01
open PySem PySem.Spec PyProof.Rows L2
/-- what the top has left of the classes -/
structure Tx (P : Program) (w : World) (K : PySem.W.Frag) (mg : Str → Option Value) (base : Heap) : Prop where
  mgC : ∀ i, i < 27 → mg (nm i) = some (.ref (C K i))
  mgF : ∀ j, j < 3 → mg (famN j) = some (.ref (FA K j))
  ex1 : ∀ i, i < 27 → i ≠ 1 → ∃ fI fd, Ex1 P w K mg base (C K i) fI fd (fl i)
  ex2 : ∃ fI fd, Ex2 P w K mg base (C K 1) fI fd "rule" "things"
  kit : ∀ i j, i < 27 → j < 27 → PySem.W.kitOne K (.ref (C K i)) (.ref (C K j)) = some (decide (i = j))
  famk : ∀ i j, i < 27 → j < 9 → PySem.W.kitOne K (.ref (C K i)) ((fcls K).getD j .none) = some ((fdue i).getD j false)
  exm : ∀ i j, i < 27 → j < 3 → PySem.W.exmOne K (.ref (C K i)) (.ref (FA K j)) = some (decide (fam i = j))
  ext : ∀ i, i < 27 → ExT K (C K i)
  no : ∀ i, i < 27 → PySem.W.findIn K (.ref (C K i)) (fl i) = some none
  no2 : PySem.W.findIn K (.ref (C K 1)) "things" = some none
  fIs : mg "isinstance" = none
  fEn : mg "enumerate" = none
  fRa : mg "range" = none
  fRe : mg "repr" = none
  fV : mg "ValueError" = none
  fA : mg "ArithmeticError" = none
  fL : mg "LookupError" = none
  fK : mg "KeyError" = none
  fI : mg "IndexError" = none
  fZ : mg "ZeroDivisionError" = none
section
variable {P : Program} {w : World} {K : PySem.W.Frag} {mg : Str → Option Value} {base : Heap}
theorem lt_mem {n i : Nat} (h : i < n) : i ∈ List.range n := List.mem_range.mpr h
theorem more_at {i : Nat} (h : more K = true) (hi : i < 27) : clsB K i = true ∧ kitB2 K i = true ∧ famB K i = true ∧ exmB K i = true := by
  obtain ⟨h1, _⟩ := He.ba h
  obtain ⟨a, b⟩ := He.ba (List.all_eq_true.mp h1 i (lt_mem hi))
  obtain ⟨b, c⟩ := He.ba b
  obtain ⟨c, d⟩ := He.ba c
  exact ⟨a, b, c, d⟩
structure ClsT (K : PySem.W.Frag) (i : Nat) : Prop where
  ext : ExT K (C K i)
  no : PySem.W.findIn K (.ref (C K i)) (fl i) = some none
  iC : PySem.W.findIn K (.ref (C K i)) "__init__" = some (some (.ref (He.ma K (C K i) "__init__")))
  tI : PySem.W.typeIn K (.ref (He.ma K (C K i) "__init__")) = some (.type "function")
theorem clsB_ok {i : Nat} (h : clsB K i = true) : ClsT K i := by
  obtain ⟨h1, h⟩ := He.ba h
  obtain ⟨h2, h⟩ := He.ba h
  obtain ⟨h3, h4⟩ := He.ba h
  exact ⟨exB_ok h1, He.eqO_ok h2, He.eqO_ok h3, of_decide_eq_true h4⟩
abbrev FnA (K : PySem.W.Frag) (x qual : Str) (st : Stmt) (f : Addr) (fd : FuncData) : Prop := FunD K x qual (defArgs st) (defBody st) (defScope st) [] [] f fd
abbrev Ini (K : PySem.W.Frag) (i : Nat) : Addr := He.ma K (C K i) "__init__"
theorem mk0 {fd : FuncData} (T : ClsT K 0) (F : FnA K "__init__" "BadRing.__init__" sI0 (Ini K 0) fd) : Ex1 P w K mg base (C K 0) (Ini K 0) fd "what" where
  T := T.ext
  no := T.no
  iC := T.iC
  tI := T.tI
  ok := ok_init1 F ⟨rfl, rfl, rfl, by decide +kernel, rfl, by decide +kernel, by decide +kernel⟩ rfl rfl (by decide +kernel) (by decide +kernel) T.ext T.no
  bp := fun s a u => F.to (dvs := []) fun _ _ _ _ _ _ => rfl
  bk := fun s a u => F.to (dvs := []) fun _ _ _ _ _ _ => rfl
theorem mk1 {fd : FuncData} (T : ClsT K 1) (n2 : PySem.W.findIn K (.ref (C K 1)) "things" = some none) (F : FnA K "__init__" "BadTable.__init__" sI1 (Ini K 1) fd) : Ex2 P w K mg base (C K 1) (Ini K 1) fd "rule" "things" where
  T := T.ext
  no := T.no
  no2 := n2
  iC := T.iC
  tI := T.tI
  ok := ok_init2 F ⟨rfl, rfl, rfl, by decide +kernel, rfl, by decide +kernel, by decide +kernel⟩ rfl rfl rfl (by decide +kernel) (by decide +kernel) (by decide +kernel) (by decide +kernel) T.ext T.no n2
  bp := fun s a u v => F.to (dvs := []) fun _ _ _ _ _ _ => rfl
  bk := fun s a u v => F.to (dvs := []) fun _ _ _ _ _ _ => rfl
theorem mk2 {fd : FuncData} (T : ClsT K 2) (F : FnA K "__init__" "BadWeight.__init__" sI2 (Ini K 2) fd) : Ex1 P w K mg base (C K 2) (Ini K 2) fd "why" where
  T := T.ext
  no := T.no
  iC := T.iC
  tI := T.tI
  ok := ok_init1 F ⟨rfl, rfl, rfl, by decide +kernel, rfl, by decide +kernel, by decide +kernel⟩ rfl rfl (by decide +kernel) (by decide +kernel) T.ext T.no
  bp := fun s a u => F.to (dvs := []) fun _ _ _ _ _ _ => rfl
  bk := fun s a u => F.to (dvs := []) fun _ _ _ _ _ _ => rfl
theorem mk3 {fd : FuncData} (T : ClsT K 3) (F : FnA K "__init__" "BadLeading.__init__" sI3 (Ini K 3) fd) : Ex1 P w K mg base (C K 3) (Ini K 3) fd "why" where
  T := T.ext
  no := T.no
  iC := T.iC
  tI := T.tI
  ok := ok_init1 F ⟨rfl, rfl, rfl, by decide +kernel, rfl, by decide +kernel, by decide +kernel⟩ rfl rfl (by decide +kernel) (by decide +kernel) T.ext T.no
  bp := fun s a u => F.to (dvs := []) fun _ _ _ _ _ _ => rfl
  bk := fun s a u => F.to (dvs := []) fun _ _ _ _ _ _ => rfl
theorem mk4 {fd : FuncData} (T : ClsT K 4) (F : FnA K "__init__" "BadNumber.__init__" sI4 (Ini K 4) fd) : Ex1 P w K mg base (C K 4) (Ini K 4) fd "why" where
  T := T.ext
  no := T.no
  iC := T.iC
  tI := T.tI
  ok := ok_init1 F ⟨rfl, rfl, rfl, by decide +kernel, rfl, by decide +kernel, by decide +kernel⟩ rfl rfl (by decide +kernel) (by decide +kernel) T.ext T.no
  bp := fun s a u => F.to (dvs := []) fun _ _ _ _ _ _ => rfl
  bk := fun s a u => F.to (dvs := []) fun _ _ _ _ _ _ => rfl
theorem mk5 {fd : FuncData} (T : ClsT K 5) (F : FnA K "__init__" "BadWord.__init__" sI5 (Ini K 5) fd) : Ex1 P w K mg base (C K 5) (Ini K 5) fd "why" where
  T := T.ext
  no := T.no
  iC := T.iC
  tI := T.tI
  ok := ok_init1 F ⟨rfl, rfl, rfl, by decide +kernel, rfl, by decide +kernel, by decide +kernel⟩ rfl rfl (by decide +kernel) (by decide +kernel) T.ext T.no
  bp := fun s a u => F.to (dvs := []) fun _ _ _ _ _ _ => rfl
  bk := fun s a u => F.to (dvs := []) fun _ _ _ _ _ _ => rfl
theorem mk6 {fd : FuncData} (T : ClsT K 6) (F : FnA K "__init__" "BadWeb.__init__" sI6 (Ini K 6) fd) : Ex1 P w K mg base (C K 6) (Ini K 6) fd "why" where
  T := T.ext
  no := T.no
  iC := T.iC
  tI := T.tI
  ok := ok_init1 F ⟨rfl, rfl, rfl, by decide +kernel, rfl, by decide +kernel, by decide +kernel⟩ rfl rfl (by decide +kernel) (by decide +kernel) T.ext T.no
  bp := fun s a u => F.to (dvs := []) fun _ _ _ _ _ _ => rfl
  bk := fun s a u => F.to (dvs := []) fun _ _ _ _ _ _ => rfl
theorem mk7 {fd : FuncData} (T : ClsT K 7) (F : FnA K "__init__" "BadPath.__init__" sI7 (Ini K 7) fd) : Ex1 P w K mg base (C K 7) (Ini K 7) fd "why" where
  T := T.ext
  no := T.no
  iC := T.iC
  tI := T.tI
  ok := ok_init1 F ⟨rfl, rfl, rfl, by decide +kernel, rfl, by decide +kernel, by decide +kernel⟩ rfl rfl (by decide +kernel) (by decide +kernel) T.ext T.no
  bp := fun s a u => F.to (dvs := []) fun _ _ _ _ _ _ => rfl
  bk := fun s a u => F.to (dvs := []) fun _ _ _ _ _ _ => rfl
theorem mk8 {fd : FuncData} (T : ClsT K 8) (F : FnA K "__init__" "BadAutomaton.__init__" sI8 (Ini K 8) fd) : Ex1 P w K mg base (C K 8) (Ini K 8) fd "why" where
  T := T.ext
  no := T.no
  iC := T.iC
  tI := T.tI
  ok := ok_init1 F ⟨rfl, rfl, rfl, by decide +kernel, rfl, by decide +kernel, by decide +kernel⟩ rfl rfl (by decide +kernel) (by decide +kernel) T.ext T.no
  bp := fun s a u => F.to (dvs := []) fun _ _ _ _ _ _ => rfl
  bk := fun s a u => F.to (dvs := []) fun _ _ _ _ _ _ => rfl
theorem mk9 {fd : FuncData} (T : ClsT K 9) (F : FnA K "__init__" "BadExpression.__init__" sI9 (Ini K 9) fd) : Ex1 P w K mg base (C K 9) (Ini K 9) fd "why" where
  T := T.ext
  no := T.no
  iC := T.iC
  tI := T.tI
  ok := ok_init1 F ⟨rfl, rfl, rfl, by decide +kernel, rfl, by decide +kernel, by decide +kernel⟩ rfl rfl (by decide +kernel) (by decide +kernel) T.ext T.no
  bp := fun s a u => F.to (dvs := []) fun _ _ _ _ _ _ => rfl
  bk := fun s a u => F.to (dvs := []) fun _ _ _ _ _ _ => rfl
theorem mk10 {fd : FuncData} (T : ClsT K 10) (F : FnA K "__init__" "BadTransducer.__init__" sI10 (Ini K 10) fd) : Ex1 P w K mg base (C K 10) (Ini K 10) fd "why" where
  T := T.ext
  no := T.no
  iC := T.iC
  tI := T.tI
  ok := ok_init1 F ⟨rfl, rfl, rfl, by decide +kernel, rfl, by decide +kernel, by decide +kernel⟩ rfl rfl (by decide +kernel) (by decide +kernel) T.ext T.no
  bp := fun s a u => F.to (dvs := []) fun _ _ _ _ _ _ => rfl
  bk := fun s a u => F.to (dvs := []) fun _ _ _ _ _ _ => rfl
theorem mk11 {fd : FuncData} (T : ClsT K 11) (F : FnA K "__init__" "BadMachine.__init__" sI11 (Ini K 11) fd) : Ex1 P w K mg base (C K 11) (Ini K 11) fd "why" where
  T := T.ext
  no := T.no
  iC := T.iC
  tI := T.tI
  ok := ok_init1 F ⟨rfl, rfl, rfl, by decide +kernel, rfl, by decide +kernel, by decide +kernel⟩ rfl rfl (by decide +kernel) (by decide +kernel) T.ext T.no
  bp := fun s a u => F.to (dvs := []) fun _ _ _ _ _ _ => rfl
  bk := fun s a u => F.to (dvs := []) fun _ _ _ _ _ _ => rfl
theorem mk12 {fd : FuncData} (T : ClsT K 12) (F : FnA K "__init__" "BadAnswer.__init__" sI12 (Ini K 12) fd) : Ex1 P w K mg base (C K 12) (Ini K 12) fd "why" where
  T := T.ext
  no := T.no
  iC := T.iC
  tI := T.tI
  ok := ok_init1 F ⟨rfl, rfl, rfl, by decide +kernel, rfl, by decide +kernel, by decide +kernel⟩ rfl rfl (by decide +kernel) (by decide +kernel) T.ext T.no
  bp := fun s a u => F.to (dvs := []) fun _ _ _ _ _ _ => rfl
  bk := fun s a u => F.to (dvs := []) fun _ _ _ _ _ _ => rfl
theorem mk13 {fd : FuncData} (T : ClsT K 13) (F : FnA K "__init__" "BadName.__init__" sI13 (Ini K 13) fd) : Ex1 P w K mg base (C K 13) (Ini K 13) fd "why" where
  T := T.ext
  no := T.no
  iC := T.iC
  tI := T.tI
  ok := ok_init1 F ⟨rfl, rfl, rfl, by decide +kernel, rfl, by decide +kernel, by decide +kernel⟩ rfl rfl (by decide +kernel) (by decide +kernel) T.ext T.no
  bp := fun s a u => F.to (dvs := []) fun _ _ _ _ _ _ => rfl
  bk := fun s a u => F.to (dvs := []) fun _ _ _ _ _ _ => rfl
theorem mk14 {fd : FuncData} (T : ClsT K 14) (F : FnA K "__init__" "BadDeed.__init__" sI14 (Ini K 14) fd) : Ex1 P w K mg base (C K 14) (Ini K 14) fd "why" where
  T := T.ext
  no := T.no
  iC := T.iC
  tI := T.tI
  ok := ok_init1 F ⟨rfl, rfl, rfl, by decide +kernel, rfl, by decide +kernel, by decide +kernel⟩ rfl rfl (by decide +kernel) (by decide +kernel) T.ext T.no
  bp := fun s a u => F.to (dvs := []) fun _ _ _ _ _ _ => rfl
  bk := fun s a u => F.to (dvs := []) fun _ _ _ _ _ _ => rfl
theorem mk15 {fd : FuncData} (T : ClsT K 15) (F : FnA K "__init__" "BadLine.__init__" sI15 (Ini K 15) fd) : Ex1 P w K mg base (C K 15) (Ini K 15) fd "line" where
  T := T.ext
  no := T.no
  iC := T.iC
  tI := T.tI
  ok := ok_init1 F ⟨rfl, rfl, rfl, by decide +kernel, rfl, by decide +kernel, by decide +kernel⟩ rfl rfl (by decide +kernel) (by decide +kernel) T.ext T.no
  bp := fun s a u => F.to (dvs := []) fun _ _ _ _ _ _ => rfl
  bk := fun s a u => F.to (dvs := []) fun _ _ _ _ _ _ => rfl
theorem mk16 {fd : FuncData} (T : ClsT K 16) (F : FnA K "__init__" "NoStar.__init__" sI16 (Ini K 16) fd) : Ex1 P w K mg base (C K 16) (Ini K 16) fd "why" where
  T := T.ext
  no := T.no
  iC := T.iC
  tI := T.tI
  ok := ok_init1 F ⟨rfl, rfl, rfl, by decide +kernel, rfl, by decide +kernel, by decide +kernel⟩ rfl rfl (by decide +kernel) (by decide +kernel) T.ext T.no
  bp := fun s a u => F.to (dvs := []) fun _ _ _ _ _ _ => rfl
  bk := fun s a u => F.to (dvs := []) fun _ _ _ _ _ _ => rfl
theorem mk17 {fd : FuncData} (T : ClsT K 17) (F : FnA K "__init__" "NoOrder.__init__" sI17 (Ini K 17) fd) : Ex1 P w K mg base (C K 17) (Ini K 17) fd "step" where
  T := T.ext
  no := T.no
  iC := T.iC
  tI := T.tI
  ok := ok_init1 F ⟨rfl, rfl, rfl, by decide +kernel, rfl, by decide +kernel, by decide +kernel⟩ rfl rfl (by decide +kernel) (by decide +kernel) T.ext T.no
  bp := fun s a u => F.to (dvs := []) fun _ _ _ _ _ _ => rfl
  bk := fun s a u => F.to (dvs := []) fun _ _ _ _ _ _ => rfl
theorem mk18 {fd : FuncData} (T : ClsT K 18) (F : FnA K "__init__" "NotClosed.__init__" sI18 (Ini K 18) fd) : Ex1 P w K mg base (C K 18) (Ini K 18) fd "why" where
  T := T.ext
  no := T.no
  iC := T.iC
  tI := T.tI
  ok := ok_init1 F ⟨rfl, rfl, rfl, by decide +kernel, rfl, by decide +kernel, by decide +kernel⟩ rfl rfl (by decide +kernel) (by decide +kernel) T.ext T.no
  bp := fun s a u => F.to (dvs := []) fun _ _ _ _ _ _ => rfl
  bk := fun s a u => F.to (dvs := []) fun _ _ _ _ _ _ => rfl
theorem mk19 {fd : FuncData} (T : ClsT K 19) (F : FnA K "__init__" "NotFew.__init__" sI19 (Ini K 19) fd) : Ex1 P w K mg base (C K 19) (Ini K 19) fd "why" where
  T := T.ext
  no := T.no
  iC := T.iC
  tI := T.tI
  ok := ok_init1 F ⟨rfl, rfl, rfl, by decide +kernel, rfl, by decide +kernel, by decide +kernel⟩ rfl rfl (by decide +kernel) (by decide +kernel) T.ext T.no
  bp := fun s a u => F.to (dvs := []) fun _ _ _ _ _ _ => rfl
  bk := fun s a u => F.to (dvs := []) fun _ _ _ _ _ _ => rfl
theorem mk20 {fd : FuncData} (T : ClsT K 20) (F : FnA K "__init__" "TooMany.__init__" sI20 (Ini K 20) fd) : Ex1 P w K mg base (C K 20) (Ini K 20) fd "most" where
  T := T.ext
  no := T.no
  iC := T.iC
  tI := T.tI
  ok := ok_init1 F ⟨rfl, rfl, rfl, by decide +kernel, rfl, by decide +kernel, by decide +kernel⟩ rfl rfl (by decide +kernel) (by decide +kernel) T.ext T.no
  bp := fun s a u => F.to (dvs := []) fun _ _ _ _ _ _ => rfl
  bk := fun s a u => F.to (dvs := []) fun _ _ _ _ _ _ => rfl
theorem mk21 {fd : FuncData} (T : ClsT K 21) (F : FnA K "__init__" "NoName.__init__" sI21 (Ini K 21) fd) : Ex1 P w K mg base (C K 21) (Ini K 21) fd "name" where
  T := T.ext
  no := T.no
  iC := T.iC
  tI := T.tI
  ok := ok_init1 F ⟨rfl, rfl, rfl, by decide +kernel, rfl, by decide +kernel, by decide +kernel⟩ rfl rfl (by decide +kernel) (by decide +kernel) T.ext T.no
  bp := fun s a u => F.to (dvs := []) fun _ _ _ _ _ _ => rfl
  bk := fun s a u => F.to (dvs := []) fun _ _ _ _ _ _ => rfl
theorem mk22 {fd : FuncData} (T : ClsT K 22) (F : FnA K "__init__" "Taken.__init__" sI22 (Ini K 22) fd) : Ex1 P w K mg base (C K 22) (Ini K 22) fd "name" where
  T := T.ext
  no := T.no
  iC := T.iC
  tI := T.tI
  ok := ok_init1 F ⟨rfl, rfl, rfl, by decide +kernel, rfl, by decide +kernel, by decide +kernel⟩ rfl rfl (by decide +kernel) (by decide +kernel) T.ext T.no
  bp := fun s a u => F.to (dvs := []) fun _ _ _ _ _ _ => rfl
  bk := fun s a u => F.to (dvs := []) fun _ _ _ _ _ _ => rfl
theorem mk23 {fd : FuncData} (T : ClsT K 23) (F : FnA K "__init__" "InUse.__init__" sI23 (Ini K 23) fd) : Ex1 P w K mg base (C K 23) (Ini K 23) fd "users" where
  T := T.ext
  no := T.no
  iC := T.iC
  tI := T.tI
  ok := ok_init1 F ⟨rfl, rfl, rfl, by decide +kernel, rfl, by decide +kernel, by decide +kernel⟩ rfl rfl (by decide +kernel) (by decide +kernel) T.ext T.no
  bp := fun s a u => F.to (dvs := []) fun _ _ _ _ _ _ => rfl
  bk := fun s a u => F.to (dvs := []) fun _ _ _ _ _ _ => rfl
theorem mk24 {fd : FuncData} (T : ClsT K 24) (F : FnA K "__init__" "Round.__init__" sI24 (Ini K 24) fd) : Ex1 P w K mg base (C K 24) (Ini K 24) fd "circle" where
  T := T.ext
  no := T.no
  iC := T.iC
  tI := T.tI
  ok := ok_init1 F ⟨rfl, rfl, rfl, by decide +kernel, rfl, by decide +kernel, by decide +kernel⟩ rfl rfl (by decide +kernel) (by decide +kernel) T.ext T.no
  bp := fun s a u => F.to (dvs := []) fun _ _ _ _ _ _ => rfl
  bk := fun s a u => F.to (dvs := []) fun _ _ _ _ _ _ => rfl
theorem mk25 {fd : FuncData} (T : ClsT K 25) (F : FnA K "__init__" "TooDeep.__init__" sI25 (Ini K 25) fd) : Ex1 P w K mg base (C K 25) (Ini K 25) fd "name" where
  T := T.ext
  no := T.no
  iC := T.iC
  tI := T.tI
  ok := ok_init1 F ⟨rfl, rfl, rfl, by decide +kernel, rfl, by decide +kernel, by decide +kernel⟩ rfl rfl (by decide +kernel) (by decide +kernel) T.ext T.no
  bp := fun s a u => F.to (dvs := []) fun _ _ _ _ _ _ => rfl
  bk := fun s a u => F.to (dvs := []) fun _ _ _ _ _ _ => rfl
theorem mk26 {fd : FuncData} (T : ClsT K 26) (F : FnA K "__init__" "Nothing.__init__" sI26 (Ini K 26) fd) : Ex1 P w K mg base (C K 26) (Ini K 26) fd "why" where
  T := T.ext
  no := T.no
  iC := T.iC
  tI := T.tI
  ok := ok_init1 F ⟨rfl, rfl, rfl, by decide +kernel, rfl, by decide +kernel, by decide +kernel⟩ rfl rfl (by decide +kernel) (by decide +kernel) T.ext T.no
  bp := fun s a u => F.to (dvs := []) fun _ _ _ _ _ _ => rfl
  bk := fun s a u => F.to (dvs := []) fun _ _ _ _ _ _ => rfl
theorem tx_mk {h : Heap} (X : K.In h) (G : h.Ns mainGlobals mg) (c : He.SaysX fa fn more K) : Tx P w K mg base := by
  have hm := c.all.2.2
  have cl : ∀ i, i < 27 → ClsT K i := fun i hi => clsB_ok (more_at hm hi).1
  have n2 : PySem.W.findIn K (.ref (C K 1)) "things" = some none := He.eqO_ok (He.ba hm).2
  refine ⟨fun i hi => ?_, fun j hj => ?_, fun i hi h1 => ?_, ?_, fun i j hi hj => ?_, fun i j hi hj => ?_, fun i j hi hj => ?_, fun i hi => (cl i hi).ext, fun i hi => (cl i hi).no, n2,
    He.free_ok X G (c.fact 42), He.free_ok X G (c.fact 43), He.free_ok X G (c.fact 44), He.free_ok X G (c.fact 45), He.free_ok X G (c.fact 46), He.free_ok X G (c.fact 47), He.free_ok X G (c.fact 48), He.free_ok X G (c.fact 49), He.free_ok X G (c.fact 50), He.free_ok X G (c.fact 51)⟩
  · match i, hi with
    | 0, _ => exact He.glo_ok X G (x := "BadRing") (c.fact 0)
    | 1, _ => exact He.glo_ok X G (x := "BadTable") (c.fact 1)
    | 2, _ => exact He.glo_ok X G (x := "BadWeight") (c.fact 2)
    | 3, _ => exact He.glo_ok X G (x := "BadLeading") (c.fact 3)
    | 4, _ => exact He.glo_ok X G (x := "BadNumber") (c.fact 4)
    | 5, _ => exact He.glo_ok X G (x := "BadWord") (c.fact 5)
    | 6, _ => exact He.glo_ok X G (x := "BadWeb") (c.fact 6)
    | 7, _ => exact He.glo_ok X G (x := "BadPath") (c.fact 7)
    | 8, _ => exact He.glo_ok X G (x := "BadAutomaton") (c.fact 8)
    | 9, _ => exact He.glo_ok X G (x := "BadExpression") (c.fact 9)
    | 10, _ => exact He.glo_ok X G (x := "BadTransducer") (c.fact 10)
    | 11, _ => exact He.glo_ok X G (x := "BadMachine") (c.fact 11)
    | 12, _ => exact He.glo_ok X G (x := "BadAnswer") (c.fact 12)
    | 13, _ => exact He.glo_ok X G (x := "BadName") (c.fact 13)
    | 14, _ => exact He.glo_ok X G (x := "BadDeed") (c.fact 14)
    | 15, _ => exact He.glo_ok X G (x := "BadLine") (c.fact 15)
    | 16, _ => exact He.glo_ok X G (x := "NoStar") (c.fact 16)
    | 17, _ => exact He.glo_ok X G (x := "NoOrder") (c.fact 17)
    | 18, _ => exact He.glo_ok X G (x := "NotClosed") (c.fact 18)
    | 19, _ => exact He.glo_ok X G (x := "NotFew") (c.fact 19)
    | 20, _ => exact He.glo_ok X G (x := "TooMany") (c.fact 20)
    | 21, _ => exact He.glo_ok X G (x := "NoName") (c.fact 21)
    | 22, _ => exact He.glo_ok X G (x := "Taken") (c.fact 22)
    | 23, _ => exact He.glo_ok X G (x := "InUse") (c.fact 23)
    | 24, _ => exact He.glo_ok X G (x := "Round") (c.fact 24)
    | 25, _ => exact He.glo_ok X G (x := "TooDeep") (c.fact 25)
    | 26, _ => exact He.glo_ok X G (x := "Nothing") (c.fact 26)
    | n + 27, z => exact absurd z (by omega)
  · match j, hj with
    | 0, _ => exact He.glo_ok X G (x := "Refused") (c.fact 27)
    | 1, _ => exact He.glo_ok X G (x := "Unreckoned") (c.fact 28)
    | 2, _ => exact He.glo_ok X G (x := "Unknown") (c.fact 29)
    | n + 3, z => exact absurd z (by omega)
  · match i, hi, h1 with
    | 0, _, _ => obtain ⟨fd, F⟩ := c.def_ 0 (d := dI0) rfl; exact ⟨_, fd, mk0 (cl 0 (by decide)) F⟩
    | 1, _, z => exact absurd rfl z
    | 2, _, _ => obtain ⟨fd, F⟩ := c.def_ 2 (d := dI2) rfl; exact ⟨_, fd, mk2 (cl 2 (by decide)) F⟩
    | 3, _, _ => obtain ⟨fd, F⟩ := c.def_ 3 (d := dI3) rfl; exact ⟨_, fd, mk3 (cl 3 (by decide)) F⟩
    | 4, _, _ => obtain ⟨fd, F⟩ := c.def_ 4 (d := dI4) rfl; exact ⟨_, fd, mk4 (cl 4 (by decide)) F⟩
    | 5, _, _ => obtain ⟨fd, F⟩ := c.def_ 5 (d := dI5) rfl; exact ⟨_, fd, mk5 (cl 5 (by decide)) F⟩
    | 6, _, _ => obtain ⟨fd, F⟩ := c.def_ 6 (d := dI6) rfl; exact ⟨_, fd, mk6 (cl 6 (by decide)) F⟩
    | 7, _, _ => obtain ⟨fd, F⟩ := c.def_ 7 (d := dI7) rfl; exact ⟨_, fd, mk7 (cl 7 (by decide)) F⟩
    | 8, _, _ => obtain ⟨fd, F⟩ := c.def_ 8 (d := dI8) rfl; exact ⟨_, fd, mk8 (cl 8 (by decide)) F⟩
    | 9, _, _ => obtain ⟨fd, F⟩ := c.def_ 9 (d := dI9) rfl; exact ⟨_, fd, mk9 (cl 9 (by decide)) F⟩
    | 10, _, _ => obtain ⟨fd, F⟩ := c.def_ 10 (d := dI10) rfl; exact ⟨_, fd, mk10 (cl 10 (by decide)) F⟩
    | 11, _, _ => obtain ⟨fd, F⟩ := c.def_ 11 (d := dI11) rfl; exact ⟨_, fd, mk11 (cl 11 (by decide)) F⟩
    | 12, _, _ => obtain ⟨fd, F⟩ := c.def_ 12 (d := dI12) rfl; exact ⟨_, fd, mk12 (cl 12 (by decide)) F⟩
    | 13, _, _ => obtain ⟨fd, F⟩ := c.def_ 13 (d := dI13) rfl; exact ⟨_, fd, mk13 (cl 13 (by decide)) F⟩
    | 14, _, _ => obtain ⟨fd, F⟩ := c.def_ 14 (d := dI14) rfl; exact ⟨_, fd, mk14 (cl 14 (by decide)) F⟩
    | 15, _, _ => obtain ⟨fd, F⟩ := c.def_ 15 (d := dI15) rfl; exact ⟨_, fd, mk15 (cl 15 (by decide)) F⟩
    | 16, _, _ => obtain ⟨fd, F⟩ := c.def_ 16 (d := dI16) rfl; exact ⟨_, fd, mk16 (cl 16 (by decide)) F⟩
    | 17, _, _ => obtain ⟨fd, F⟩ := c.def_ 17 (d := dI17) rfl; exact ⟨_, fd, mk17 (cl 17 (by decide)) F⟩
    | 18, _, _ => obtain ⟨fd, F⟩ := c.def_ 18 (d := dI18) rfl; exact ⟨_, fd, mk18 (cl 18 (by decide)) F⟩
    | 19, _, _ => obtain ⟨fd, F⟩ := c.def_ 19 (d := dI19) rfl; exact ⟨_, fd, mk19 (cl 19 (by decide)) F⟩
    | 20, _, _ => obtain ⟨fd, F⟩ := c.def_ 20 (d := dI20) rfl; exact ⟨_, fd, mk20 (cl 20 (by decide)) F⟩
    | 21, _, _ => obtain ⟨fd, F⟩ := c.def_ 21 (d := dI21) rfl; exact ⟨_, fd, mk21 (cl 21 (by decide)) F⟩
    | 22, _, _ => obtain ⟨fd, F⟩ := c.def_ 22 (d := dI22) rfl; exact ⟨_, fd, mk22 (cl 22 (by decide)) F⟩
    | 23, _, _ => obtain ⟨fd, F⟩ := c.def_ 23 (d := dI23) rfl; exact ⟨_, fd, mk23 (cl 23 (by decide)) F⟩
    | 24, _, _ => obtain ⟨fd, F⟩ := c.def_ 24 (d := dI24) rfl; exact ⟨_, fd, mk24 (cl 24 (by decide)) F⟩
    | 25, _, _ => obtain ⟨fd, F⟩ := c.def_ 25 (d := dI25) rfl; exact ⟨_, fd, mk25 (cl 25 (by decide)) F⟩
    | 26, _, _ => obtain ⟨fd, F⟩ := c.def_ 26 (d := dI26) rfl; exact ⟨_, fd, mk26 (cl 26 (by decide)) F⟩
    | n + 27, z, _ => exact absurd z (by omega)
  · obtain ⟨fd, F⟩ := c.def_ 1 (d := dI1) rfl
    exact ⟨_, fd, mk1 (cl 1 (by decide)) n2 F⟩
  · exact of_decide_eq_true (List.all_eq_true.mp (more_at hm hi).2.1 j (lt_mem hj))
  · exact of_decide_eq_true (List.all_eq_true.mp (more_at hm hi).2.2.1 j (lt_mem hj))
  · exact of_decide_eq_true (List.all_eq_true.mp (more_at hm hi).2.2.2 j (lt_mem hj))
end
end K01
namespace K01
open PySem PySem.Spec PyProof.Rows L2 J
/-- the place of a class by its name -/
def ixOf (x : Str) : Option Nat := nms.findIdx? (· == x)
theorem ixOf_ok {x : Str} {i : Nat} (h : ixOf x = some i) : i < 27 ∧ nm i = x := by
  unfold ixOf at h
  obtain ⟨hl, h1, _⟩ := List.findIdx?_eq_some_iff_getElem.mp h
  have hl' : i < 27 := hl
  refine ⟨hl', ?_⟩
  unfold nm
  rw [List.getD_eq_getElem?_getD, List.getElem?_eq_getElem hl]
  exact beq_iff_eq.mp h1
/-- a family, one of Python's own -/
def fix : J.W → Option Nat
  | .gl x => if x = "Refused" then some 0 else if x = "Unreckoned" then some 2 else if x = "Unknown" then some 4 else none
  | .ty t => if t = "ValueError" then some 1 else if t = "ArithmeticError" then some 3 else if t = "LookupError" then some 5 else if t = "KeyError" then some 6 else if t = "IndexError" then some 7 else if t = "ZeroDivisionError" then some 8 else none
  | _ => none
def kit : Kit := fun t c => match t with
  | .gl C => (match ixOf C with
    | some i => (match fix c with
      | some j => some ((fdue i).getD j false)
      | none => (match c with
        | .gl D => (ixOf D).map fun j => decide (i = j)
        | _ => none))
    | none => none)
  | _ => none
def famX (x : Str) : Option Nat := if x = "Refused" then some 0 else if x = "Unreckoned" then some 1 else if x = "Unknown" then some 2 else none
def exm (C : Str) (c : J.W) : Option Bool := match ixOf C, c with
  | some i, .gl x => (famX x).map fun j => decide (fam i = j)
  | _, _ => none
def xc (C : Str) : Bool := (ixOf C).isSome
def fldx (f C : Str) : Bool := match ixOf C with
  | some i => fl i == f || (i == 1 && f == "things")
  | none => false
def noI (_ : Str) : Bool := false
structure TJ (P : Program) (w : World) (K : PySem.W.Frag) (mg : Str → Option Value) (base : Heap) : Prop extends Tx P w K mg base where
  c : He.SaysX fa fn more K
  mMixed : mg "_law_mixed" = some (.ref (cA K "_law_mixed"))
  mRaiseOne : mg "_law_raise_one" = some (.ref (cA K "_law_raise_one"))
  mRaiseTwo : mg "_law_raise_two" = some (.ref (cA K "_law_raise_two"))
  mRaiseThree : mg "_law_raise_three" = some (.ref (cA K "_law_raise_three"))
  mByNames : mg "_law_by_names" = some (.ref (cA K "_law_by_names"))
  mRaised : mg "_law_raised" = some (.ref (cA K "_law_raised"))
  mKinds : mg "_law_kinds" = some (.ref (cA K "_law_kinds"))
  mFamilies : mg "_law_families" = some (.ref (cA K "_law_families"))
  mFields : mg "_law_fields" = some (.ref (cA K "_law_fields"))
  mIsRight : mg "_law_is_right" = some (.ref (cA K "_law_is_right"))
  mThing : mg "_law_thing" = some (.ref (cA K "_law_thing"))
  mLaw : mg "law" = some (.ref (cA K "law"))
section
variable {P : Program} {w : World} {K : PySem.W.Frag} {mg : Str → Option Value} {base : Heap}
theorem fix_ok {c : J.W} {j : Nat} (h : fix c = some j) : j < 9 ∧ tagV K c = (fcls K).getD j .none := by
  unfold fix at h
  split at h
  · split at h
    · rename_i e; subst e; cases h; exact ⟨by decide, rfl⟩
    · split at h
      · rename_i e; subst e; cases h; exact ⟨by decide, rfl⟩
      · split at h
        · rename_i e; subst e; cases h; exact ⟨by decide, rfl⟩
        · cases h
  · repeat (split at h; · (rename_i e; subst e; cases h; exact ⟨by decide, rfl⟩))
    cases h
  · cases h
theorem famX_ok {x : Str} {j : Nat} (h : famX x = some j) : j < 3 ∧ famN j = x := by
  unfold famX at h
  repeat (split at h; · (rename_i e; subst e; cases h; exact ⟨by decide, rfl⟩))
  cases h
theorem kit_ok (T : Tx P w K mg base) : KitOk K kit := by
  intro t u b h
  unfold kit at h
  split at h
  · rename_i C
    split at h
    · rename_i i hi
      obtain ⟨li, ni⟩ := ixOf_ok hi
      subst ni
      split at h
      · rename_i j hj
        obtain ⟨lj, ej⟩ := fix_ok (K := K) hj
        rw [ej]
        cases h
        exact T.famk i j li lj
      · split at h
        · rename_i _ D _
          cases hD : ixOf D with
          | none => rw [hD] at h; cases h
          | some j =>
            rw [hD] at h
            cases h
            obtain ⟨lj, nj⟩ := ixOf_ok hD
            subst nj
            exact T.kit i j li lj
        · cases h
    · cases h
  · cases h
theorem exm_ok (T : Tx P w K mg base) : ∀ C c b, exm C c = some b → PySem.W.exmOne K (.ref (cA K C)) (tagV K c) = some b := by
  intro C c b h
  unfold exm at h
  split at h
  · rename_i i x hi
    obtain ⟨li, ni⟩ := ixOf_ok hi
    subst ni
    cases hx : famX x with
    | none => rw [hx] at h; cases h
    | some j =>
      rw [hx] at h
      cases h
      obtain ⟨lj, nj⟩ := famX_ok hx
      subst nj
      exact T.exm i j li lj
  · cases h
theorem xc_ok (T : Tx P w K mg base) : ∀ C, xc C = true → ExT K (cA K C) := by
  intro C h
  obtain ⟨i, hi⟩ := Option.isSome_iff_exists.mp h
  obtain ⟨li, ni⟩ := ixOf_ok hi
  subst ni
  exact T.ext i li
theorem fldx_ok (T : Tx P w K mg base) (f : Str) : ∀ C, fldx f C = true → ExT K (cA K C) ∧ PySem.W.findIn K (.ref (cA K C)) f = some none := by
  intro C h
  unfold fldx at h
  split at h
  · rename_i i hi
    obtain ⟨li, ni⟩ := ixOf_ok hi
    subst ni
    refine ⟨T.ext i li, ?_⟩
    rcases Bool.or_eq_true_iff.mp h with q | q
    · rw [← beq_iff_eq.mp q]; exact T.no i li
    · obtain ⟨q1, q2⟩ := Bool.and_eq_true_iff.mp q
      rw [beq_iff_eq.mp q1, beq_iff_eq.mp q2]
      exact T.no2
  · cases h
theorem noI_cls (f : Str) : ∀ C, noI C = true → Cls K (cA K C) ∧ NoAttr K (cA K C) f := fun _ h => by cases h
theorem noI_in : ∀ C, noI C = true → InT K (cA K C) := fun _ h => by cases h
theorem xf0 (T : Tx P w K mg base) : Xf P w K mg base "BadRing" "what" := ⟨T.ex1 0 (by decide) (by decide), T.mgC 0 (by decide)⟩
theorem xf1 (T : Tx P w K mg base) : Xf2 P w K mg base "BadTable" "rule" "things" := ⟨T.ex2, T.mgC 1 (by decide)⟩
theorem xf2 (T : Tx P w K mg base) : Xf P w K mg base "BadWeight" "why" := ⟨T.ex1 2 (by decide) (by decide), T.mgC 2 (by decide)⟩
theorem xf3 (T : Tx P w K mg base) : Xf P w K mg base "BadLeading" "why" := ⟨T.ex1 3 (by decide) (by decide), T.mgC 3 (by decide)⟩
theorem xf4 (T : Tx P w K mg base) : Xf P w K mg base "BadNumber" "why" := ⟨T.ex1 4 (by decide) (by decide), T.mgC 4 (by decide)⟩
theorem xf5 (T : Tx P w K mg base) : Xf P w K mg base "BadWord" "why" := ⟨T.ex1 5 (by decide) (by decide), T.mgC 5 (by decide)⟩
theorem xf6 (T : Tx P w K mg base) : Xf P w K mg base "BadWeb" "why" := ⟨T.ex1 6 (by decide) (by decide), T.mgC 6 (by decide)⟩
theorem xf7 (T : Tx P w K mg base) : Xf P w K mg base "BadPath" "why" := ⟨T.ex1 7 (by decide) (by decide), T.mgC 7 (by decide)⟩
theorem xf8 (T : Tx P w K mg base) : Xf P w K mg base "BadAutomaton" "why" := ⟨T.ex1 8 (by decide) (by decide), T.mgC 8 (by decide)⟩
theorem xf9 (T : Tx P w K mg base) : Xf P w K mg base "BadExpression" "why" := ⟨T.ex1 9 (by decide) (by decide), T.mgC 9 (by decide)⟩
theorem xf10 (T : Tx P w K mg base) : Xf P w K mg base "BadTransducer" "why" := ⟨T.ex1 10 (by decide) (by decide), T.mgC 10 (by decide)⟩
theorem xf11 (T : Tx P w K mg base) : Xf P w K mg base "BadMachine" "why" := ⟨T.ex1 11 (by decide) (by decide), T.mgC 11 (by decide)⟩
theorem xf12 (T : Tx P w K mg base) : Xf P w K mg base "BadAnswer" "why" := ⟨T.ex1 12 (by decide) (by decide), T.mgC 12 (by decide)⟩
theorem xf13 (T : Tx P w K mg base) : Xf P w K mg base "BadName" "why" := ⟨T.ex1 13 (by decide) (by decide), T.mgC 13 (by decide)⟩
theorem xf14 (T : Tx P w K mg base) : Xf P w K mg base "BadDeed" "why" := ⟨T.ex1 14 (by decide) (by decide), T.mgC 14 (by decide)⟩
theorem xf15 (T : Tx P w K mg base) : Xf P w K mg base "BadLine" "line" := ⟨T.ex1 15 (by decide) (by decide), T.mgC 15 (by decide)⟩
theorem xf16 (T : Tx P w K mg base) : Xf P w K mg base "NoStar" "why" := ⟨T.ex1 16 (by decide) (by decide), T.mgC 16 (by decide)⟩
theorem xf17 (T : Tx P w K mg base) : Xf P w K mg base "NoOrder" "step" := ⟨T.ex1 17 (by decide) (by decide), T.mgC 17 (by decide)⟩
theorem xf18 (T : Tx P w K mg base) : Xf P w K mg base "NotClosed" "why" := ⟨T.ex1 18 (by decide) (by decide), T.mgC 18 (by decide)⟩
theorem xf19 (T : Tx P w K mg base) : Xf P w K mg base "NotFew" "why" := ⟨T.ex1 19 (by decide) (by decide), T.mgC 19 (by decide)⟩
theorem xf20 (T : Tx P w K mg base) : Xf P w K mg base "TooMany" "most" := ⟨T.ex1 20 (by decide) (by decide), T.mgC 20 (by decide)⟩
theorem xf21 (T : Tx P w K mg base) : Xf P w K mg base "NoName" "name" := ⟨T.ex1 21 (by decide) (by decide), T.mgC 21 (by decide)⟩
theorem xf22 (T : Tx P w K mg base) : Xf P w K mg base "Taken" "name" := ⟨T.ex1 22 (by decide) (by decide), T.mgC 22 (by decide)⟩
theorem xf23 (T : Tx P w K mg base) : Xf P w K mg base "InUse" "users" := ⟨T.ex1 23 (by decide) (by decide), T.mgC 23 (by decide)⟩
theorem xf24 (T : Tx P w K mg base) : Xf P w K mg base "Round" "circle" := ⟨T.ex1 24 (by decide) (by decide), T.mgC 24 (by decide)⟩
theorem xf25 (T : Tx P w K mg base) : Xf P w K mg base "TooDeep" "name" := ⟨T.ex1 25 (by decide) (by decide), T.mgC 25 (by decide)⟩
theorem xf26 (T : Tx P w K mg base) : Xf P w K mg base "Nothing" "why" := ⟨T.ex1 26 (by decide) (by decide), T.mgC 26 (by decide)⟩
def mMixed : MS :=
  (sSeq (sSet 2 (mOp modW (mOp mulW (mOp addW (mOp addW (mOp addW (mOp modW (mVar 0) (mC (.int 2147483629))) (mOp mulW (mOp mulW (mC (.int 7919)) (mVar 1)) (mVar 1))) (mOp mulW (mC (.int 104729)) (mVar 1))) (mC (.int 17))) (mC (.int 48271))) (mC (.int 2147483647))))
  (sRet (mOp divW (mOp modW (mOp mulW (mVar 2) (mOp addW (mOp addW (mVar 2) (mOp mulW (mC (.int 2)) (mVar 1))) (mC (.int 5)))) (mC (.int 2147483629))) (mC (.int 16)))))
theorem scMixed : FnScope ["_law_cell", "_law_k", "_law_number"] ["_law_cell", "_law_k"] (defScope sMixed) := ⟨rfl, rfl, rfl, by decide +kernel, rfl, by decide +kernel, by decide +kernel⟩
def bMixed : Fn := fnB 2 3 mMixed
theorem gMixed {f : Addr} {fd : FuncData} (T : TJ P w K mg base) (F : FnA K "_law_mixed" "_law_mixed" sMixed f fd) : GOk P w K mg base (L2.CX P w) 1 f fd ["_law_cell", "_law_k"] (spOf K bMixed) :=
  fn_ok F scMixed fun cdv A outer s H E hG hr =>
  (jb_cons (js_set (ps_set (i := 2) scMixed.nd rfl (Or.inl rfl) ((je_mod (je_mul (je_add (je_add (je_add (je_mod (je_var (pv 0)) je_int) (je_mul (je_mul je_int (je_var (pv 1))) (je_var (pv 1)))) (je_mul je_int (je_var (pv 1)))) je_int) je_int) je_int)).pe))
  (jb_one (js_ret (je_div (je_mod (je_mul (je_var (pv 2)) (je_add (je_add (je_var (pv 2)) (je_mul je_int (je_var (pv 1)))) je_int)) je_int) je_int))))
theorem fMixed (T : TJ P w K mg base) : Df P w K mg base 1 "_law_mixed" [] bMixed := by
  obtain ⟨fd, F⟩ := T.c.def_ 27 (d := dMixed) rfl
  exact ⟨fd, ["_law_cell", "_law_k"], [], [], gMixed T F, T.mMixed, F.kp, F.bindsN fun _ _ _ _ _ _ us hl => match us, hl with | [_, _], _ => rfl, .nil, fun _ => .nil⟩
def mRaiseOne : MS :=
  (sSeq (sIf (mBo (mOp eqW (mVar 0) (mC (.int 0)))) (sRz "BadRing" "what" (mVar 1)) sPass)
  (sSeq (sIf (mBo (mOp eqW (mVar 0) (mC (.int 1)))) (sRz2 "BadTable" "rule" "things" (mVar 1) (mVar 2)) sPass)
  (sSeq (sIf (mBo (mOp eqW (mVar 0) (mC (.int 2)))) (sRz "BadWeight" "why" (mVar 1)) sPass)
  (sSeq (sIf (mBo (mOp eqW (mVar 0) (mC (.int 3)))) (sRz "BadLeading" "why" (mVar 1)) sPass)
  (sSeq (sIf (mBo (mOp eqW (mVar 0) (mC (.int 4)))) (sRz "BadNumber" "why" (mVar 1)) sPass)
  (sSeq (sIf (mBo (mOp eqW (mVar 0) (mC (.int 5)))) (sRz "BadWord" "why" (mVar 1)) sPass)
  (sSeq (sIf (mBo (mOp eqW (mVar 0) (mC (.int 6)))) (sRz "BadWeb" "why" (mVar 1)) sPass)
  (sSeq (sIf (mBo (mOp eqW (mVar 0) (mC (.int 7)))) (sRz "BadPath" "why" (mVar 1)) sPass)
  (sRz "BadAutomaton" "why" (mVar 1))))))))))
theorem scRaiseOne : FnScope ["_law_way", "_law_this", "_law_that"] ["_law_way", "_law_this", "_law_that"] (defScope sRaiseOne) := ⟨rfl, rfl, rfl, by decide +kernel, rfl, by decide +kernel, by decide +kernel⟩
def bRaiseOne : Fn := fnB 3 3 mRaiseOne
theorem gRaiseOne {f : Addr} {fd : FuncData} (T : TJ P w K mg base) (F : FnA K "_law_raise_one" "_law_raise_one" sRaiseOne f fd) : GOk P w K mg base (L2.CX P w) 3 f fd ["_law_way", "_law_this", "_law_that"] (spOf K bRaiseOne) :=
  fn_ok F scRaiseOne fun cdv A outer s H E hG hr =>
  (jb_cons (js_if (jt_eq (hu64 hr) (je_var (pv 0)) je_int) (jb_one (js_raise (xf0 T.toTx) rfl (hr.mono (by decide)) (by rfl) (takes_of rfl rfl rfl rfl) (je_var (pv 1)))) jb_nil)
  (jb_cons (js_if (jt_eq (hu64 hr) (je_var (pv 0)) je_int) (jb_one (js_raise2 (xf1 T.toTx) rfl (hr.mono (by decide)) (by rfl) (takes_of rfl rfl rfl rfl) (je_var (pv 1)) (je_var (pv 2)))) jb_nil)
  (jb_cons (js_if (jt_eq (hu64 hr) (je_var (pv 0)) je_int) (jb_one (js_raise (xf2 T.toTx) rfl (hr.mono (by decide)) (by rfl) (takes_of rfl rfl rfl rfl) (je_var (pv 1)))) jb_nil)
  (jb_cons (js_if (jt_eq (hu64 hr) (je_var (pv 0)) je_int) (jb_one (js_raise (xf3 T.toTx) rfl (hr.mono (by decide)) (by rfl) (takes_of rfl rfl rfl rfl) (je_var (pv 1)))) jb_nil)
  (jb_cons (js_if (jt_eq (hu64 hr) (je_var (pv 0)) je_int) (jb_one (js_raise (xf4 T.toTx) rfl (hr.mono (by decide)) (by rfl) (takes_of rfl rfl rfl rfl) (je_var (pv 1)))) jb_nil)
  (jb_cons (js_if (jt_eq (hu64 hr) (je_var (pv 0)) je_int) (jb_one (js_raise (xf5 T.toTx) rfl (hr.mono (by decide)) (by rfl) (takes_of rfl rfl rfl rfl) (je_var (pv 1)))) jb_nil)
  (jb_cons (js_if (jt_eq (hu64 hr) (je_var (pv 0)) je_int) (jb_one (js_raise (xf6 T.toTx) rfl (hr.mono (by decide)) (by rfl) (takes_of rfl rfl rfl rfl) (je_var (pv 1)))) jb_nil)
  (jb_cons (js_if (jt_eq (hu64 hr) (je_var (pv 0)) je_int) (jb_one (js_raise (xf7 T.toTx) rfl (hr.mono (by decide)) (by rfl) (takes_of rfl rfl rfl rfl) (je_var (pv 1)))) jb_nil)
  (jb_one (js_raise (xf8 T.toTx) rfl (hr.mono (by decide)) (by rfl) (takes_of rfl rfl rfl rfl) (je_var (pv 1))))))))))))
theorem fRaiseOne (T : TJ P w K mg base) : Df P w K mg base 3 "_law_raise_one" [] bRaiseOne := by
  obtain ⟨fd, F⟩ := T.c.def_ 28 (d := dRaiseOne) rfl
  exact ⟨fd, ["_law_way", "_law_this", "_law_that"], [], [], gRaiseOne T F, T.mRaiseOne, F.kp, F.bindsN fun _ _ _ _ _ _ us hl => match us, hl with | [_, _, _], _ => rfl, .nil, fun _ => .nil⟩
def mRaiseTwo : MS :=
  (sSeq (sIf (mBo (mOp eqW (mVar 0) (mC (.int 9)))) (sRz "BadExpression" "why" (mVar 1)) sPass)
  (sSeq (sIf (mBo (mOp eqW (mVar 0) (mC (.int 10)))) (sRz "BadTransducer" "why" (mVar 1)) sPass)
  (sSeq (sIf (mBo (mOp eqW (mVar 0) (mC (.int 11)))) (sRz "BadMachine" "why" (mVar 1)) sPass)
  (sSeq (sIf (mBo (mOp eqW (mVar 0) (mC (.int 12)))) (sRz "BadAnswer" "why" (mVar 1)) sPass)
  (sSeq (sIf (mBo (mOp eqW (mVar 0) (mC (.int 13)))) (sRz "BadName" "why" (mVar 1)) sPass)
  (sSeq (sIf (mBo (mOp eqW (mVar 0) (mC (.int 14)))) (sRz "BadDeed" "why" (mVar 1)) sPass)
  (sSeq (sIf (mBo (mOp eqW (mVar 0) (mC (.int 15)))) (sRz "BadLine" "line" (mVar 1)) sPass)
  (sSeq (sIf (mBo (mOp eqW (mVar 0) (mC (.int 16)))) (sRz "NoStar" "why" (mVar 1)) sPass)
  (sRz "NoOrder" "step" (mVar 1))))))))))
theorem scRaiseTwo : FnScope ["_law_way", "_law_this"] ["_law_way", "_law_this"] (defScope sRaiseTwo) := ⟨rfl, rfl, rfl, by decide +kernel, rfl, by decide +kernel, by decide +kernel⟩
def bRaiseTwo : Fn := fnB 2 2 mRaiseTwo
theorem gRaiseTwo {f : Addr} {fd : FuncData} (T : TJ P w K mg base) (F : FnA K "_law_raise_two" "_law_raise_two" sRaiseTwo f fd) : GOk P w K mg base (L2.CX P w) 3 f fd ["_law_way", "_law_this"] (spOf K bRaiseTwo) :=
  fn_ok F scRaiseTwo fun cdv A outer s H E hG hr =>
  (jb_cons (js_if (jt_eq (hu64 hr) (je_var (pv 0)) je_int) (jb_one (js_raise (xf9 T.toTx) rfl (hr.mono (by decide)) (by rfl) (takes_of rfl rfl rfl rfl) (je_var (pv 1)))) jb_nil)
  (jb_cons (js_if (jt_eq (hu64 hr) (je_var (pv 0)) je_int) (jb_one (js_raise (xf10 T.toTx) rfl (hr.mono (by decide)) (by rfl) (takes_of rfl rfl rfl rfl) (je_var (pv 1)))) jb_nil)
  (jb_cons (js_if (jt_eq (hu64 hr) (je_var (pv 0)) je_int) (jb_one (js_raise (xf11 T.toTx) rfl (hr.mono (by decide)) (by rfl) (takes_of rfl rfl rfl rfl) (je_var (pv 1)))) jb_nil)
  (jb_cons (js_if (jt_eq (hu64 hr) (je_var (pv 0)) je_int) (jb_one (js_raise (xf12 T.toTx) rfl (hr.mono (by decide)) (by rfl) (takes_of rfl rfl rfl rfl) (je_var (pv 1)))) jb_nil)
  (jb_cons (js_if (jt_eq (hu64 hr) (je_var (pv 0)) je_int) (jb_one (js_raise (xf13 T.toTx) rfl (hr.mono (by decide)) (by rfl) (takes_of rfl rfl rfl rfl) (je_var (pv 1)))) jb_nil)
  (jb_cons (js_if (jt_eq (hu64 hr) (je_var (pv 0)) je_int) (jb_one (js_raise (xf14 T.toTx) rfl (hr.mono (by decide)) (by rfl) (takes_of rfl rfl rfl rfl) (je_var (pv 1)))) jb_nil)
  (jb_cons (js_if (jt_eq (hu64 hr) (je_var (pv 0)) je_int) (jb_one (js_raise (xf15 T.toTx) rfl (hr.mono (by decide)) (by rfl) (takes_of rfl rfl rfl rfl) (je_var (pv 1)))) jb_nil)
  (jb_cons (js_if (jt_eq (hu64 hr) (je_var (pv 0)) je_int) (jb_one (js_raise (xf16 T.toTx) rfl (hr.mono (by decide)) (by rfl) (takes_of rfl rfl rfl rfl) (je_var (pv 1)))) jb_nil)
  (jb_one (js_raise (xf17 T.toTx) rfl (hr.mono (by decide)) (by rfl) (takes_of rfl rfl rfl rfl) (je_var (pv 1))))))))))))
theorem fRaiseTwo (T : TJ P w K mg base) : Df P w K mg base 3 "_law_raise_two" [] bRaiseTwo := by
  obtain ⟨fd, F⟩ := T.c.def_ 29 (d := dRaiseTwo) rfl
  exact ⟨fd, ["_law_way", "_law_this"], [], [], gRaiseTwo T F, T.mRaiseTwo, F.kp, F.bindsN fun _ _ _ _ _ _ us hl => match us, hl with | [_, _], _ => rfl, .nil, fun _ => .nil⟩
def mRaiseThree : MS :=
  (sSeq (sIf (mBo (mOp eqW (mVar 0) (mC (.int 18)))) (sRz "NotClosed" "why" (mVar 1)) sPass)
  (sSeq (sIf (mBo (mOp eqW (mVar 0) (mC (.int 19)))) (sRz "NotFew" "why" (mVar 1)) sPass)
  (sSeq (sIf (mBo (mOp eqW (mVar 0) (mC (.int 20)))) (sRz "TooMany" "most" (mVar 1)) sPass)
  (sSeq (sIf (mBo (mOp eqW (mVar 0) (mC (.int 21)))) (sRz "NoName" "name" (mVar 1)) sPass)
  (sSeq (sIf (mBo (mOp eqW (mVar 0) (mC (.int 22)))) (sRz "Taken" "name" (mVar 1)) sPass)
  (sSeq (sIf (mBo (mOp eqW (mVar 0) (mC (.int 23)))) (sRz "InUse" "users" (mVar 1)) sPass)
  (sSeq (sIf (mBo (mOp eqW (mVar 0) (mC (.int 24)))) (sRz "Round" "circle" (mVar 1)) sPass)
  (sSeq (sIf (mBo (mOp eqW (mVar 0) (mC (.int 25)))) (sRz "TooDeep" "name" (mVar 1)) sPass)
  (sRz "Nothing" "why" (mVar 1))))))))))
theorem scRaiseThree : FnScope ["_law_way", "_law_this"] ["_law_way", "_law_this"] (defScope sRaiseThree) := ⟨rfl, rfl, rfl, by decide +kernel, rfl, by decide +kernel, by decide +kernel⟩
def bRaiseThree : Fn := fnB 2 2 mRaiseThree
theorem gRaiseThree {f : Addr} {fd : FuncData} (T : TJ P w K mg base) (F : FnA K "_law_raise_three" "_law_raise_three" sRaiseThree f fd) : GOk P w K mg base (L2.CX P w) 3 f fd ["_law_way", "_law_this"] (spOf K bRaiseThree) :=
  fn_ok F scRaiseThree fun cdv A outer s H E hG hr =>
  (jb_cons (js_if (jt_eq (hu64 hr) (je_var (pv 0)) je_int) (jb_one (js_raise (xf18 T.toTx) rfl (hr.mono (by decide)) (by rfl) (takes_of rfl rfl rfl rfl) (je_var (pv 1)))) jb_nil)
  (jb_cons (js_if (jt_eq (hu64 hr) (je_var (pv 0)) je_int) (jb_one (js_raise (xf19 T.toTx) rfl (hr.mono (by decide)) (by rfl) (takes_of rfl rfl rfl rfl) (je_var (pv 1)))) jb_nil)
  (jb_cons (js_if (jt_eq (hu64 hr) (je_var (pv 0)) je_int) (jb_one (js_raise (xf20 T.toTx) rfl (hr.mono (by decide)) (by rfl) (takes_of rfl rfl rfl rfl) (je_var (pv 1)))) jb_nil)
  (jb_cons (js_if (jt_eq (hu64 hr) (je_var (pv 0)) je_int) (jb_one (js_raise (xf21 T.toTx) rfl (hr.mono (by decide)) (by rfl) (takes_of rfl rfl rfl rfl) (je_var (pv 1)))) jb_nil)
  (jb_cons (js_if (jt_eq (hu64 hr) (je_var (pv 0)) je_int) (jb_one (js_raise (xf22 T.toTx) rfl (hr.mono (by decide)) (by rfl) (takes_of rfl rfl rfl rfl) (je_var (pv 1)))) jb_nil)
  (jb_cons (js_if (jt_eq (hu64 hr) (je_var (pv 0)) je_int) (jb_one (js_raise (xf23 T.toTx) rfl (hr.mono (by decide)) (by rfl) (takes_of rfl rfl rfl rfl) (je_var (pv 1)))) jb_nil)
  (jb_cons (js_if (jt_eq (hu64 hr) (je_var (pv 0)) je_int) (jb_one (js_raise (xf24 T.toTx) rfl (hr.mono (by decide)) (by rfl) (takes_of rfl rfl rfl rfl) (je_var (pv 1)))) jb_nil)
  (jb_cons (js_if (jt_eq (hu64 hr) (je_var (pv 0)) je_int) (jb_one (js_raise (xf25 T.toTx) rfl (hr.mono (by decide)) (by rfl) (takes_of rfl rfl rfl rfl) (je_var (pv 1)))) jb_nil)
  (jb_one (js_raise (xf26 T.toTx) rfl (hr.mono (by decide)) (by rfl) (takes_of rfl rfl rfl rfl) (je_var (pv 1))))))))))))
theorem fRaiseThree (T : TJ P w K mg base) : Df P w K mg base 3 "_law_raise_three" [] bRaiseThree := by
  obtain ⟨fd, F⟩ := T.c.def_ 30 (d := dRaiseThree) rfl
  exact ⟨fd, ["_law_way", "_law_this"], [], [], gRaiseThree T F, T.mRaiseThree, F.kp, F.bindsN fun _ _ _ _ _ _ us hl => match us, hl with | [_, _], _ => rfl, .nil, fun _ => .nil⟩
def mByNames : MS :=
  (sSeq (sSet 2 (mLst (aCons (mXk1 "BadRing" "what" (aCons (mVar 0) aNil)) (aCons (mXk2 "BadTable" "rule" "things" (aCons (mVar 1) (aCons (mVar 0) aNil))) (aCons (mXk1 "BadWeight" "why" (aCons (mVar 0) aNil)) (aCons (mXk1 "BadLeading" "why" (aCons (mVar 0) aNil)) aNil))))))
  (sSeq (sSet 2 (mOp addW (mVar 2) (mLst (aCons (mXk1 "BadNumber" "why" (aCons (mVar 0) aNil)) (aCons (mXk1 "BadWord" "why" (aCons (mVar 0) aNil)) (aCons (mXk1 "BadWeb" "why" (aCons (mVar 0) aNil)) (aCons (mXk1 "BadPath" "why" (aCons (mVar 0) aNil)) (aCons (mXk1 "BadAutomaton" "why" (aCons (mVar 0) aNil)) aNil))))))))
  (sSeq (sSet 2 (mOp addW (mVar 2) (mLst (aCons (mXk1 "BadExpression" "why" (aCons (mVar 0) aNil)) (aCons (mXk1 "BadTransducer" "why" (aCons (mVar 0) aNil)) (aCons (mXk1 "BadMachine" "why" (aCons (mVar 0) aNil)) (aCons (mXk1 "BadAnswer" "why" (aCons (mVar 0) aNil)) aNil)))))))
  (sSeq (sSet 2 (mOp addW (mVar 2) (mLst (aCons (mXk1 "BadName" "why" (aCons (mVar 0) aNil)) (aCons (mXk1 "BadDeed" "why" (aCons (mVar 0) aNil)) (aCons (mXk1 "BadLine" "line" (aCons (mVar 0) aNil)) (aCons (mXk1 "NoStar" "why" (aCons (mVar 0) aNil)) (aCons (mXk1 "NoOrder" "step" (aCons (mVar 0) aNil)) aNil))))))))
  (sSeq (sSet 2 (mOp addW (mVar 2) (mLst (aCons (mXk1 "NotClosed" "why" (aCons (mVar 0) aNil)) (aCons (mXk1 "NotFew" "why" (aCons (mVar 0) aNil)) (aCons (mXk1 "TooMany" "most" (aCons (mVar 0) aNil)) (aCons (mXk1 "NoName" "name" (aCons (mVar 0) aNil)) (aCons (mXk1 "Taken" "name" (aCons (mVar 0) aNil)) aNil))))))))
  (sRet (mOp addW (mVar 2) (mLst (aCons (mXk1 "InUse" "users" (aCons (mVar 0) aNil)) (aCons (mXk1 "Round" "circle" (aCons (mVar 0) aNil)) (aCons (mXk1 "TooDeep" "name" (aCons (mVar 0) aNil)) (aCons (mXk1 "Nothing" "why" (aCons (mVar 0) aNil)) aNil))))))))))))
theorem scByNames : FnScope ["_law_this", "_law_that", "_law_some"] ["_law_this", "_law_that"] (defScope sByNames) := ⟨rfl, rfl, rfl, by decide +kernel, rfl, by decide +kernel, by decide +kernel⟩
def bByNames : Fn := fnB 2 3 mByNames
theorem gByNames {f : Addr} {fd : FuncData} (T : TJ P w K mg base) (F : FnA K "_law_by_names" "_law_by_names" sByNames f fd) : GOk P w K mg base (L2.CX P w) 3 f fd ["_law_this", "_law_that"] (spOf K bByNames) :=
  fn_ok F scByNames fun cdv A outer s H E hG hr =>
  (jb_cons (js_set (ps_set (i := 2) scByNames.nd rfl (Or.inl rfl) ((JO.je (jo_lst (ja_cons (je_xk1 (xf0 T.toTx) (hr.mono (by decide)) (by rfl) (jk_cons (je_var (pv 0)) jk_nil)) (ja_cons (je_xk2 (xf1 T.toTx) (hr.mono (by decide)) (by rfl) (jk_cons (je_var (pv 1)) (jk_cons (je_var (pv 0)) jk_nil))) (ja_cons (je_xk1 (xf2 T.toTx) (hr.mono (by decide)) (by rfl) (jk_cons (je_var (pv 0)) jk_nil)) (ja_cons (je_xk1 (xf3 T.toTx) (hr.mono (by decide)) (by rfl) (jk_cons (je_var (pv 0)) jk_nil)) ja_nil))))))).pe))
  (jb_cons (js_set (ps_set (i := 2) scByNames.nd rfl (Or.inl rfl) ((je_add (je_var (pv 2)) (JO.je (jo_lst (ja_cons (je_xk1 (xf4 T.toTx) (hr.mono (by decide)) (by rfl) (jk_cons (je_var (pv 0)) jk_nil)) (ja_cons (je_xk1 (xf5 T.toTx) (hr.mono (by decide)) (by rfl) (jk_cons (je_var (pv 0)) jk_nil)) (ja_cons (je_xk1 (xf6 T.toTx) (hr.mono (by decide)) (by rfl) (jk_cons (je_var (pv 0)) jk_nil)) (ja_cons (je_xk1 (xf7 T.toTx) (hr.mono (by decide)) (by rfl) (jk_cons (je_var (pv 0)) jk_nil)) (ja_cons (je_xk1 (xf8 T.toTx) (hr.mono (by decide)) (by rfl) (jk_cons (je_var (pv 0)) jk_nil)) ja_nil))))))))).pe))
  (jb_cons (js_set (ps_set (i := 2) scByNames.nd rfl (Or.inl rfl) ((je_add (je_var (pv 2)) (JO.je (jo_lst (ja_cons (je_xk1 (xf9 T.toTx) (hr.mono (by decide)) (by rfl) (jk_cons (je_var (pv 0)) jk_nil)) (ja_cons (je_xk1 (xf10 T.toTx) (hr.mono (by decide)) (by rfl) (jk_cons (je_var (pv 0)) jk_nil)) (ja_cons (je_xk1 (xf11 T.toTx) (hr.mono (by decide)) (by rfl) (jk_cons (je_var (pv 0)) jk_nil)) (ja_cons (je_xk1 (xf12 T.toTx) (hr.mono (by decide)) (by rfl) (jk_cons (je_var (pv 0)) jk_nil)) ja_nil)))))))).pe))
  (jb_cons (js_set (ps_set (i := 2) scByNames.nd rfl (Or.inl rfl) ((je_add (je_var (pv 2)) (JO.je (jo_lst (ja_cons (je_xk1 (xf13 T.toTx) (hr.mono (by decide)) (by rfl) (jk_cons (je_var (pv 0)) jk_nil)) (ja_cons (je_xk1 (xf14 T.toTx) (hr.mono (by decide)) (by rfl) (jk_cons (je_var (pv 0)) jk_nil)) (ja_cons (je_xk1 (xf15 T.toTx) (hr.mono (by decide)) (by rfl) (jk_cons (je_var (pv 0)) jk_nil)) (ja_cons (je_xk1 (xf16 T.toTx) (hr.mono (by decide)) (by rfl) (jk_cons (je_var (pv 0)) jk_nil)) (ja_cons (je_xk1 (xf17 T.toTx) (hr.mono (by decide)) (by rfl) (jk_cons (je_var (pv 0)) jk_nil)) ja_nil))))))))).pe))
  (jb_cons (js_set (ps_set (i := 2) scByNames.nd rfl (Or.inl rfl) ((je_add (je_var (pv 2)) (JO.je (jo_lst (ja_cons (je_xk1 (xf18 T.toTx) (hr.mono (by decide)) (by rfl) (jk_cons (je_var (pv 0)) jk_nil)) (ja_cons (je_xk1 (xf19 T.toTx) (hr.mono (by decide)) (by rfl) (jk_cons (je_var (pv 0)) jk_nil)) (ja_cons (je_xk1 (xf20 T.toTx) (hr.mono (by decide)) (by rfl) (jk_cons (je_var (pv 0)) jk_nil)) (ja_cons (je_xk1 (xf21 T.toTx) (hr.mono (by decide)) (by rfl) (jk_cons (je_var (pv 0)) jk_nil)) (ja_cons (je_xk1 (xf22 T.toTx) (hr.mono (by decide)) (by rfl) (jk_cons (je_var (pv 0)) jk_nil)) ja_nil))))))))).pe))
  (jb_one (js_ret (je_add (je_var (pv 2)) (JO.je (jo_lst (ja_cons (je_xk1 (xf23 T.toTx) (hr.mono (by decide)) (by rfl) (jk_cons (je_var (pv 0)) jk_nil)) (ja_cons (je_xk1 (xf24 T.toTx) (hr.mono (by decide)) (by rfl) (jk_cons (je_var (pv 0)) jk_nil)) (ja_cons (je_xk1 (xf25 T.toTx) (hr.mono (by decide)) (by rfl) (jk_cons (je_var (pv 0)) jk_nil)) (ja_cons (je_xk1 (xf26 T.toTx) (hr.mono (by decide)) (by rfl) (jk_cons (je_var (pv 0)) jk_nil)) ja_nil))))))))))))))
theorem fByNames (T : TJ P w K mg base) : Df P w K mg base 3 "_law_by_names" [] bByNames := by
  obtain ⟨fd, F⟩ := T.c.def_ 31 (d := dByNames) rfl
  exact ⟨fd, ["_law_this", "_law_that"], [], [], gByNames T F, T.mByNames, F.kp, F.bindsN fun _ _ _ _ _ _ us hl => match us, hl with | [_, _], _ => rfl, .nil, fun _ => .nil⟩
def mRaised : MS :=
  (sSeq (sSet 3 (mC .non))
  (sSeq (sTry exm 4 (sIf (mBo (mOp ltW (mVar 0) (mC (.int 9)))) (sExp (mCall bRaiseOne [] (aCons (mVar 0) (aCons (mVar 1) (aCons (mVar 2) aNil))))) (sIf (mBo (mOp ltW (mVar 0) (mC (.int 18)))) (sExp (mCall bRaiseTwo [] (aCons (mVar 0) (aCons (mVar 1) aNil)))) (sExp (mCall bRaiseThree [] (aCons (mVar 0) (aCons (mVar 1) aNil)))))) [((.gl "Refused"), (sSet 3 (mVar 4))), ((.gl "Unreckoned"), (sSet 3 (mVar 4))), ((.gl "Unknown"), (sSet 3 (mVar 4)))])
  (sRet (mVar 3))))
theorem scRaised : FnScope ["_law_way", "_law_this", "_law_that", "_law_caught", "_law_e"] ["_law_way", "_law_this", "_law_that"] (defScope sRaised) := ⟨rfl, rfl, rfl, by decide +kernel, rfl, by decide +kernel, by decide +kernel⟩
def bRaised : Fn := fnB 3 5 mRaised
theorem gRaised {f : Addr} {fd : FuncData} (T : TJ P w K mg base) (F : FnA K "_law_raised" "_law_raised" sRaised f fd) : GOk P w K mg base (L2.CX P w) 4 f fd ["_law_way", "_law_this", "_law_that"] (spOf K bRaised) :=
  fn_ok F scRaised fun cdv A outer s H E hG hr =>
  (jb_cons (js_set (ps_set (i := 3) scRaised.nd rfl (Or.inl rfl) (je_non).pe))
  (jb_cons (js_try (exm_ok T.toTx) (i := 4) rfl rfl scRaised.nd rfl rfl (takes_of rfl rfl rfl rfl) rfl (fun W' pn xe tk po => (jb_one (js_if (jt_lt (je_var (pv 0)) je_int) (jb_one (js_exp (je_def (fRaiseOne T) hG (hr.mono (by decide)) (by rfl) tk (ja_cons (je_var (pv 0)) (ja_cons (je_var (pv 1)) (ja_cons (je_var (pv 2)) ja_nil)))))) (jb_one (js_if (jt_lt (je_var (pv 0)) je_int) (jb_one (js_exp (je_def (fRaiseTwo T) hG (hr.mono (by decide)) (by rfl) tk (ja_cons (je_var (pv 0)) (ja_cons (je_var (pv 1)) ja_nil))))) (jb_one (js_exp (je_def (fRaiseThree T) hG (hr.mono (by decide)) (by rfl) tk (ja_cons (je_var (pv 0)) (ja_cons (je_var (pv 1)) ja_nil)))))))))) (.cons (c := (.gl "Refused")) ⟨rfl, by decide, .inl (T.mgF 0 (by decide))⟩ (fun _ _ => (jb_one (js_set (ps_set (i := 3) scRaised.nd rfl (Or.inl rfl) ((je_var (pv 4))).pe)))) (.cons (c := (.gl "Unreckoned")) ⟨rfl, by decide, .inl (T.mgF 1 (by decide))⟩ (fun _ _ => (jb_one (js_set (ps_set (i := 3) scRaised.nd rfl (Or.inl rfl) ((je_var (pv 4))).pe)))) (.cons (c := (.gl "Unknown")) ⟨rfl, by decide, .inl (T.mgF 2 (by decide))⟩ (fun _ _ => (jb_one (js_set (ps_set (i := 3) scRaised.nd rfl (Or.inl rfl) ((je_var (pv 4))).pe)))) .nil))))
  (jb_one (js_ret (je_var (pv 3))))))
theorem fRaised (T : TJ P w K mg base) : Df P w K mg base 4 "_law_raised" [] bRaised := by
  obtain ⟨fd, F⟩ := T.c.def_ 32 (d := dRaised) rfl
  exact ⟨fd, ["_law_way", "_law_this", "_law_that"], [], [], gRaised T F, T.mRaised, F.kp, F.bindsN fun _ _ _ _ _ _ us hl => match us, hl with | [_, _, _], _ => rfl, .nil, fun _ => .nil⟩
def mKinds : MS :=
  (sSeq (sSet 1 (mLst (aCons (mCB (isiA noI xc kit) (aCons (mVar 0) (aCons (mC (.gl "BadRing")) aNil))) (aCons (mCB (isiA noI xc kit) (aCons (mVar 0) (aCons (mC (.gl "BadTable")) aNil))) (aCons (mCB (isiA noI xc kit) (aCons (mVar 0) (aCons (mC (.gl "BadWeight")) aNil))) (aCons (mCB (isiA noI xc kit) (aCons (mVar 0) (aCons (mC (.gl "BadLeading")) aNil))) aNil))))))
  (sSeq (sSet 1 (mOp addW (mVar 1) (mLst (aCons (mCB (isiA noI xc kit) (aCons (mVar 0) (aCons (mC (.gl "BadNumber")) aNil))) (aCons (mCB (isiA noI xc kit) (aCons (mVar 0) (aCons (mC (.gl "BadWord")) aNil))) (aCons (mCB (isiA noI xc kit) (aCons (mVar 0) (aCons (mC (.gl "BadWeb")) aNil))) (aCons (mCB (isiA noI xc kit) (aCons (mVar 0) (aCons (mC (.gl "BadPath")) aNil))) aNil)))))))
  (sSeq (sSet 1 (mOp addW (mVar 1) (mLst (aCons (mCB (isiA noI xc kit) (aCons (mVar 0) (aCons (mC (.gl "BadAutomaton")) aNil))) (aCons (mCB (isiA noI xc kit) (aCons (mVar 0) (aCons (mC (.gl "BadExpression")) aNil))) (aCons (mCB (isiA noI xc kit) (aCons (mVar 0) (aCons (mC (.gl "BadTransducer")) aNil))) aNil))))))
  (sSeq (sSet 1 (mOp addW (mVar 1) (mLst (aCons (mCB (isiA noI xc kit) (aCons (mVar 0) (aCons (mC (.gl "BadMachine")) aNil))) (aCons (mCB (isiA noI xc kit) (aCons (mVar 0) (aCons (mC (.gl "BadAnswer")) aNil))) (aCons (mCB (isiA noI xc kit) (aCons (mVar 0) (aCons (mC (.gl "BadName")) aNil))) aNil))))))
  (sSeq (sSet 1 (mOp addW (mVar 1) (mLst (aCons (mCB (isiA noI xc kit) (aCons (mVar 0) (aCons (mC (.gl "BadDeed")) aNil))) (aCons (mCB (isiA noI xc kit) (aCons (mVar 0) (aCons (mC (.gl "BadLine")) aNil))) (aCons (mCB (isiA noI xc kit) (aCons (mVar 0) (aCons (mC (.gl "NoStar")) aNil))) (aCons (mCB (isiA noI xc kit) (aCons (mVar 0) (aCons (mC (.gl "NoOrder")) aNil))) aNil)))))))
  (sSeq (sSet 1 (mOp addW (mVar 1) (mLst (aCons (mCB (isiA noI xc kit) (aCons (mVar 0) (aCons (mC (.gl "NotClosed")) aNil))) (aCons (mCB (isiA noI xc kit) (aCons (mVar 0) (aCons (mC (.gl "NotFew")) aNil))) (aCons (mCB (isiA noI xc kit) (aCons (mVar 0) (aCons (mC (.gl "TooMany")) aNil))) (aCons (mCB (isiA noI xc kit) (aCons (mVar 0) (aCons (mC (.gl "NoName")) aNil))) aNil)))))))
  (sSeq (sSet 1 (mOp addW (mVar 1) (mLst (aCons (mCB (isiA noI xc kit) (aCons (mVar 0) (aCons (mC (.gl "Taken")) aNil))) (aCons (mCB (isiA noI xc kit) (aCons (mVar 0) (aCons (mC (.gl "InUse")) aNil))) (aCons (mCB (isiA noI xc kit) (aCons (mVar 0) (aCons (mC (.gl "Round")) aNil))) (aCons (mCB (isiA noI xc kit) (aCons (mVar 0) (aCons (mC (.gl "TooDeep")) aNil))) aNil)))))))
  (sRet (mLc (mEn (aCons (mOp addW (mVar 1) (mLst (aCons (mCB (isiA noI xc kit) (aCons (mVar 0) (aCons (mC (.gl "Nothing")) aNil))) aNil))) aNil)) (fT 2 (fCons (fN 2) (fCons (fN 3) fNil))) (mTru (mVar 3)) (mVar 2) [2, 3])))))))))
theorem scKinds : FnScope ["_law_e", "_law_found", "_law_k", "_law_is_so"] ["_law_e"] (defScope sKinds) := ⟨rfl, rfl, rfl, by decide +kernel, rfl, by decide +kernel, by decide +kernel⟩
def bKinds : Fn := fnB 1 4 mKinds
theorem gKinds {f : Addr} {fd : FuncData} (T : TJ P w K mg base) (F : FnA K "_law_kinds" "_law_kinds" sKinds f fd) : GOk P w K mg base (L2.CX P w) 1 f fd ["_law_e"] (spOf K bKinds) :=
  fn_ok F scKinds fun cdv A outer s H E hG hr =>
  (jb_cons (js_set (ps_set (i := 1) scKinds.nd rfl (Or.inl rfl) ((JO.je (jo_lst (ja_cons (je_isi (kit_ok T.toTx) noI_in (xc_ok T.toTx) (by rfl) T.fIs (ja_cons (je_var (pv 0)) (ja_cons (je_gl (by rfl) (T.mgC 0 (by decide))) ja_nil))) (ja_cons (je_isi (kit_ok T.toTx) noI_in (xc_ok T.toTx) (by rfl) T.fIs (ja_cons (je_var (pv 0)) (ja_cons (je_gl (by rfl) (T.mgC 1 (by decide))) ja_nil))) (ja_cons (je_isi (kit_ok T.toTx) noI_in (xc_ok T.toTx) (by rfl) T.fIs (ja_cons (je_var (pv 0)) (ja_cons (je_gl (by rfl) (T.mgC 2 (by decide))) ja_nil))) (ja_cons (je_isi (kit_ok T.toTx) noI_in (xc_ok T.toTx) (by rfl) T.fIs (ja_cons (je_var (pv 0)) (ja_cons (je_gl (by rfl) (T.mgC 3 (by decide))) ja_nil))) ja_nil))))))).pe))
  (jb_cons (js_set (ps_set (i := 1) scKinds.nd rfl (Or.inl rfl) ((je_add (je_var (pv 1)) (JO.je (jo_lst (ja_cons (je_isi (kit_ok T.toTx) noI_in (xc_ok T.toTx) (by rfl) T.fIs (ja_cons (je_var (pv 0)) (ja_cons (je_gl (by rfl) (T.mgC 4 (by decide))) ja_nil))) (ja_cons (je_isi (kit_ok T.toTx) noI_in (xc_ok T.toTx) (by rfl) T.fIs (ja_cons (je_var (pv 0)) (ja_cons (je_gl (by rfl) (T.mgC 5 (by decide))) ja_nil))) (ja_cons (je_isi (kit_ok T.toTx) noI_in (xc_ok T.toTx) (by rfl) T.fIs (ja_cons (je_var (pv 0)) (ja_cons (je_gl (by rfl) (T.mgC 6 (by decide))) ja_nil))) (ja_cons (je_isi (kit_ok T.toTx) noI_in (xc_ok T.toTx) (by rfl) T.fIs (ja_cons (je_var (pv 0)) (ja_cons (je_gl (by rfl) (T.mgC 7 (by decide))) ja_nil))) ja_nil)))))))).pe))
  (jb_cons (js_set (ps_set (i := 1) scKinds.nd rfl (Or.inl rfl) ((je_add (je_var (pv 1)) (JO.je (jo_lst (ja_cons (je_isi (kit_ok T.toTx) noI_in (xc_ok T.toTx) (by rfl) T.fIs (ja_cons (je_var (pv 0)) (ja_cons (je_gl (by rfl) (T.mgC 8 (by decide))) ja_nil))) (ja_cons (je_isi (kit_ok T.toTx) noI_in (xc_ok T.toTx) (by rfl) T.fIs (ja_cons (je_var (pv 0)) (ja_cons (je_gl (by rfl) (T.mgC 9 (by decide))) ja_nil))) (ja_cons (je_isi (kit_ok T.toTx) noI_in (xc_ok T.toTx) (by rfl) T.fIs (ja_cons (je_var (pv 0)) (ja_cons (je_gl (by rfl) (T.mgC 10 (by decide))) ja_nil))) ja_nil))))))).pe))
  (jb_cons (js_set (ps_set (i := 1) scKinds.nd rfl (Or.inl rfl) ((je_add (je_var (pv 1)) (JO.je (jo_lst (ja_cons (je_isi (kit_ok T.toTx) noI_in (xc_ok T.toTx) (by rfl) T.fIs (ja_cons (je_var (pv 0)) (ja_cons (je_gl (by rfl) (T.mgC 11 (by decide))) ja_nil))) (ja_cons (je_isi (kit_ok T.toTx) noI_in (xc_ok T.toTx) (by rfl) T.fIs (ja_cons (je_var (pv 0)) (ja_cons (je_gl (by rfl) (T.mgC 12 (by decide))) ja_nil))) (ja_cons (je_isi (kit_ok T.toTx) noI_in (xc_ok T.toTx) (by rfl) T.fIs (ja_cons (je_var (pv 0)) (ja_cons (je_gl (by rfl) (T.mgC 13 (by decide))) ja_nil))) ja_nil))))))).pe))
  (jb_cons (js_set (ps_set (i := 1) scKinds.nd rfl (Or.inl rfl) ((je_add (je_var (pv 1)) (JO.je (jo_lst (ja_cons (je_isi (kit_ok T.toTx) noI_in (xc_ok T.toTx) (by rfl) T.fIs (ja_cons (je_var (pv 0)) (ja_cons (je_gl (by rfl) (T.mgC 14 (by decide))) ja_nil))) (ja_cons (je_isi (kit_ok T.toTx) noI_in (xc_ok T.toTx) (by rfl) T.fIs (ja_cons (je_var (pv 0)) (ja_cons (je_gl (by rfl) (T.mgC 15 (by decide))) ja_nil))) (ja_cons (je_isi (kit_ok T.toTx) noI_in (xc_ok T.toTx) (by rfl) T.fIs (ja_cons (je_var (pv 0)) (ja_cons (je_gl (by rfl) (T.mgC 16 (by decide))) ja_nil))) (ja_cons (je_isi (kit_ok T.toTx) noI_in (xc_ok T.toTx) (by rfl) T.fIs (ja_cons (je_var (pv 0)) (ja_cons (je_gl (by rfl) (T.mgC 17 (by decide))) ja_nil))) ja_nil)))))))).pe))
  (jb_cons (js_set (ps_set (i := 1) scKinds.nd rfl (Or.inl rfl) ((je_add (je_var (pv 1)) (JO.je (jo_lst (ja_cons (je_isi (kit_ok T.toTx) noI_in (xc_ok T.toTx) (by rfl) T.fIs (ja_cons (je_var (pv 0)) (ja_cons (je_gl (by rfl) (T.mgC 18 (by decide))) ja_nil))) (ja_cons (je_isi (kit_ok T.toTx) noI_in (xc_ok T.toTx) (by rfl) T.fIs (ja_cons (je_var (pv 0)) (ja_cons (je_gl (by rfl) (T.mgC 19 (by decide))) ja_nil))) (ja_cons (je_isi (kit_ok T.toTx) noI_in (xc_ok T.toTx) (by rfl) T.fIs (ja_cons (je_var (pv 0)) (ja_cons (je_gl (by rfl) (T.mgC 20 (by decide))) ja_nil))) (ja_cons (je_isi (kit_ok T.toTx) noI_in (xc_ok T.toTx) (by rfl) T.fIs (ja_cons (je_var (pv 0)) (ja_cons (je_gl (by rfl) (T.mgC 21 (by decide))) ja_nil))) ja_nil)))))))).pe))
  (jb_cons (js_set (ps_set (i := 1) scKinds.nd rfl (Or.inl rfl) ((je_add (je_var (pv 1)) (JO.je (jo_lst (ja_cons (je_isi (kit_ok T.toTx) noI_in (xc_ok T.toTx) (by rfl) T.fIs (ja_cons (je_var (pv 0)) (ja_cons (je_gl (by rfl) (T.mgC 22 (by decide))) ja_nil))) (ja_cons (je_isi (kit_ok T.toTx) noI_in (xc_ok T.toTx) (by rfl) T.fIs (ja_cons (je_var (pv 0)) (ja_cons (je_gl (by rfl) (T.mgC 23 (by decide))) ja_nil))) (ja_cons (je_isi (kit_ok T.toTx) noI_in (xc_ok T.toTx) (by rfl) T.fIs (ja_cons (je_var (pv 0)) (ja_cons (je_gl (by rfl) (T.mgC 24 (by decide))) ja_nil))) (ja_cons (je_isi (kit_ok T.toTx) noI_in (xc_ok T.toTx) (by rfl) T.fIs (ja_cons (je_var (pv 0)) (ja_cons (je_gl (by rfl) (T.mgC 25 (by decide))) ja_nil))) ja_nil)))))))).pe))
  (jb_one (js_ret (JO.je (jo_lc (pe_lc rfl scKinds.nd (own := [("_law_k", 2), ("_law_is_so", 3)]) (g := (gTup K 2 (gCons (gName 2) (gCons (gName 3) gNil)))) (ji_en (by rfl) T.fEn (ja_cons (je_add (je_var (pv 1)) (JO.je (jo_lst (ja_cons (je_isi (kit_ok T.toTx) noI_in (xc_ok T.toTx) (by rfl) T.fIs (ja_cons (je_var (pv 0)) (ja_cons (je_gl (by rfl) (T.mgC 26 (by decide))) ja_nil))) ja_nil)))) ja_nil)).pi (blkOk_by (N := ["_law_e", "_law_found", "_law_k", "_law_is_so"]) (sc := defScope sKinds) (by decide +kernel)) (fun _ _ _ _ _ => by exact (pg_tup rfl (pgs_cons (pg_name (i := 2) scKinds.nd rfl (Or.inl rfl)) (pgs_cons (pg_name (i := 3) scKinds.nd rfl (Or.inl rfl)) pgs_nil)))) (fun _ _ _ _ _ => ((jts_one (jt_val (je_var (pv 3))))).pt) (fun _ _ _ _ _ => ((je_var (pv 2))).pe)) (gv_tup (gvs_cons gv_name (gvs_cons gv_name gvs_nil))) (by decide))))))))))))
theorem fKinds (T : TJ P w K mg base) : Df P w K mg base 1 "_law_kinds" [] bKinds := by
  obtain ⟨fd, F⟩ := T.c.def_ 33 (d := dKinds) rfl
  exact ⟨fd, ["_law_e"], [], [], gKinds T F, T.mKinds, F.kp, F.bindsN fun _ _ _ _ _ _ us hl => match us, hl with | [_], _ => rfl, .nil, fun _ => .nil⟩
def mFamilies : MS :=
  (sSeq (sSet 1 (mLst (aCons (mCB (isiA noI xc kit) (aCons (mVar 0) (aCons (mC (.gl "Refused")) aNil))) (aCons (mCB (isiA noI xc kit) (aCons (mVar 0) (aCons (mC (.ty "ValueError")) aNil))) (aCons (mCB (isiA noI xc kit) (aCons (mVar 0) (aCons (mC (.gl "Unreckoned")) aNil))) aNil)))))
  (sSeq (sSet 1 (mOp addW (mVar 1) (mLst (aCons (mCB (isiA noI xc kit) (aCons (mVar 0) (aCons (mC (.ty "ArithmeticError")) aNil))) (aCons (mCB (isiA noI xc kit) (aCons (mVar 0) (aCons (mC (.gl "Unknown")) aNil))) (aCons (mCB (isiA noI xc kit) (aCons (mVar 0) (aCons (mC (.ty "LookupError")) aNil))) aNil))))))
  (sRet (mOp addW (mVar 1) (mLst (aCons (mCB (isiA noI xc kit) (aCons (mVar 0) (aCons (mC (.ty "KeyError")) aNil))) (aCons (mCB (isiA noI xc kit) (aCons (mVar 0) (aCons (mC (.ty "IndexError")) aNil))) (aCons (mCB (isiA noI xc kit) (aCons (mVar 0) (aCons (mC (.ty "ZeroDivisionError")) aNil))) aNil))))))))
theorem scFamilies : FnScope ["_law_e", "_law_found"] ["_law_e"] (defScope sFamilies) := ⟨rfl, rfl, rfl, by decide +kernel, rfl, by decide +kernel, by decide +kernel⟩
def bFamilies : Fn := fnB 1 2 mFamilies
theorem gFamilies {f : Addr} {fd : FuncData} (T : TJ P w K mg base) (F : FnA K "_law_families" "_law_families" sFamilies f fd) : GOk P w K mg base (L2.CX P w) 1 f fd ["_law_e"] (spOf K bFamilies) :=
  fn_ok F scFamilies fun cdv A outer s H E hG hr =>
  (jb_cons (js_set (ps_set (i := 1) scFamilies.nd rfl (Or.inl rfl) ((JO.je (jo_lst (ja_cons (je_isi (kit_ok T.toTx) noI_in (xc_ok T.toTx) (by rfl) T.fIs (ja_cons (je_var (pv 0)) (ja_cons (je_gl (by rfl) (T.mgF 0 (by decide))) ja_nil))) (ja_cons (je_isi (kit_ok T.toTx) noI_in (xc_ok T.toTx) (by rfl) T.fIs (ja_cons (je_var (pv 0)) (ja_cons (je_ty (by rfl) T.fV (by decide +kernel)) ja_nil))) (ja_cons (je_isi (kit_ok T.toTx) noI_in (xc_ok T.toTx) (by rfl) T.fIs (ja_cons (je_var (pv 0)) (ja_cons (je_gl (by rfl) (T.mgF 1 (by decide))) ja_nil))) ja_nil)))))).pe))
  (jb_cons (js_set (ps_set (i := 1) scFamilies.nd rfl (Or.inl rfl) ((je_add (je_var (pv 1)) (JO.je (jo_lst (ja_cons (je_isi (kit_ok T.toTx) noI_in (xc_ok T.toTx) (by rfl) T.fIs (ja_cons (je_var (pv 0)) (ja_cons (je_ty (by rfl) T.fA (by decide +kernel)) ja_nil))) (ja_cons (je_isi (kit_ok T.toTx) noI_in (xc_ok T.toTx) (by rfl) T.fIs (ja_cons (je_var (pv 0)) (ja_cons (je_gl (by rfl) (T.mgF 2 (by decide))) ja_nil))) (ja_cons (je_isi (kit_ok T.toTx) noI_in (xc_ok T.toTx) (by rfl) T.fIs (ja_cons (je_var (pv 0)) (ja_cons (je_ty (by rfl) T.fL (by decide +kernel)) ja_nil))) ja_nil))))))).pe))
  (jb_one (js_ret (je_add (je_var (pv 1)) (JO.je (jo_lst (ja_cons (je_isi (kit_ok T.toTx) noI_in (xc_ok T.toTx) (by rfl) T.fIs (ja_cons (je_var (pv 0)) (ja_cons (je_ty (by rfl) T.fK (by decide +kernel)) ja_nil))) (ja_cons (je_isi (kit_ok T.toTx) noI_in (xc_ok T.toTx) (by rfl) T.fIs (ja_cons (je_var (pv 0)) (ja_cons (je_ty (by rfl) T.fI (by decide +kernel)) ja_nil))) (ja_cons (je_isi (kit_ok T.toTx) noI_in (xc_ok T.toTx) (by rfl) T.fIs (ja_cons (je_var (pv 0)) (ja_cons (je_ty (by rfl) T.fZ (by decide +kernel)) ja_nil))) ja_nil))))))))))
theorem fFamilies (T : TJ P w K mg base) : Df P w K mg base 1 "_law_families" [] bFamilies := by
  obtain ⟨fd, F⟩ := T.c.def_ 34 (d := dFamilies) rfl
  exact ⟨fd, ["_law_e"], [], [], gFamilies T F, T.mFamilies, F.kp, F.bindsN fun _ _ _ _ _ _ us hl => match us, hl with | [_], _ => rfl, .nil, fun _ => .nil⟩
def mFields : MS :=
  (sSeq (sIf (mBo (mOp eqW (mVar 0) (mC (.int 0)))) (sRet (mLst (aCons (mFld noI (fldx "what") "what" (mVar 1)) aNil))) sPass)
  (sSeq (sIf (mBo (mOp eqW (mVar 0) (mC (.int 1)))) (sRet (mLst (aCons (mFld noI (fldx "rule") "rule" (mVar 1)) (aCons (mFld noI (fldx "things") "things" (mVar 1)) aNil)))) sPass)
  (sSeq (sIf (mBo (mOp eqW (mVar 0) (mC (.int 15)))) (sRet (mLst (aCons (mFld noI (fldx "line") "line" (mVar 1)) aNil))) sPass)
  (sSeq (sIf (mBo (mOp eqW (mVar 0) (mC (.int 17)))) (sRet (mLst (aCons (mFld noI (fldx "step") "step" (mVar 1)) aNil))) sPass)
  (sSeq (sIf (mBo (mOp eqW (mVar 0) (mC (.int 20)))) (sRet (mLst (aCons (mFld noI (fldx "most") "most" (mVar 1)) aNil))) sPass)
  (sSeq (sIf (mBo (mOp (inF false) (mVar 0) (mTup (aCons (mC (.int 21)) (aCons (mC (.int 22)) (aCons (mC (.int 25)) aNil)))))) (sRet (mLst (aCons (mFld noI (fldx "name") "name" (mVar 1)) aNil))) sPass)
  (sSeq (sIf (mBo (mOp eqW (mVar 0) (mC (.int 23)))) (sRet (mLst (aCons (mFld noI (fldx "users") "users" (mVar 1)) aNil))) sPass)
  (sRet (mIf (mBo (mOp eqW (mVar 0) (mC (.int 24)))) (mLst (aCons (mFld noI (fldx "circle") "circle" (mVar 1)) aNil)) (mLst (aCons (mFld noI (fldx "why") "why" (mVar 1)) aNil)))))))))))
theorem scFields : FnScope ["_law_way", "_law_e"] ["_law_way", "_law_e"] (defScope sFields) := ⟨rfl, rfl, rfl, by decide +kernel, rfl, by decide +kernel, by decide +kernel⟩
def bFields : Fn := fnB 2 2 mFields
theorem gFields {f : Addr} {fd : FuncData} (T : TJ P w K mg base) (F : FnA K "_law_fields" "_law_fields" sFields f fd) : GOk P w K mg base (L2.CX P w) 1 f fd ["_law_way", "_law_e"] (spOf K bFields) :=
  fn_ok F scFields fun cdv A outer s H E hG hr =>
  (jb_cons (js_if (jt_eq (hu64 hr) (je_var (pv 0)) je_int) (jb_one (js_ret (JO.je (jo_lst (ja_cons (je_fld (noI_cls "what") (fldx_ok T.toTx "what") (je_var (pv 1))) ja_nil))))) jb_nil)
  (jb_cons (js_if (jt_eq (hu64 hr) (je_var (pv 0)) je_int) (jb_one (js_ret (JO.je (jo_lst (ja_cons (je_fld (noI_cls "rule") (fldx_ok T.toTx "rule") (je_var (pv 1))) (ja_cons (je_fld (noI_cls "things") (fldx_ok T.toTx "things") (je_var (pv 1))) ja_nil)))))) jb_nil)
  (jb_cons (js_if (jt_eq (hu64 hr) (je_var (pv 0)) je_int) (jb_one (js_ret (JO.je (jo_lst (ja_cons (je_fld (noI_cls "line") (fldx_ok T.toTx "line") (je_var (pv 1))) ja_nil))))) jb_nil)
  (jb_cons (js_if (jt_eq (hu64 hr) (je_var (pv 0)) je_int) (jb_one (js_ret (JO.je (jo_lst (ja_cons (je_fld (noI_cls "step") (fldx_ok T.toTx "step") (je_var (pv 1))) ja_nil))))) jb_nil)
  (jb_cons (js_if (jt_eq (hu64 hr) (je_var (pv 0)) je_int) (jb_one (js_ret (JO.je (jo_lst (ja_cons (je_fld (noI_cls "most") (fldx_ok T.toTx "most") (je_var (pv 1))) ja_nil))))) jb_nil)
  (jb_cons (js_if (jt_in (je_var (pv 0)) (je_tup (ja_cons je_int (ja_cons je_int (ja_cons je_int ja_nil))))) (jb_one (js_ret (JO.je (jo_lst (ja_cons (je_fld (noI_cls "name") (fldx_ok T.toTx "name") (je_var (pv 1))) ja_nil))))) jb_nil)
  (jb_cons (js_if (jt_eq (hu64 hr) (je_var (pv 0)) je_int) (jb_one (js_ret (JO.je (jo_lst (ja_cons (je_fld (noI_cls "users") (fldx_ok T.toTx "users") (je_var (pv 1))) ja_nil))))) jb_nil)
  (jb_one (js_ret (je_if (jt_eq (hu64 hr) (je_var (pv 0)) je_int) (JO.je (jo_lst (ja_cons (je_fld (noI_cls "circle") (fldx_ok T.toTx "circle") (je_var (pv 1))) ja_nil))) (JO.je (jo_lst (ja_cons (je_fld (noI_cls "why") (fldx_ok T.toTx "why") (je_var (pv 1))) ja_nil)))))))))))))
theorem fFields (T : TJ P w K mg base) : Df P w K mg base 1 "_law_fields" [] bFields := by
  obtain ⟨fd, F⟩ := T.c.def_ 35 (d := dFields) rfl
  exact ⟨fd, ["_law_way", "_law_e"], [], [], gFields T F, T.mFields, F.kp, F.bindsN fun _ _ _ _ _ _ us hl => match us, hl with | [_, _], _ => rfl, .nil, fun _ => .nil⟩
def mIsRight_s0 : MS :=
  (sRet (mC (.bl false)))
def mIsRight_s1 : MS :=
  (sIf (mOr (fun r z => Res.bind ((mVar 3) r z) fun x z => .ok (isN x) z) (mBo (mOp neW (mCall bKinds [] (aCons (mVar 3) aNil)) (mLst (aCons (mVar 0) aNil))))) mIsRight_s0 sPass)
def mIsRight_s2 : MS :=
  (sSet 4 (mIf (mBo (mOp ltW (mVar 0) (mC (.int 16)))) (mC (.int 0)) (mIf (mBo (mOp ltW (mVar 0) (mC (.int 21)))) (mC (.int 1)) (mC (.int 2)))))
def mIsRight_s3 : MS :=
  (sSet 5 (mOp addW (mLc (mRg1 (aCons (mC (.int 6)) aNil)) (fN 6) mYes (mOp eqW (mVar 4) (mOp divW (mVar 6) (mC (.int 2)))) [6]) (mOp mulW (mLst (aCons (mC (.bl false)) aNil)) (mC (.int 3)))))
def mIsRight_s4 : MS :=
  (sRet (mAndV (mOp eqW (mCall bFamilies [] (aCons (mVar 3) aNil)) (mVar 5)) (mOp eqW (mCB reprW (aCons (mCall bFields [] (aCons (mVar 0) (aCons (mVar 3) aNil))) aNil)) (mCB reprW (aCons (mIf (mBo (mOp eqW (mVar 0) (mC (.int 1)))) (mLst (aCons (mVar 1) (aCons (mVar 2) aNil))) (mLst (aCons (mVar 1) aNil))) aNil)))))
def mIsRight : MS :=
  (sSeq mIsRight_s1
  (sSeq mIsRight_s2
  (sSeq mIsRight_s3
  mIsRight_s4)))
theorem scIsRight : FnScope ["_law_way", "_law_this", "_law_that", "_law_e", "_law_family", "_law_due", "_law_k"] ["_law_way", "_law_this", "_law_that", "_law_e"] (defScope sIsRight) := ⟨rfl, rfl, rfl, by decide +kernel, rfl, by decide +kernel, by decide +kernel⟩
def bIsRight : Fn := fnB 4 7 mIsRight
theorem gIsRight {f : Addr} {fd : FuncData} (T : TJ P w K mg base) (F : FnA K "_law_is_right" "_law_is_right" sIsRight f fd) : GOk P w K mg base (L2.CX P w) 2 f fd ["_law_way", "_law_this", "_law_that", "_law_e"] (spOf K bIsRight) :=
  fn_ok F scIsRight fun cdv A outer s H E hG hr =>
  (jb_cons (js_if (JW.jt (jw_or (jt_isN (je_var (pv 3))) (jw_or1 (jt_ne (hu64 hr) (je_def (fKinds T) hG (hr.mono (by decide)) (by rfl) (takes_of rfl rfl rfl rfl) (ja_cons (je_var (pv 3)) ja_nil)) (JO.je (jo_lst (ja_cons (je_var (pv 0)) ja_nil))))))) (jb_one (js_ret je_bl)) jb_nil)
  (jb_cons (js_set (ps_set (i := 4) scIsRight.nd rfl (Or.inr rfl) ((je_if (jt_lt (je_var (pv 0)) je_int) je_int (je_if (jt_lt (je_var (pv 0)) je_int) je_int je_int))).pe))
  (jb_cons (js_set (ps_set (i := 5) scIsRight.nd rfl (Or.inl rfl) ((je_add (JO.je (jo_lc (pe_lc rfl scIsRight.nd (own := [("_law_k", 6)]) (g := (gName 6)) (ji_rg1 (by rfl) T.fRa (ja_cons je_int ja_nil)).pi (blkOk_by (N := ["_law_way", "_law_this", "_law_that", "_law_e", "_law_family", "_law_due", "_law_k"]) (sc := defScope sIsRight) (by decide +kernel)) (fun _ _ _ _ _ => by exact (pg_name (i := 6) scIsRight.nd rfl (Or.inl rfl))) (fun _ _ _ _ _ => (jts_nil).pt) (fun _ _ _ _ _ => ((je_eq (hu64 hr) (je_var (pv 4)) (je_div (je_var (pv 6)) je_int))).pe)) gv_name (by decide))) (je_mul (JO.je (jo_lst (ja_cons je_bl ja_nil))) je_int))).pe))
  (jb_one (js_ret (je_and (je_eq (hu64 hr) (je_def (fFamilies T) hG (hr.mono (by decide)) (by rfl) (takes_of rfl rfl rfl rfl) (ja_cons (je_var (pv 3)) ja_nil)) (je_var (pv 5))) (je_one (je_eq (hu64 hr) (je_repr hG (Room.u66 hr) (by rfl) T.fRe (ja_cons (je_def (fFields T) hG (hr.mono (by decide)) (by rfl) (takes_of rfl rfl rfl rfl) (ja_cons (je_var (pv 0)) (ja_cons (je_var (pv 3)) ja_nil))) ja_nil)) (je_repr hG (Room.u66 hr) (by rfl) T.fRe (ja_cons (je_if (jt_eq (hu64 hr) (je_var (pv 0)) je_int) (JO.je (jo_lst (ja_cons (je_var (pv 1)) (ja_cons (je_var (pv 2)) ja_nil)))) (JO.je (jo_lst (ja_cons (je_var (pv 1)) ja_nil)))) ja_nil))))))))))
theorem fIsRight (T : TJ P w K mg base) : Df P w K mg base 2 "_law_is_right" [] bIsRight := by
  obtain ⟨fd, F⟩ := T.c.def_ 36 (d := dIsRight) rfl
  exact ⟨fd, ["_law_way", "_law_this", "_law_that", "_law_e"], [], [], gIsRight T F, T.mIsRight, F.kp, F.bindsN fun _ _ _ _ _ _ us hl => match us, hl with | [_, _, _, _], _ => rfl, .nil, fun _ => .nil⟩
def mThing : MS :=
  (sSeq (sSet 1 (mLst (aCons (mC (.str "")) (aCons (mC (.str "form")) (aCons (mC .non) (aCons (mC (.int 0)) (aCons (mC (.int 1)) (aCons (mOp modW (mVar 0) (mC (.int 1000))) (aCons (mOp powW (mC (.int 10)) (mC (.int 18))) (aCons (mTup (aCons (mC (.str "a")) (aCons (mC (.str "b")) aNil))) (aCons (mTup aNil) (aCons (mC (.bl true)) aNil))))))))))))
  (sRet (mOp ixW (mVar 1) (mOp modW (mOp divW (mVar 0) (mC (.int 1000))) (mC (.int 10))))))
theorem scThing : FnScope ["_law_number", "_law_some"] ["_law_number"] (defScope sThing) := ⟨rfl, rfl, rfl, by decide +kernel, rfl, by decide +kernel, by decide +kernel⟩
def bThing : Fn := fnB 1 2 mThing
theorem gThing {f : Addr} {fd : FuncData} (T : TJ P w K mg base) (F : FnA K "_law_thing" "_law_thing" sThing f fd) : GOk P w K mg base (L2.CX P w) 1 f fd ["_law_number"] (spOf K bThing) :=
  fn_ok F scThing fun cdv A outer s H E hG hr =>
  (jb_cons (js_set (ps_set (i := 1) scThing.nd rfl (Or.inl rfl) ((JO.je (jo_lst (ja_cons je_str (ja_cons je_str (ja_cons je_non (ja_cons je_int (ja_cons je_int (ja_cons (je_mod (je_var (pv 0)) je_int) (ja_cons (je_pow je_int je_int) (ja_cons (je_tup (ja_cons je_str (ja_cons je_str ja_nil))) (ja_cons (je_tup ja_nil) (ja_cons je_bl ja_nil))))))))))))).pe))
  (jb_one (js_ret (je_ixW (hu1 hr) (je_var (pv 1)) (je_mod (je_div (je_var (pv 0)) je_int) je_int) (fun _ _ => rfl)))))
theorem fThing (T : TJ P w K mg base) : Df P w K mg base 1 "_law_thing" [] bThing := by
  obtain ⟨fd, F⟩ := T.c.def_ 37 (d := dThing) rfl
  exact ⟨fd, ["_law_number"], [], [], gThing T F, T.mThing, F.kp, F.bindsN fun _ _ _ _ _ _ us hl => match us, hl with | [_], _ => rfl, .nil, fun _ => .nil⟩
def mLaw_s0 (q0 : Fn) (q1 : Fn) (q2 : Fn) (q3 : Fn) (q4 : Fn) : MS :=
  (sSet 1 (mNum (mLst aNil)))
def mLaw_s1 (q0 : Fn) (q1 : Fn) (q2 : Fn) (q3 : Fn) (q4 : Fn) : MS :=
  (sSet 4 (mCall q0 [] (aCons (mVar 3) (aCons (mVar 2) aNil))))
def mLaw_s2 (q0 : Fn) (q1 : Fn) (q2 : Fn) (q3 : Fn) (q4 : Fn) : MS :=
  (sPar 7 8 (aCons (mCall q1 [] (aCons (mCall q0 [] (aCons (mVar 4) (aCons (mOp addW (mC (.int 3)) (mVar 5)) aNil))) aNil)) (aCons (mCall q1 [] (aCons (mCall q0 [] (aCons (mVar 4) (aCons (mOp addW (mC (.int 13)) (mVar 5)) aNil))) aNil)) aNil)))
def mLaw_s3 (q0 : Fn) (q1 : Fn) (q2 : Fn) (q3 : Fn) (q4 : Fn) : MS :=
  (sExp (mMt okL appW (mVar 1) (aCons (mTup (aCons (mVar 6) (aCons (mVar 7) (aCons (mVar 8) (aCons (mCall q4 [] (aCons (mVar 6) (aCons (mVar 7) (aCons (mVar 8) aNil)))) aNil))))) aNil)))
def mLaw_s4 (q0 : Fn) (q1 : Fn) (q2 : Fn) (q3 : Fn) (q4 : Fn) : MS :=
  (sRet (mC (.bl false)))
def mLaw_s5 (q0 : Fn) (q1 : Fn) (q2 : Fn) (q3 : Fn) (q4 : Fn) : MS :=
  (sIf (mNot (mTru (mCall q3 [] (aCons (mVar 6) (aCons (mVar 7) (aCons (mVar 8) (aCons (mOp ixW (mOp ixW (mVar 1) (mUn negW (mC (.int 1)))) (mC (.int 3))) aNil))))))) (mLaw_s4 q0 q1 q2 q3 q4) sPass)
def mLaw_b6 (q0 : Fn) (q1 : Fn) (q2 : Fn) (q3 : Fn) (q4 : Fn) : MS :=
  (sSeq (mLaw_s2 q0 q1 q2 q3 q4)
  (sSeq (mLaw_s3 q0 q1 q2 q3 q4)
  (mLaw_s5 q0 q1 q2 q3 q4)))
def mLaw_s7 (q0 : Fn) (q1 : Fn) (q2 : Fn) (q3 : Fn) (q4 : Fn) : MS :=
  (sFor (mEn (aCons (mLst (aCons (mOp modW (mVar 4) (mC (.int 27))) (aCons (mOp modW (mOp divW (mVar 4) (mC (.int 27))) (mC (.int 27))) (aCons (mOp modW (mVar 4) (mC (.int 27))) aNil)))) aNil)) (fT 2 (fCons (fN 5) (fCons (fN 6) fNil)))
  (mLaw_b6 q0 q1 q2 q3 q4))
def mLaw_s8 (q0 : Fn) (q1 : Fn) (q2 : Fn) (q3 : Fn) (q4 : Fn) : MS :=
  (sPar 7 8 (aCons (mCall q1 [] (aCons (mCall q0 [] (aCons (mVar 4) (aCons (mC (.int 31)) aNil))) aNil)) (aCons (mCall q1 [] (aCons (mCall q0 [] (aCons (mVar 4) (aCons (mC (.int 37)) aNil))) aNil)) aNil)))
def mLaw_s9 (q0 : Fn) (q1 : Fn) (q2 : Fn) (q3 : Fn) (q4 : Fn) : MS :=
  (sRet (mC (.bl false)))
def mLaw_s10 (q0 : Fn) (q1 : Fn) (q2 : Fn) (q3 : Fn) (q4 : Fn) : MS :=
  (sIf (mNot (mTru (mCall q3 [] (aCons (mVar 6) (aCons (mVar 7) (aCons (mVar 8) (aCons (mVar 9) aNil))))))) (mLaw_s9 q0 q1 q2 q3 q4) sPass)
def mLaw_b11 (q0 : Fn) (q1 : Fn) (q2 : Fn) (q3 : Fn) (q4 : Fn) : MS :=
  (mLaw_s10 q0 q1 q2 q3 q4)
def mLaw_s12 (q0 : Fn) (q1 : Fn) (q2 : Fn) (q3 : Fn) (q4 : Fn) : MS :=
  (sFor (mEn (aCons (mCall q2 [] (aCons (mVar 7) (aCons (mVar 8) aNil))) aNil)) (fT 2 (fCons (fN 6) (fCons (fN 9) fNil)))
  (mLaw_b11 q0 q1 q2 q3 q4))
def mLaw_b13 (q0 : Fn) (q1 : Fn) (q2 : Fn) (q3 : Fn) (q4 : Fn) : MS :=
  (sSeq (mLaw_s1 q0 q1 q2 q3 q4)
  (sSeq (mLaw_s7 q0 q1 q2 q3 q4)
  (sSeq (mLaw_s8 q0 q1 q2 q3 q4)
  (mLaw_s12 q0 q1 q2 q3 q4))))
def mLaw_s14 (q0 : Fn) (q1 : Fn) (q2 : Fn) (q3 : Fn) (q4 : Fn) : MS :=
  (sFor (mEn (aCons (mOp addW (mSl slW (mVar 0) pNo (pSo (mC (.int 20)))) (mLst (aCons (mC (.int 7)) aNil))) aNil)) (fT 2 (fCons (fN 2) (fCons (fN 3) fNil)))
  (mLaw_b13 q0 q1 q2 q3 q4))
def mLaw_s15 (q0 : Fn) (q1 : Fn) (q2 : Fn) (q3 : Fn) (q4 : Fn) : MS :=
  (sRet (mOp eqW (mLc (mSq (mVar 1)) (fN 10) (mNot (mTru (mCall q3 [] (aCons (mOp ixW (mVar 10) (mC (.int 0))) (aCons (mOp ixW (mVar 10) (mC (.int 1))) (aCons (mOp ixW (mVar 10) (mC (.int 2))) (aCons (mOp ixW (mVar 10) (mC (.int 3))) aNil))))))) (mVar 10) [10]) (mLst aNil)))
@[reducible] def mLawQ (q0 : Fn) (q1 : Fn) (q2 : Fn) (q3 : Fn) (q4 : Fn) : MS :=
  (sSeq (mLaw_s0 q0 q1 q2 q3 q4)
  (sSeq (mLaw_s14 q0 q1 q2 q3 q4)
  (mLaw_s15 q0 q1 q2 q3 q4)))
@[reducible] def mLaw : MS := mLawQ bMixed bThing bByNames bIsRight bRaised
theorem scLaw : FnScope ["_law_script", "_law_held", "_law_k", "_law_cell", "_law_number", "_law_turn", "_law_way", "_law_this", "_law_that", "_law_error", "_law_row"] ["_law_script"] (defScope sLaw) := ⟨rfl, rfl, rfl, by decide +kernel, rfl, by decide +kernel, by decide +kernel⟩
def bLaw : Fn := fnB 1 11 mLaw
theorem gLaw {f : Addr} {fd : FuncData} (T : TJ P w K mg base) (F : FnA K "law" "law" sLaw f fd) : GOk P w K mg base (L2.CX P w) 5 f fd ["_law_script"] (spOf K bLaw) :=
  fn_ok F scLaw fun cdv A outer s H E hG hr =>
  (jb_cons (js_set (ps_set (i := 1) scLaw.nd rfl (Or.inl rfl) ((JO.num (jo_lst ja_nil))).pe))
  (jb_cons (js_for (passes_of rfl) rfl (ji_en (by rfl) T.fEn (ja_cons (je_add (je_sl (je_var (pv 0)) jp_none (jp_some je_int)) (JO.je (jo_lst (ja_cons je_int ja_nil)))) ja_nil)) (pg_tup rfl (pgs_cons (pg_name (i := 2) scLaw.nd rfl (Or.inl rfl)) (pgs_cons (pg_name (i := 3) scLaw.nd rfl (Or.inl rfl)) pgs_nil))) (gv_tup (gvs_cons gv_name (gvs_cons gv_name gvs_nil)))
  (jb_cons (js_set (ps_set (i := 4) scLaw.nd rfl (Or.inl rfl) ((je_def (fMixed T) hG (hr.mono (by decide)) (by rfl) (takes_of rfl rfl rfl rfl) (ja_cons (je_var (pv 3)) (ja_cons (je_var (pv 2)) ja_nil)))).pe))
  (jb_cons (js_for (passes_of rfl) rfl (ji_en (by rfl) T.fEn (ja_cons (JO.je (jo_lst (ja_cons (je_mod (je_var (pv 4)) je_int) (ja_cons (je_mod (je_div (je_var (pv 4)) je_int) je_int) (ja_cons (je_mod (je_var (pv 4)) je_int) ja_nil))))) ja_nil)) (pg_tup rfl (pgs_cons (pg_name (i := 5) scLaw.nd rfl (Or.inl rfl)) (pgs_cons (pg_name (i := 6) scLaw.nd rfl (Or.inl rfl)) pgs_nil))) (gv_tup (gvs_cons gv_name (gvs_cons gv_name gvs_nil)))
  (jb_cons (js_par (ps_par (i := 7) (j := 8) rfl scLaw.nd rfl rfl (by decide) rfl rfl ((ja_cons (je_def (fThing T) hG (hr.mono (by decide)) (by rfl) (takes_of rfl rfl rfl rfl) (ja_cons (je_def (fMixed T) hG (hr.mono (by decide)) (by rfl) (takes_of rfl rfl rfl rfl) (ja_cons (je_var (pv 4)) (ja_cons (je_add je_int (je_var (pv 5))) ja_nil))) ja_nil)) (ja_cons (je_def (fThing T) hG (hr.mono (by decide)) (by rfl) (takes_of rfl rfl rfl rfl) (ja_cons (je_def (fMixed T) hG (hr.mono (by decide)) (by rfl) (takes_of rfl rfl rfl rfl) (ja_cons (je_var (pv 4)) (ja_cons (je_add je_int (je_var (pv 5))) ja_nil))) ja_nil)) ja_nil))).pa (by rfl)))
  (jb_cons (js_exp (je_app (je_var (pv 1)) (ja_cons (je_tup (ja_cons (je_var (pv 6)) (ja_cons (je_var (pv 7)) (ja_cons (je_var (pv 8)) (ja_cons (je_def (fRaised T) hG (hr.mono (by decide)) (by rfl) (takes_of rfl rfl rfl rfl) (ja_cons (je_var (pv 6)) (ja_cons (je_var (pv 7)) (ja_cons (je_var (pv 8)) ja_nil)))) ja_nil))))) ja_nil)))
  (jb_one (js_if (jt_not (jt_val (je_def (fIsRight T) hG (hr.mono (by decide)) (by rfl) (takes_of rfl rfl rfl rfl) (ja_cons (je_var (pv 6)) (ja_cons (je_var (pv 7)) (ja_cons (je_var (pv 8)) (ja_cons (je_ixW (hu1 hr) (je_ixW (hu1 hr) (je_var (pv 1)) (je_neg je_int) (fun _ _ => rfl)) je_int (fun _ _ => rfl)) ja_nil))))))) (jb_one (js_ret je_bl)) jb_nil)))))
  (jb_cons (js_par (ps_par (i := 7) (j := 8) rfl scLaw.nd rfl rfl (by decide) rfl rfl ((ja_cons (je_def (fThing T) hG (hr.mono (by decide)) (by rfl) (takes_of rfl rfl rfl rfl) (ja_cons (je_def (fMixed T) hG (hr.mono (by decide)) (by rfl) (takes_of rfl rfl rfl rfl) (ja_cons (je_var (pv 4)) (ja_cons je_int ja_nil))) ja_nil)) (ja_cons (je_def (fThing T) hG (hr.mono (by decide)) (by rfl) (takes_of rfl rfl rfl rfl) (ja_cons (je_def (fMixed T) hG (hr.mono (by decide)) (by rfl) (takes_of rfl rfl rfl rfl) (ja_cons (je_var (pv 4)) (ja_cons je_int ja_nil))) ja_nil)) ja_nil))).pa (by rfl)))
  (jb_one (js_for (passes_of rfl) rfl (ji_en (by rfl) T.fEn (ja_cons (je_def (fByNames T) hG (hr.mono (by decide)) (by rfl) (takes_of rfl rfl rfl rfl) (ja_cons (je_var (pv 7)) (ja_cons (je_var (pv 8)) ja_nil))) ja_nil)) (pg_tup rfl (pgs_cons (pg_name (i := 6) scLaw.nd rfl (Or.inl rfl)) (pgs_cons (pg_name (i := 9) scLaw.nd rfl (Or.inl rfl)) pgs_nil))) (gv_tup (gvs_cons gv_name (gvs_cons gv_name gvs_nil)))
  (jb_one (js_if (jt_not (jt_val (je_def (fIsRight T) hG (hr.mono (by decide)) (by rfl) (takes_of rfl rfl rfl rfl) (ja_cons (je_var (pv 6)) (ja_cons (je_var (pv 7)) (ja_cons (je_var (pv 8)) (ja_cons (je_var (pv 9)) ja_nil))))))) (jb_one (js_ret je_bl)) jb_nil))))))))
  (jb_one (js_ret (je_eq (hu64 hr) (JO.je (jo_lc (pe_lc rfl scLaw.nd (own := [("_law_row", 10)]) (g := (gName 10)) (ji_seq (je_var (pv 1))).pi (blkOk_by (N := ["_law_script", "_law_held", "_law_k", "_law_cell", "_law_number", "_law_turn", "_law_way", "_law_this", "_law_that", "_law_error", "_law_row"]) (sc := defScope sLaw) (by decide +kernel)) (fun _ _ _ _ _ => by exact (pg_name (i := 10) scLaw.nd rfl (Or.inl rfl))) (fun _ _ _ _ _ => ((jts_one (jt_not (jt_val (je_def (fIsRight T) hG (hr.mono (by decide)) (by rfl) takes0 (ja_cons (je_ixW (hu1 hr) (je_var (pv 10)) je_int (fun _ _ => rfl)) (ja_cons (je_ixW (hu1 hr) (je_var (pv 10)) je_int (fun _ _ => rfl)) (ja_cons (je_ixW (hu1 hr) (je_var (pv 10)) je_int (fun _ _ => rfl)) (ja_cons (je_ixW (hu1 hr) (je_var (pv 10)) je_int (fun _ _ => rfl)) ja_nil))))))))).pt) (fun _ _ _ _ _ => ((je_var (pv 10))).pe)) gv_name (by decide))) (JO.je (jo_lst ja_nil)))))))
theorem fLaw (T : TJ P w K mg base) : Df P w K mg base 5 "law" [] bLaw := by
  obtain ⟨fd, F⟩ := T.c.def_ 38 (d := dLaw) rfl
  exact ⟨fd, ["_law_script"], [], [], gLaw T F, T.mLaw, F.kp, F.bindsN fun _ _ _ _ _ _ us hl => match us, hl with | [_], _ => rfl, .nil, fun _ => .nil⟩
end
end K01
namespace K01
open PySem PySem.Spec PyProof.Rows L2 J
def fv (i : Nat) (this that : J.W) : List (Str × J.W) := if i = 1 then [("things", that), ("rule", this)] else [(fl i, this)]
def vv (i : Nat) (this that : J.W) : List J.W := if i = 1 then [this, that] else [this]
abbrev ee (i : Nat) (this that : J.W) : J.W := .exc (nm i) (fv i this that)
theorem ev_kinds (i : Nat) (hi : i < 27) (this that : J.W) (z : Z) : bKinds [ee i this that] z = .ok (.lst [.int (i : Nat)]) z :=
  match i, hi with
  | 0, _ => by kernel_rfl
  | 1, _ => by kernel_rfl
  | 2, _ => by kernel_rfl
  | 3, _ => by kernel_rfl
  | 4, _ => by kernel_rfl
  | 5, _ => by kernel_rfl
  | 6, _ => by kernel_rfl
  | 7, _ => by kernel_rfl
  | 8, _ => by kernel_rfl
  | 9, _ => by kernel_rfl
  | 10, _ => by kernel_rfl
  | 11, _ => by kernel_rfl
  | 12, _ => by kernel_rfl
  | 13, _ => by kernel_rfl
  | 14, _ => by kernel_rfl
  | 15, _ => by kernel_rfl
  | 16, _ => by kernel_rfl
  | 17, _ => by kernel_rfl
  | 18, _ => by kernel_rfl
  | 19, _ => by kernel_rfl
  | 20, _ => by kernel_rfl
  | 21, _ => by kernel_rfl
  | 22, _ => by kernel_rfl
  | 23, _ => by kernel_rfl
  | 24, _ => by kernel_rfl
  | 25, _ => by kernel_rfl
  | 26, _ => by kernel_rfl
  | n + 27, h => absurd h (by omega)
theorem ev_fams (i : Nat) (hi : i < 27) (this that : J.W) (z : Z) : bFamilies [ee i this that] z = .ok (.lst ((fdue i).map .bl)) z :=
  match i, hi with
  | 0, _ => by kernel_rfl
  | 1, _ => by kernel_rfl
  | 2, _ => by kernel_rfl
  | 3, _ => by kernel_rfl
  | 4, _ => by kernel_rfl
  | 5, _ => by kernel_rfl
  | 6, _ => by kernel_rfl
  | 7, _ => by kernel_rfl
  | 8, _ => by kernel_rfl
  | 9, _ => by kernel_rfl
  | 10, _ => by kernel_rfl
  | 11, _ => by kernel_rfl
  | 12, _ => by kernel_rfl
  | 13, _ => by kernel_rfl
  | 14, _ => by kernel_rfl
  | 15, _ => by kernel_rfl
  | 16, _ => by kernel_rfl
  | 17, _ => by kernel_rfl
  | 18, _ => by kernel_rfl
  | 19, _ => by kernel_rfl
  | 20, _ => by kernel_rfl
  | 21, _ => by kernel_rfl
  | 22, _ => by kernel_rfl
  | 23, _ => by kernel_rfl
  | 24, _ => by kernel_rfl
  | 25, _ => by kernel_rfl
  | 26, _ => by kernel_rfl
  | n + 27, h => absurd h (by omega)
theorem ev_fields (i : Nat) (hi : i < 27) (this that : J.W) (z : Z) : bFields [.int (i : Nat), ee i this that] z = .ok (.lst (vv i this that)) z :=
  match i, hi with
  | 0, _ => by kernel_rfl
  | 1, _ => by kernel_rfl
  | 2, _ => by kernel_rfl
  | 3, _ => by kernel_rfl
  | 4, _ => by kernel_rfl
  | 5, _ => by kernel_rfl
  | 6, _ => by kernel_rfl
  | 7, _ => by kernel_rfl
  | 8, _ => by kernel_rfl
  | 9, _ => by kernel_rfl
  | 10, _ => by kernel_rfl
  | 11, _ => by kernel_rfl
  | 12, _ => by kernel_rfl
  | 13, _ => by kernel_rfl
  | 14, _ => by kernel_rfl
  | 15, _ => by kernel_rfl
  | 16, _ => by kernel_rfl
  | 17, _ => by kernel_rfl
  | 18, _ => by kernel_rfl
  | 19, _ => by kernel_rfl
  | 20, _ => by kernel_rfl
  | 21, _ => by kernel_rfl
  | 22, _ => by kernel_rfl
  | 23, _ => by kernel_rfl
  | 24, _ => by kernel_rfl
  | 25, _ => by kernel_rfl
  | 26, _ => by kernel_rfl
  | n + 27, h => absurd h (by omega)
theorem ev_raised (i : Nat) (hi : i < 27) (this that : J.W) (z : Z) : bRaised [.int (i : Nat), this, that] z = .ok (ee i this that) z :=
  match i, hi with
  | 0, _ => by kernel_rfl
  | 1, _ => by kernel_rfl
  | 2, _ => by kernel_rfl
  | 3, _ => by kernel_rfl
  | 4, _ => by kernel_rfl
  | 5, _ => by kernel_rfl
  | 6, _ => by kernel_rfl
  | 7, _ => by kernel_rfl
  | 8, _ => by kernel_rfl
  | 9, _ => by kernel_rfl
  | 10, _ => by kernel_rfl
  | 11, _ => by kernel_rfl
  | 12, _ => by kernel_rfl
  | 13, _ => by kernel_rfl
  | 14, _ => by kernel_rfl
  | 15, _ => by kernel_rfl
  | 16, _ => by kernel_rfl
  | 17, _ => by kernel_rfl
  | 18, _ => by kernel_rfl
  | 19, _ => by kernel_rfl
  | 20, _ => by kernel_rfl
  | 21, _ => by kernel_rfl
  | 22, _ => by kernel_rfl
  | 23, _ => by kernel_rfl
  | 24, _ => by kernel_rfl
  | 25, _ => by kernel_rfl
  | 26, _ => by kernel_rfl
  | n + 27, h => absurd h (by omega)
theorem ev_names (this that : J.W) (z : Z) : bByNames [this, that] z = .ok (.lst ((List.range 27).map fun i => ee i this that)) z := by kernel_rfl
theorem rt1 (i : Nat) (hi : i < 27) (this that : J.W) (z : Z) : mIsRight_s1 [some (.int (i : Nat)), some this, some that, some (ee i this that), none, none, none] z = .ok (.nx [some (.int (i : Nat)), some this, some that, some (ee i this that), none, none, none]) z :=
  match i, hi with
  | 0, _ => by kernel_rfl
  | 1, _ => by kernel_rfl
  | 2, _ => by kernel_rfl
  | 3, _ => by kernel_rfl
  | 4, _ => by kernel_rfl
  | 5, _ => by kernel_rfl
  | 6, _ => by kernel_rfl
  | 7, _ => by kernel_rfl
  | 8, _ => by kernel_rfl
  | 9, _ => by kernel_rfl
  | 10, _ => by kernel_rfl
  | 11, _ => by kernel_rfl
  | 12, _ => by kernel_rfl
  | 13, _ => by kernel_rfl
  | 14, _ => by kernel_rfl
  | 15, _ => by kernel_rfl
  | 16, _ => by kernel_rfl
  | 17, _ => by kernel_rfl
  | 18, _ => by kernel_rfl
  | 19, _ => by kernel_rfl
  | 20, _ => by kernel_rfl
  | 21, _ => by kernel_rfl
  | 22, _ => by kernel_rfl
  | 23, _ => by kernel_rfl
  | 24, _ => by kernel_rfl
  | 25, _ => by kernel_rfl
  | 26, _ => by kernel_rfl
  | n + 27, h => absurd h (by omega)
theorem rt2 (i : Nat) (hi : i < 27) (this that : J.W) (z : Z) : mIsRight_s2 [some (.int (i : Nat)), some this, some that, some (ee i this that), none, none, none] z = .ok (.nx [some (.int (i : Nat)), some this, some that, some (ee i this that), some (.int (fam i : Nat)), none, none]) z :=
  match i, hi with
  | 0, _ => by kernel_rfl
  | 1, _ => by kernel_rfl
  | 2, _ => by kernel_rfl
  | 3, _ => by kernel_rfl
  | 4, _ => by kernel_rfl
  | 5, _ => by kernel_rfl
  | 6, _ => by kernel_rfl
  | 7, _ => by kernel_rfl
  | 8, _ => by kernel_rfl
  | 9, _ => by kernel_rfl
  | 10, _ => by kernel_rfl
  | 11, _ => by kernel_rfl
  | 12, _ => by kernel_rfl
  | 13, _ => by kernel_rfl
  | 14, _ => by kernel_rfl
  | 15, _ => by kernel_rfl
  | 16, _ => by kernel_rfl
  | 17, _ => by kernel_rfl
  | 18, _ => by kernel_rfl
  | 19, _ => by kernel_rfl
  | 20, _ => by kernel_rfl
  | 21, _ => by kernel_rfl
  | 22, _ => by kernel_rfl
  | 23, _ => by kernel_rfl
  | 24, _ => by kernel_rfl
  | 25, _ => by kernel_rfl
  | 26, _ => by kernel_rfl
  | n + 27, h => absurd h (by omega)
theorem rt3 (i : Nat) (hi : i < 27) (this that : J.W) (z : Z) : mIsRight_s3 [some (.int (i : Nat)), some this, some that, some (ee i this that), some (.int (fam i : Nat)), none, none] z = .ok (.nx [some (.int (i : Nat)), some this, some that, some (ee i this that), some (.int (fam i : Nat)), some (.lst ((fdue i).map .bl)), none]) z :=
  match i, hi with
  | 0, _ => by kernel_rfl
  | 1, _ => by kernel_rfl
  | 2, _ => by kernel_rfl
  | 3, _ => by kernel_rfl
  | 4, _ => by kernel_rfl
  | 5, _ => by kernel_rfl
  | 6, _ => by kernel_rfl
  | 7, _ => by kernel_rfl
  | 8, _ => by kernel_rfl
  | 9, _ => by kernel_rfl
  | 10, _ => by kernel_rfl
  | 11, _ => by kernel_rfl
  | 12, _ => by kernel_rfl
  | 13, _ => by kernel_rfl
  | 14, _ => by kernel_rfl
  | 15, _ => by kernel_rfl
  | 16, _ => by kernel_rfl
  | 17, _ => by kernel_rfl
  | 18, _ => by kernel_rfl
  | 19, _ => by kernel_rfl
  | 20, _ => by kernel_rfl
  | 21, _ => by kernel_rfl
  | 22, _ => by kernel_rfl
  | 23, _ => by kernel_rfl
  | 24, _ => by kernel_rfl
  | 25, _ => by kernel_rfl
  | 26, _ => by kernel_rfl
  | n + 27, h => absurd h (by omega)
def rF : ME := mOp eqW (mCall bFamilies [] (aCons (mVar 3) aNil)) (mVar 5)
def rA : MA := aCons (mCall bFields [] (aCons (mVar 0) (aCons (mVar 3) aNil))) aNil
def rB : MA := aCons (mIf (mBo (mOp eqW (mVar 0) (mC (.int 1)))) (mLst (aCons (mVar 1) (aCons (mVar 2) aNil))) (mLst (aCons (mVar 1) aNil))) aNil
theorem rt4 : mIsRight_s4 = sRet (mAndV rF (mOp eqW (mCB reprW rA) (mCB reprW rB))) := rfl
theorem rt5 (i : Nat) (hi : i < 27) (this that : J.W) (z : Z) : rF [some (.int (i : Nat)), some this, some that, some (ee i this that), some (.int (fam i : Nat)), some (.lst ((fdue i).map .bl)), none] z = .ok (.bl true) z :=
  match i, hi with
  | 0, _ => by kernel_rfl
  | 1, _ => by kernel_rfl
  | 2, _ => by kernel_rfl
  | 3, _ => by kernel_rfl
  | 4, _ => by kernel_rfl
  | 5, _ => by kernel_rfl
  | 6, _ => by kernel_rfl
  | 7, _ => by kernel_rfl
  | 8, _ => by kernel_rfl
  | 9, _ => by kernel_rfl
  | 10, _ => by kernel_rfl
  | 11, _ => by kernel_rfl
  | 12, _ => by kernel_rfl
  | 13, _ => by kernel_rfl
  | 14, _ => by kernel_rfl
  | 15, _ => by kernel_rfl
  | 16, _ => by kernel_rfl
  | 17, _ => by kernel_rfl
  | 18, _ => by kernel_rfl
  | 19, _ => by kernel_rfl
  | 20, _ => by kernel_rfl
  | 21, _ => by kernel_rfl
  | 22, _ => by kernel_rfl
  | 23, _ => by kernel_rfl
  | 24, _ => by kernel_rfl
  | 25, _ => by kernel_rfl
  | 26, _ => by kernel_rfl
  | n + 27, h => absurd h (by omega)
theorem rt6 (i : Nat) (hi : i < 27) (this that : J.W) (z : Z) : rA [some (.int (i : Nat)), some this, some that, some (ee i this that), some (.int (fam i : Nat)), some (.lst ((fdue i).map .bl)), none] z = .ok [.lst (vv i this that)] z :=
  match i, hi with
  | 0, _ => by kernel_rfl
  | 1, _ => by kernel_rfl
  | 2, _ => by kernel_rfl
  | 3, _ => by kernel_rfl
  | 4, _ => by kernel_rfl
  | 5, _ => by kernel_rfl
  | 6, _ => by kernel_rfl
  | 7, _ => by kernel_rfl
  | 8, _ => by kernel_rfl
  | 9, _ => by kernel_rfl
  | 10, _ => by kernel_rfl
  | 11, _ => by kernel_rfl
  | 12, _ => by kernel_rfl
  | 13, _ => by kernel_rfl
  | 14, _ => by kernel_rfl
  | 15, _ => by kernel_rfl
  | 16, _ => by kernel_rfl
  | 17, _ => by kernel_rfl
  | 18, _ => by kernel_rfl
  | 19, _ => by kernel_rfl
  | 20, _ => by kernel_rfl
  | 21, _ => by kernel_rfl
  | 22, _ => by kernel_rfl
  | 23, _ => by kernel_rfl
  | 24, _ => by kernel_rfl
  | 25, _ => by kernel_rfl
  | 26, _ => by kernel_rfl
  | n + 27, h => absurd h (by omega)
theorem rt7 (i : Nat) (hi : i < 27) (this that : J.W) (z : Z) : rB [some (.int (i : Nat)), some this, some that, some (ee i this that), some (.int (fam i : Nat)), some (.lst ((fdue i).map .bl)), none] z = .ok [.lst (vv i this that)] z :=
  match i, hi with
  | 0, _ => by kernel_rfl
  | 1, _ => by kernel_rfl
  | 2, _ => by kernel_rfl
  | 3, _ => by kernel_rfl
  | 4, _ => by kernel_rfl
  | 5, _ => by kernel_rfl
  | 6, _ => by kernel_rfl
  | 7, _ => by kernel_rfl
  | 8, _ => by kernel_rfl
  | 9, _ => by kernel_rfl
  | 10, _ => by kernel_rfl
  | 11, _ => by kernel_rfl
  | 12, _ => by kernel_rfl
  | 13, _ => by kernel_rfl
  | 14, _ => by kernel_rfl
  | 15, _ => by kernel_rfl
  | 16, _ => by kernel_rfl
  | 17, _ => by kernel_rfl
  | 18, _ => by kernel_rfl
  | 19, _ => by kernel_rfl
  | 20, _ => by kernel_rfl
  | 21, _ => by kernel_rfl
  | 22, _ => by kernel_rfl
  | 23, _ => by kernel_rfl
  | 24, _ => by kernel_rfl
  | 25, _ => by kernel_rfl
  | 26, _ => by kernel_rfl
  | n + 27, h => absurd h (by omega)
theorem ev_right (i : Nat) (hi : i < 27) (this that : J.W) (z : Z) (s : Str) (h : reprW [.lst (vv i this that)] z = .ok (.str s) z) : bIsRight [.int (i : Nat), this, that, ee i this that] z = .ok (.bl true) z := by
  show outF (mIsRight [some (.int (i : Nat)), some this, some that, some (ee i this that), none, none, none] z) = _
  have e4 : mIsRight_s4 [some (.int (i : Nat)), some this, some that, some (ee i this that), some (.int (fam i : Nat)), some (.lst ((fdue i).map .bl)), none] z = .ok (.rt (.bl true)) z := by
    rw [rt4]
    simp only [sRet, mAndV, mOp, mCB, rt5 i hi, rt6 i hi, rt7 i hi, Res.bind, Res.st, h, eqW_str]
  unfold mIsRight
  rw [seq_nx (rt1 i hi this that z), seq_nx (rt2 i hi this that z), seq_nx (rt3 i hi this that z), e4]
  rfl
/-! ### numbers and things -/
theorem ev_mixed (c : Int) (k : Int) (h0 : 0 ≤ k) (hk : k < 1000) (z : Z) : ∃ n : Int, bMixed [.int c, .int k] z = .ok (.int n) z ∧ 0 ≤ n ∧ n < 2147483629 := by
  have c1 : cMul (7919 * k) k = true := by simp only [cMul, decide_eq_true_eq]; omega
  have c2 : ∀ i, cMul 7919 i = true := fun i => by simp only [cMul, decide_eq_true_eq]; omega
  have c3 : ∀ i, cMul 104729 i = true := fun i => by simp only [cMul, decide_eq_true_eq]; omega
  have c4 : ∀ i, cMul i 48271 = true := fun i => by simp only [cMul, decide_eq_true_eq]; omega
  have c5 : ∀ i, cMul 2 i = true := fun i => by simp only [cMul, decide_eq_true_eq]; omega
  have c6 : ∀ x j : Int, cMul (x % 2147483647) j = true := fun x j => by
    have h1 := Int.emod_nonneg x (show (2147483647 : Int) ≠ 0 by decide)
    have h2 := Int.emod_lt_of_pos x (show (0 : Int) < 2147483647 by decide)
    simp only [cMul, decide_eq_true_eq]; omega
  refine ⟨((c % 2147483629 + 7919 * k * k + 104729 * k + 17) * 48271 % 2147483647) * ((c % 2147483629 + 7919 * k * k + 104729 * k + 17) * 48271 % 2147483647 + 2 * k + 5) % 2147483629 / 16, ?_, ?_⟩
  · show outF (mMixed [some (.int c), some (.int k), none] z) = _
    simp only [mMixed, sSeq, sSet, sRet, mOp, mVar, mC, modW, mulW, mulI, addW, divW, iOp, ofO, Res.bind, Res.st, c1, c2, c3, c4, c5, c6, List.getElem?_cons_zero, List.getElem?_cons_succ, List.set_cons_zero, List.set_cons_succ, if_true, decide_true, outF, show (decide ((0:Int) < 2147483629)) = true from rfl, show (decide ((0:Int) < 2147483647)) = true from rfl, show (decide ((0:Int) < 16 ∧ (16 : Int) < 1073741824)) = true from rfl]
  · constructor <;> omega
end K01
namespace K01
open PySem PySem.Spec PyProof.Rows L2 J
theorem k_line : 1000 < sizeLine := by decide
/-- what a refusal is made of -/
def Gd (w : J.W) : Prop := ∃ d, dat w = some d ∧ d.showable = true ∧ d.shown.length ≤ 100 ∧ d.depth ≤ 3
theorem gd_of {w : J.W} (d : PyData) (h : dat w = some d) (h2 : (d.showable && decide (d.shown.length ≤ 100) && decide (d.depth ≤ 3)) = true) : Gd w := by
  obtain ⟨h3, h4⟩ := Bool.and_eq_true_iff.mp h2
  obtain ⟨h5, h6⟩ := Bool.and_eq_true_iff.mp h3
  exact ⟨d, h, h5, of_decide_eq_true h6, of_decide_eq_true h4⟩
theorem gd_small : ∀ m : Fin 1000, ((PyData.int (m.val : Nat)).showable && decide ((PyData.int (m.val : Nat)).shown.length ≤ 100) && decide ((PyData.int (m.val : Nat)).depth ≤ 3)) = true := by
  decide +kernel
theorem gd_int {n : Int} (h0 : 0 ≤ n) (h1 : n < 1000) : Gd (.int n) := by
  obtain ⟨m, rfl⟩ := Int.eq_ofNat_of_zero_le h0
  exact gd_of (.int (m : Nat)) rfl (gd_small ⟨m, by omega⟩)
theorem repr1 {a : J.W} (h : Gd a) (z : Z) : ∃ s, reprW [.lst [a]] z = .ok (.str s) z := by
  obtain ⟨d, h1, h2, h3, h4⟩ := h
  refine ⟨(PyData.list [d]).shown, ?_⟩
  have e : datZ z (.lst [a]) = some (.list [d]) := by
    simp only [datZ, dat, datL, h1, Option.bind_some, Option.map_some]
  have hs : (PyData.list [d]).showable = true := by simp only [PyData.showable, PyData.showableAll, h2, Bool.and_self]
  have hl : (PyData.list [d]).shown.length ≤ sizeLine := by
    simp only [PyData.shown, PyData.shownAll, listText, textFrom, strLen_append]
    have e1 : ("[" : Str).length = 1 := by decide +kernel
    have e2 : ("]" : Str).length = 1 := by decide +kernel
    have e3 : (Str.ofString (if 0 > 0 then ", " else "" : String)).length = 0 := by decide +kernel
    rw [e1, e2, e3]
    have := k_line
    omega
  have hd : (PyData.list [d]).depth ≤ 64 := by simp only [PyData.depth, PyData.depthAll]; omega
  simp only [reprW, e, hs, decide_eq_true hl, decide_eq_true hd, Bool.and_self, if_true]
theorem repr2 {a b : J.W} (h : Gd a) (h' : Gd b) (z : Z) : ∃ s, reprW [.lst [a, b]] z = .ok (.str s) z := by
  obtain ⟨d, h1, h2, h3, h4⟩ := h
  obtain ⟨d', h1', h2', h3', h4'⟩ := h'
  refine ⟨(PyData.list [d, d']).shown, ?_⟩
  have e : datZ z (.lst [a, b]) = some (.list [d, d']) := by
    simp only [datZ, dat, datL, h1, h1', Option.bind_some, Option.map_some]
  have hs : (PyData.list [d, d']).showable = true := by simp only [PyData.showable, PyData.showableAll, h2, h2', Bool.and_self]
  have hl : (PyData.list [d, d']).shown.length ≤ sizeLine := by
    simp only [PyData.shown, PyData.shownAll, listText, textFrom, strLen_append]
    have e1 : ("[" : Str).length = 1 := by decide +kernel
    have e2 : ("]" : Str).length = 1 := by decide +kernel
    have e3 : (Str.ofString (if 0 > 0 then ", " else "" : String)).length = 0 := by decide +kernel
    have e4 : (Str.ofString (if 0 + 1 > 0 then ", " else "" : String)).length = 2 := by decide +kernel
    rw [e1, e2, e3, e4]
    have := k_line
    omega
  have hd : (PyData.list [d, d']).depth ≤ 64 := by simp only [PyData.depth, PyData.depthAll]; omega
  simp only [reprW, e, hs, decide_eq_true hl, decide_eq_true hd, Bool.and_self, if_true]
theorem right_ok (i : Nat) (hi : i < 27) {this that : J.W} (h1 : Gd this) (h2 : Gd that) (z : Z) : bIsRight [.int (i : Nat), this, that, ee i this that] z = .ok (.bl true) z := by
  by_cases c : i = 1
  · obtain ⟨s, hs⟩ := repr2 h1 h2 z
    exact ev_right i hi this that z s (by rw [vv, if_pos c]; exact hs)
  · obtain ⟨s, hs⟩ := repr1 h1 z
    exact ev_right i hi this that z s (by rw [vv, if_neg c]; exact hs)
def some10 (n : Int) : List J.W := [.str "", .str "form", .non, .int 0, .int 1, .int (n % 1000), .int (10 ^ 18), .tup [.str "a", .str "b"], .tup [], .bl true]
theorem ev_thing (n : Int) (h0 : 0 ≤ n) (z : Z) : ∃ w, bThing [.int n] z = .ok w z ∧ Gd w := by
  have e : bThing [.int n] z = (match ixW (.lst (some10 n)) (.int (n / 1000 % 10)) z with | .ok w z => .ok w z | .ex x z => .ex x z | .bad => .bad) := by
    show outF (mThing [some (.int n), none] z) = _
    have e1 : ∀ (k : MS), sSeq (sSet 1 (mC (.lst (some10 n)))) k [some (.int n), none] z = k [some (.int n), some (.lst (some10 n))] z := fun k => rfl
    have e2 : mThing [some (.int n), none] z = sRet (mOp ixW (mVar 1) (mOp modW (mOp divW (mVar 0) (mC (.int 1000))) (mC (.int 10)))) [some (.int n), some (.lst (some10 n))] z := rfl
    rw [e2]
    have e3 : mOp ixW (mVar 1) (mOp modW (mOp divW (mVar 0) (mC (.int 1000))) (mC (.int 10))) [some (.int n), some (.lst (some10 n))] z = ixW (.lst (some10 n)) (.int (n / 1000 % 10)) z := rfl
    simp only [sRet, e3]
    cases ixW (.lst (some10 n)) (.int (n / 1000 % 10)) z <;> rfl
  have hj : n / 1000 % 10 = 0 ∨ n / 1000 % 10 = 1 ∨ n / 1000 % 10 = 2 ∨ n / 1000 % 10 = 3 ∨ n / 1000 % 10 = 4 ∨ n / 1000 % 10 = 5 ∨ n / 1000 % 10 = 6 ∨ n / 1000 % 10 = 7 ∨ n / 1000 % 10 = 8 ∨ n / 1000 % 10 = 9 := by omega
  rcases hj with h | h | h | h | h | h | h | h | h | h <;> rw [h] at e
  · exact ⟨_, e.trans rfl, gd_of (.str "") rfl (by decide +kernel)⟩
  · exact ⟨_, e.trans rfl, gd_of (.str "form") rfl (by decide +kernel)⟩
  · exact ⟨_, e.trans rfl, gd_of .none rfl (by decide +kernel)⟩
  · exact ⟨_, e.trans rfl, gd_of (.int 0) rfl (by decide +kernel)⟩
  · exact ⟨_, e.trans rfl, gd_of (.int 1) rfl (by decide +kernel)⟩
  · exact ⟨.int (n % 1000), e.trans rfl, gd_int (by omega) (by omega)⟩
  · exact ⟨_, e.trans rfl, gd_of (.int (10 ^ 18)) rfl (by decide +kernel)⟩
  · exact ⟨_, e.trans rfl, gd_of (.tuple [.str "a", .str "b"]) rfl (by decide +kernel)⟩
  · exact ⟨_, e.trans rfl, gd_of (.tuple []) rfl (by decide +kernel)⟩
  · exact ⟨_, e.trans rfl, gd_of (.bool true) rfl (by decide +kernel)⟩
end K01
namespace K01
open PySem PySem.Spec PyProof.Rows L2 J
theorem last_ix (rows : List J.W) (x : J.W) : L2.atI (rows ++ [x]) (-1) = some x := by
  unfold L2.atI L2.ixN
  rw [if_neg (by decide), List.length_append, List.length_singleton]
  have h : -((rows.length + 1 : Nat) : Int) ≤ -1 := by omega
  rw [if_pos h]
  have e : (-1 + ((rows.length + 1 : Nat) : Int)).toNat = rows.length := by omega
  rw [e, Option.bind_some, List.getElem?_append_right (Nat.le_refl _), Nat.sub_self]
  rfl
/-- what the law's own parts do -/
structure Hq (G : J.W → Prop) (E : Nat → J.W → J.W → J.W) (q0 q1 q2 q3 q4 : Fn) : Prop where
  mixed : ∀ (c k : Int) (z : Z), 0 ≤ k → k < 1000 → ∃ n : Int, q0 [.int c, .int k] z = .ok (.int n) z ∧ 0 ≤ n ∧ n < 2147483629
  thing : ∀ (n : Int) (z : Z), 0 ≤ n → ∃ w, q1 [.int n] z = .ok w z ∧ G w
  names : ∀ (this that : J.W) (z : Z), q2 [this, that] z = .ok (.lst ((List.range 27).map fun i => E i this that)) z
  right : ∀ (i : Nat) (this that : J.W) (z : Z), i < 27 → G this → G that → q3 [.int (i : Nat), this, that, E i this that] z = .ok (.bl true) z
  raised : ∀ (i : Nat) (this that : J.W) (z : Z), i < 27 → q4 [.int (i : Nat), this, that] z = .ok (E i this that) z
theorem hq : Hq Gd ee bMixed bThing bByNames bIsRight bRaised where
  mixed := fun c k z h0 hk => ev_mixed c k h0 hk z
  thing := fun n z h => ev_thing n h z
  names := ev_names
  right := fun i this that z hi h1 h2 => right_ok i hi h1 h2 z
  raised := fun i this that z hi => ev_raised i hi this that z
section
variable {G : J.W → Prop} {E : Nat → J.W → J.W → J.W} {q0 q1 q2 q3 q4 : Fn} (hh : Hq G E q0 q1 q2 q3 q4)
include hh
theorem body6 (scr a2 a3 a7 a8 a9 a10 : Option J.W) (num : Int) (turn i : Nat) (hi : i < 27) (ht : turn < 3) (rows : List J.W) (hr : rows.length < 1000) :
    ∃ this that, G this ∧ G that ∧ mLaw_b6 q0 q1 q2 q3 q4 [scr, some (.ob 0), a2, a3, some (.int num), some (.int (turn : Nat)), some (.int (i : Nat)), a7, a8, a9, a10] [some (.lst rows)] =
      .ok (.nx [scr, some (.ob 0), a2, a3, some (.int num), some (.int (turn : Nat)), some (.int (i : Nat)), some this, some that, a9, a10]) [some (.lst (rows ++ [.tup [.int (i : Nat), this, that, E i this that]]))] := by
  obtain ⟨n1, m1, p1, _⟩ := hh.mixed num (3 + (turn : Nat)) [some (.lst rows)] (by omega) (by omega)
  obtain ⟨n2, m2, p2, _⟩ := hh.mixed num (13 + (turn : Nat)) [some (.lst rows)] (by omega) (by omega)
  obtain ⟨this, t1, g1⟩ := hh.thing n1 [some (.lst rows)] p1
  obtain ⟨that, t2, g2⟩ := hh.thing n2 [some (.lst rows)] p2
  refine ⟨this, that, g1, g2, ?_⟩
  have hs : rows.length < sizeLine := Nat.lt_trans hr k_line
  have l4 : (4 : Nat) ≤ sizeLine := Nat.le_trans (by decide) (Nat.le_of_lt k_line)
  unfold mLaw_b6
  have e2 : mLaw_s2 q0 q1 q2 q3 q4 [scr, some (.ob 0), a2, a3, some (.int num), some (.int (turn : Nat)), some (.int (i : Nat)), a7, a8, a9, a10] [some (.lst rows)] = .ok (.nx [scr, some (.ob 0), a2, a3, some (.int num), some (.int (turn : Nat)), some (.int (i : Nat)), some this, some that, a9, a10]) [some (.lst rows)] := by
    simp only [mLaw_s2, sPar, aCons, aNil, mCall, mVar, mC, mOp, addW, Res.bind, Res.st, List.getElem?_cons_zero, List.getElem?_cons_succ, List.append_nil, m1, m2, t1, t2, List.set_cons_zero, List.set_cons_succ]
  rw [seq_nx e2]
  have er := hh.raised i this that [some (.lst rows)] hi
  have e3 : mLaw_s3 q0 q1 q2 q3 q4 [scr, some (.ob 0), a2, a3, some (.int num), some (.int (turn : Nat)), some (.int (i : Nat)), some this, some that, a9, a10] [some (.lst rows)] = .ok (.nx [scr, some (.ob 0), a2, a3, some (.int num), some (.int (turn : Nat)), some (.int (i : Nat)), some this, some that, a9, a10]) [some (.lst (rows ++ [.tup [.int (i : Nat), this, that, E i this that]]))] := by
    simp only [mLaw_s3, sExp, mMt, okL, rlOf, lsOf, appW, mTup, aCons, aNil, mCall, mVar, mC, Res.bind, Res.st, List.getElem?_cons_zero, List.getElem?_cons_succ, List.append_nil, er, List.length_cons, List.length_nil, Nat.zero_add, l4, if_true, hs, Option.isSome_some, List.set_cons_zero]
  rw [seq_nx e3]
  have e4 : L2.atI [J.W.int (i : Nat), this, that, E i this that] 3 = some (E i this that) := rfl
  have e5 := fun z => hh.right i this that z hi g1 g2
  simp only [mLaw_s5, sIf, mNot, mTru, mCall, aCons, aNil, mVar, mC, mOp, mUn, negW, ixW, sqOf, rlOf, lsOf, Res.bind, Res.st, List.getElem?_cons_zero, List.getElem?_cons_succ, List.append_nil, last_ix, ofO, e4, e5, truW, Bool.not_true, sPass]
  rfl
def Rw (G : J.W → Prop) (E : Nat → J.W → J.W → J.W) (w : J.W) : Prop := ∃ (i : Nat) (this that : J.W), i < 27 ∧ G this ∧ G that ∧ w = .tup [.int (i : Nat), this, that, E i this that]
end
section
variable {G : J.W → Prop} {E : Nat → J.W → J.W → J.W} {q0 q1 q2 q3 q4 : Fn} (hh : Hq G E q0 q1 q2 q3 q4)
theorem en_lst {m : ME} {r : Sl} {z z1 : Z} {xs : List J.W} (h : m r z = .ok (.lst xs) z1) : mEn (aCons m aNil) r z = .ok (nxF (enF xs 0), (enF xs 0).length) z1 := by
  simp only [mEn, aCons, aNil, h, Res.bind, enW, enF_length]
theorem en_at {xs : List J.W} {i : Nat} {w : J.W} (h : (enF xs 0)[i]? = some w) : ∃ x, xs[i]? = some x ∧ w = .tup [.int (i : Nat), x] := by
  rw [enF_get] at h
  obtain ⟨x, h1, h2⟩ := Option.map_eq_some_iff.mp h
  exact ⟨x, h1, by rw [← h2, Nat.zero_add]⟩
theorem for_en {m : ME} {f : J.W → Sl → Option Sl} {mb : MS} {r : Sl} {z z1 : Z} {xs : List J.W} (hm : m r z = .ok (.lst xs) z1) (I : Nat → Sl → Z → Prop)
    (h : ∀ i x r z, xs[i]? = some x → I i r z → ∃ r', f (.tup [.int (i : Nat), x]) r = some r' ∧ ∃ r2 z2, mb r' z = .ok (.nx r2) z2 ∧ I (i + 1) r2 z2) (h0 : I 0 r z1) :
    ∃ r2 z2, sFor (mEn (aCons m aNil)) f mb r z = .ok (.nx r2) z2 ∧ I xs.length r2 z2 := by
  obtain ⟨r2, z2, e, hI⟩ := for_nx (xs := enF xs 0) (f := f) (mb := mb) I (fun i w r z hw hI => by
    obtain ⟨x, hx, rfl⟩ := en_at hw
    exact h i x r z hx hI) (enF xs 0).length 0 r z1 (by omega) h0
  refine ⟨r2, z2, ?_, by rw [enF_length] at hI; exact hI⟩
  simp only [sFor, en_lst hm, Res.st]
  exact e
theorem nat27 (a : Int) : ∃ m : Nat, m < 27 ∧ a % 27 = (m : Nat) := ⟨(a % 27).toNat, by omega, by omega⟩
def Iv (G : J.W → Prop) (E : Nat → J.W → J.W → J.W) (scr : Option J.W) (n : Nat) (r : Sl) (z : Z) : Prop := ∃ (a2 a3 a4 a5 a6 a7 a8 a9 a10 : Option J.W) (rows : List J.W), r = [scr, some (.ob 0), a2, a3, a4, a5, a6, a7, a8, a9, a10] ∧ z = [some (.lst rows)] ∧ (∀ w ∈ rows, Rw G E w) ∧ rows.length ≤ n
include hh
theorem loop7 (scr a2 a3 a5 a6 a7 a8 a9 a10 : Option J.W) (num : Int) (rows : List J.W) (n : Nat) (hr : ∀ w ∈ rows, Rw G E w) (hl : rows.length ≤ n) (hn : n < 900) :
    ∃ b5 b6 b7 b8 rows', mLaw_s7 q0 q1 q2 q3 q4 [scr, some (.ob 0), a2, a3, some (.int num), a5, a6, a7, a8, a9, a10] [some (.lst rows)] = .ok (.nx [scr, some (.ob 0), a2, a3, some (.int num), b5, b6, b7, b8, a9, a10]) [some (.lst rows')] ∧ (∀ w ∈ rows', Rw G E w) ∧ rows'.length ≤ n + 3 := by
  obtain ⟨m1, h1, e1⟩ := nat27 num
  obtain ⟨m2, h2, e2⟩ := nat27 (num / 27)
  have l3 : (3 : Nat) ≤ sizeLine := Nat.le_trans (by decide) (Nat.le_of_lt k_line)
  have d27 : decide ((0 : Int) < 27) = true := rfl
  have d27' : decide ((0 : Int) < 27 ∧ (27 : Int) < 1073741824) = true := rfl
  have hm : mLst (aCons (mOp modW (mVar 4) (mC (.int 27))) (aCons (mOp modW (mOp divW (mVar 4) (mC (.int 27))) (mC (.int 27))) (aCons (mOp modW (mVar 4) (mC (.int 27))) aNil))) [scr, some (.ob 0), a2, a3, some (.int num), a5, a6, a7, a8, a9, a10] [some (.lst rows)] = .ok (.lst [.int (m1 : Nat), .int (m2 : Nat), .int (m1 : Nat)]) [some (.lst rows)] := by
    simp only [mLst, aCons, aNil, mOp, mVar, mC, modW, divW, iOp, ofO, Res.bind, List.getElem?_cons_zero, List.getElem?_cons_succ, d27, d27', if_true, e1, e2, List.length_cons, List.length_nil, Nat.zero_add, l3]
  obtain ⟨r2, z2, e, a5', a6', a7', a8', rows', er, ez, hr', hl'⟩ := for_en (f := fT 2 (fCons (fN 5) (fCons (fN 6) fNil))) (mb := mLaw_b6 q0 q1 q2 q3 q4) hm
    (fun i r z => ∃ (a5 a6 a7 a8 : Option J.W) (rows' : List J.W), r = [scr, some (.ob 0), a2, a3, some (.int num), a5, a6, a7, a8, a9, a10] ∧ z = [some (.lst rows')] ∧ (∀ w ∈ rows', Rw G E w) ∧ rows'.length ≤ n + i)
    (fun i x r z hx hI => by
      obtain ⟨a5, a6, a7, a8, rows', rfl, rfl, hr', hl'⟩ := hI
      have hi : i < 3 := by
        rcases Nat.lt_or_ge i 3 with q | q
        · exact q
        · rw [List.getElem?_eq_none (by simpa using q)] at hx; cases hx
      obtain ⟨m, hm27, rfl⟩ : ∃ m : Nat, m < 27 ∧ x = .int (m : Nat) := by
        match i, hi, hx with
        | 0, _, hx => cases hx; exact ⟨m1, h1, rfl⟩
        | 1, _, hx => cases hx; exact ⟨m2, h2, rfl⟩
        | 2, _, hx => cases hx; exact ⟨m1, h1, rfl⟩
      refine ⟨[scr, some (.ob 0), a2, a3, some (.int num), some (.int (i : Nat)), some (.int (m : Nat)), a7, a8, a9, a10], rfl, ?_⟩
      obtain ⟨this, that, g1, g2, eb⟩ := body6 hh scr a2 a3 a7 a8 a9 a10 num i m hm27 hi rows' (by omega)
      refine ⟨_, _, eb, _, _, _, _, _, rfl, rfl, ?_, ?_⟩
      · intro w hw
        rcases List.mem_append.mp hw with q | q
        · exact hr' w q
        · rw [List.mem_singleton.mp q]; exact ⟨m, this, that, hm27, g1, g2, rfl⟩
      · rw [List.length_append, List.length_singleton]; omega)
    ⟨a5, a6, a7, a8, rows, rfl, rfl, hr, by omega⟩
  subst er ez
  exact ⟨_, _, _, _, _, e, hr', hl'⟩
theorem loop12 (scr a2 a3 a4 a5 a6 a9 a10 : Option J.W) (this that : J.W) (g1 : G this) (g2 : G that) (z : Z) :
    ∃ b6 b9, mLaw_s12 q0 q1 q2 q3 q4 [scr, some (.ob 0), a2, a3, a4, a5, a6, some this, some that, a9, a10] z = .ok (.nx [scr, some (.ob 0), a2, a3, a4, a5, b6, some this, some that, b9, a10]) z := by
  have en := hh.names this that z
  have hm : mCall q2 [] (aCons (mVar 7) (aCons (mVar 8) aNil)) [scr, some (.ob 0), a2, a3, a4, a5, a6, some this, some that, a9, a10] z = .ok (.lst ((List.range 27).map fun i => E i this that)) z := by
    simp only [mCall, aCons, aNil, mVar, Res.bind, List.getElem?_cons_zero, List.getElem?_cons_succ, List.append_nil, en]
  obtain ⟨r2, z2, e, a6', a9', er, ez⟩ := for_en (f := fT 2 (fCons (fN 6) (fCons (fN 9) fNil))) (mb := mLaw_b11 q0 q1 q2 q3 q4) hm
    (fun i r z' => ∃ (a6 a9 : Option J.W), r = [scr, some (.ob 0), a2, a3, a4, a5, a6, some this, some that, a9, a10] ∧ z' = z)
    (fun i x r z' hx hI => by
      obtain ⟨a6, a9, rfl, rfl⟩ := hI
      rw [List.getElem?_map] at hx
      obtain ⟨j, hj, rfl⟩ := Option.map_eq_some_iff.mp hx
      have hi : i < 27 := by
        rcases Nat.lt_or_ge i 27 with q | q
        · exact q
        · rw [List.getElem?_eq_none (by simpa using q)] at hj; cases hj
      have hji : j = i := by
        rw [List.getElem?_range hi] at hj; cases hj; rfl
      subst hji
      refine ⟨[scr, some (.ob 0), a2, a3, a4, a5, some (.int (j : Nat)), some this, some that, some (E j this that), a10], rfl, ?_⟩
      refine ⟨[scr, some (.ob 0), a2, a3, a4, a5, some (.int (j : Nat)), some this, some that, some (E j this that), a10], z', ?_, _, _, rfl, rfl⟩
      have e5 := hh.right j this that z' hi g1 g2
      simp only [mLaw_b11, mLaw_s10, sIf, mNot, mTru, mCall, aCons, aNil, mVar, Res.bind, Res.st, List.getElem?_cons_zero, List.getElem?_cons_succ, List.append_nil, e5, truW, Bool.not_true, sPass]
      rfl)
    ⟨a6, a9, rfl, rfl⟩
  subst er ez
  exact ⟨_, _, e⟩
theorem body13 (scr : J.W) (a4 a5 a6 a7 a8 a9 a10 : Option J.W) (k : Nat) (hk : k < 1000) (c : Int) (rows : List J.W) (n : Nat) (hr : ∀ w ∈ rows, Rw G E w) (hl : rows.length ≤ n) (hn : n < 900) :
    ∃ b4 b5 b6 b7 b8 b9 rows', mLaw_b13 q0 q1 q2 q3 q4 [some scr, some (.ob 0), some (.int (k : Nat)), some (.int c), a4, a5, a6, a7, a8, a9, a10] [some (.lst rows)] = .ok (.nx [some scr, some (.ob 0), some (.int (k : Nat)), some (.int c), b4, b5, b6, b7, b8, b9, a10]) [some (.lst rows')] ∧ (∀ w ∈ rows', Rw G E w) ∧ rows'.length ≤ n + 3 := by
  obtain ⟨num, e0, p0, _⟩ := hh.mixed c (k : Nat) [some (.lst rows)] (by omega) (by omega)
  have e1 : mLaw_s1 q0 q1 q2 q3 q4 [some scr, some (.ob 0), some (.int (k : Nat)), some (.int c), a4, a5, a6, a7, a8, a9, a10] [some (.lst rows)] = .ok (.nx [some scr, some (.ob 0), some (.int (k : Nat)), some (.int c), some (.int num), a5, a6, a7, a8, a9, a10]) [some (.lst rows)] := by
    simp only [mLaw_s1, sSet, mCall, aCons, aNil, mVar, Res.bind, Res.st, List.getElem?_cons_zero, List.getElem?_cons_succ, List.append_nil, e0, List.set_cons_zero, List.set_cons_succ]
  obtain ⟨b5, b6, b7, b8, rows', e7, hr', hl'⟩ := loop7 hh (some scr) (some (.int (k : Nat))) (some (.int c)) a5 a6 a7 a8 a9 a10 num rows n hr hl hn
  obtain ⟨n1, m1, p1, _⟩ := hh.mixed num 31 [some (.lst rows')] (by omega) (by omega)
  obtain ⟨n2, m2, p2, _⟩ := hh.mixed num 37 [some (.lst rows')] (by omega) (by omega)
  obtain ⟨this, t1, g1⟩ := hh.thing n1 [some (.lst rows')] p1
  obtain ⟨that, t2, g2⟩ := hh.thing n2 [some (.lst rows')] p2
  have e8 : mLaw_s8 q0 q1 q2 q3 q4 [some scr, some (.ob 0), some (.int (k : Nat)), some (.int c), some (.int num), b5, b6, b7, b8, a9, a10] [some (.lst rows')] = .ok (.nx [some scr, some (.ob 0), some (.int (k : Nat)), some (.int c), some (.int num), b5, b6, some this, some that, a9, a10]) [some (.lst rows')] := by
    simp only [mLaw_s8, sPar, aCons, aNil, mCall, mVar, mC, Res.bind, Res.st, List.getElem?_cons_zero, List.getElem?_cons_succ, List.append_nil, m1, m2, t1, t2, List.set_cons_zero, List.set_cons_succ]
  obtain ⟨c6, c9, e12⟩ := loop12 hh (some scr) (some (.int (k : Nat))) (some (.int c)) (some (.int num)) b5 b6 a9 a10 this that g1 g2 [some (.lst rows')]
  refine ⟨some (.int num), b5, c6, some this, some that, c9, rows', ?_, hr', hl'⟩
  unfold mLaw_b13
  rw [seq_nx e1, seq_nx e7, seq_nx e8]
  exact e12
theorem loop14 (ns : List Int) :
    ∃ r rows, mLaw_s14 q0 q1 q2 q3 q4 [some (.rl (ns.map .int)), some (.ob 0), none, none, none, none, none, none, none, none, none] [some (.lst [])] = .ok (.nx r) [some (.lst rows)] ∧ (∀ w ∈ rows, Rw G E w) ∧ rows.length ≤ 63 ∧ (∃ a2 a3 a4 a5 a6 a7 a8 a9 a10, r = [some (.rl (ns.map .int)), some (.ob 0), a2, a3, a4, a5, a6, a7, a8, a9, a10]) := by
  obtain ⟨ms, hms, hlen⟩ : ∃ ms : List Int, cutW (ns.map J.W.int) none (some 20) = ms.map .int ∧ ms.length ≤ 20 := by
    refine ⟨ns.take (min 20 ns.length), ?_, ?_⟩
    · have e1 : HT.sIx (ns.map J.W.int).length 0 none = 0 := rfl
      have e2 : HT.sIx (ns.map J.W.int).length (ns.map J.W.int).length (some 20) = min 20 ns.length := by
        rw [List.length_map]; exact HT.sIx_nat ns.length ns.length 20
      unfold J.cutW
      rw [e1, e2, List.drop_zero, Nat.sub_zero, List.map_take]
    · rw [List.length_take]; omega
  have hadd : (ms.map J.W.int).length + 1 ≤ sizeLine := by
    rw [List.length_map]
    have := k_line
    omega
  have l1 : (1 : Nat) ≤ sizeLine := Nat.le_trans (by decide) (Nat.le_of_lt k_line)
  have hm : mOp addW (mSl slW (mVar 0) pNo (pSo (mC (.int 20)))) (mLst (aCons (mC (.int 7)) aNil)) [some (.rl (ns.map .int)), some (.ob 0), none, none, none, none, none, none, none, none, none] [some (.lst [])] = .ok (.lst ((ms ++ [7]).map .int)) [some (.lst [])] := by
    simp only [mOp, mSl, mVar, mC, pNo, pSo, slW, rlOf, lsOf, mLst, aCons, aNil, Res.bind, List.getElem?_cons_zero, hms, List.length_cons, List.length_nil, Nat.zero_add, l1, if_true, addW]
    rw [if_pos hadd, List.map_append]
    rfl
  obtain ⟨r2, z2, e, hI⟩ := for_en (f := fT 2 (fCons (fN 2) (fCons (fN 3) fNil))) (mb := mLaw_b13 q0 q1 q2 q3 q4) hm
    (fun i r z => ∃ (a2 a3 a4 a5 a6 a7 a8 a9 a10 : Option J.W) (rows : List J.W), r = [some (.rl (ns.map .int)), some (.ob 0), a2, a3, a4, a5, a6, a7, a8, a9, a10] ∧ z = [some (.lst rows)] ∧ (∀ w ∈ rows, Rw G E w) ∧ rows.length ≤ 3 * i)
    (fun i x r z hx hI => by
      obtain ⟨a2, a3, a4, a5, a6, a7, a8, a9, a10, rows, rfl, rfl, hr, hl⟩ := hI
      have hi : i < 21 := by
        rcases Nat.lt_or_ge i 21 with q | q
        · exact q
        · rw [List.getElem?_eq_none (by rw [List.length_map, List.length_append, List.length_singleton]; omega)] at hx; cases hx
      rw [List.getElem?_map] at hx
      obtain ⟨c, hc, rfl⟩ := Option.map_eq_some_iff.mp hx
      refine ⟨[some (.rl (ns.map .int)), some (.ob 0), some (.int (i : Nat)), some (.int c), a4, a5, a6, a7, a8, a9, a10], rfl, ?_⟩
      obtain ⟨b4, b5, b6, b7, b8, b9, rows', eb, hr', hl'⟩ := body13 hh (.rl (ns.map .int)) a4 a5 a6 a7 a8 a9 a10 i (by omega) c rows (3 * i) hr hl (by omega)
      exact ⟨_, _, eb, _, _, _, _, _, _, _, _, _, rows', rfl, rfl, hr', by omega⟩)
    ⟨none, none, none, none, none, none, none, none, none, [], rfl, rfl, (fun _ h => by cases h), Nat.le_refl _⟩
  obtain ⟨a2, a3, a4, a5, a6, a7, a8, a9, a10, rows, rfl, rfl, hr, hl⟩ := hI
  refine ⟨_, rows, e, hr, ?_, _, _, _, _, _, _, _, _, _, rfl⟩
  rw [List.length_map, List.length_append, List.length_singleton] at hl
  omega
theorem last15 (scr a2 a3 a4 a5 a6 a7 a8 a9 a10 : Option J.W) (rows : List J.W) (hr : ∀ w ∈ rows, Rw G E w) : mLaw_s15 q0 q1 q2 q3 q4 [scr, some (.ob 0), a2, a3, a4, a5, a6, a7, a8, a9, a10] [some (.lst rows)] = .ok (.rt (.bl true)) [some (.lst rows)] := by
  obtain ⟨acc, ea, hacc⟩ := lc_nx (nx := nxW (.ob 0)) (xs := rows) (f := fN 10) (mt := mNot (mTru (mCall q3 [] (aCons (mOp ixW (mVar 10) (mC (.int 0))) (aCons (mOp ixW (mVar 10) (mC (.int 1))) (aCons (mOp ixW (mVar 10) (mC (.int 2))) (aCons (mOp ixW (mVar 10) (mC (.int 3))) aNil)))))))
    (body := bOne (mVar 10)) (r := wipeR [scr, some (.ob 0), a2, a3, a4, a5, a6, a7, a8, a9, a10] [10]) (z := [some (.lst rows)]) (fun i => rfl) (fun _ acc => acc = [])
    (fun i w acc hw hI => by
      obtain ⟨j, this, that, hj, g1, g2, rfl⟩ := hr w (List.mem_of_getElem? hw)
      refine ⟨[scr, some (.ob 0), a2, a3, a4, a5, a6, a7, a8, a9, some (.tup [.int (j : Nat), this, that, E j this that])], false, rfl, ?_, ?_⟩
      · have e5 := hh.right j this that [some (.lst rows)] hj g1 g2
        have i0 : L2.atI [J.W.int (j : Nat), this, that, E j this that] 0 = some (.int (j : Nat)) := rfl
        have i1 : L2.atI [J.W.int (j : Nat), this, that, E j this that] 1 = some this := rfl
        have i2 : L2.atI [J.W.int (j : Nat), this, that, E j this that] 2 = some that := rfl
        have i3 : L2.atI [J.W.int (j : Nat), this, that, E j this that] 3 = some (E j this that) := rfl
        simp only [mNot, mTru, mCall, aCons, aNil, mVar, mC, mOp, ixW, sqOf, Res.bind, List.getElem?_cons_zero, List.getElem?_cons_succ, List.append_nil, i0, i1, i2, i3, ofO, e5, truW, Bool.not_true]
      · rw [if_neg (by decide)]; exact hI) rows.length 0 [] (by omega) rfl
  subst hacc
  have e1 : eqW (.lst []) (.lst []) [some (.lst rows)] = .ok (.bl true) [some (.lst rows)] := rfl
  simp only [mLaw_s15, sRet, mOp, mLc, mLcB, mSq, mVar, List.getElem?_cons_zero, List.getElem?_cons_succ, Res.bind, Res.st, srcW, rlOf, lsOf, Option.map_some, ea, Res.calm, mLst, aNil, List.length_nil, Nat.zero_le, if_true, e1]
end
theorem law_true (ns : List Int) : ∃ z, bLaw [.rl (ns.map .int)] [] = .ok (.bl true) z := by
  obtain ⟨r, rows, e14, hr, _, a2, a3, a4, a5, a6, a7, a8, a9, a10, rfl⟩ := loop14 hq ns
  refine ⟨[some (.lst rows)], ?_⟩
  have e15 := last15 hq (some (.rl (ns.map .int))) a2 a3 a4 a5 a6 a7 a8 a9 a10 rows hr
  have e0 : mLaw_s0 bMixed bThing bByNames bIsRight bRaised [some (.rl (ns.map .int)), none, none, none, none, none, none, none, none, none, none] [] = .ok (.nx [some (.rl (ns.map .int)), some (.ob 0), none, none, none, none, none, none, none, none, none]) [some (.lst [])] := rfl
  show outF (mLaw [some (.rl (ns.map .int)), none, none, none, none, none, none, none, none, none, none] []) = _
  show outF (sSeq (mLaw_s0 bMixed bThing bByNames bIsRight bRaised) (sSeq (mLaw_s14 bMixed bThing bByNames bIsRight bRaised) (mLaw_s15 bMixed bThing bByNames bIsRight bRaised)) [some (.rl (ns.map .int)), none, none, none, none, none, none, none, none, none, none] []) = _
  rw [seq_nx e0, seq_nx e14, e15]
  rfl
end K01
namespace K01
open PySem PySem.Spec PyProof.Rows L2 J
theorem facts {P : Program} {w : World} {K : PySem.W.Frag} {h : Heap} {mg : Str → Option Value} {f : Addr} (X : K.In h) (G : h.Ns mainGlobals mg) (hfa : mg ("law" : Str) = some (.ref f)) (c : He.SaysX fa fn more K) :
    ∃ fd : FuncData, (∀ (s : Shared) (v : Value), BindsTo s fd ⟨[v], []⟩ [("_law_script", v)]) ∧ ∀ base : Heap, K.In base → base.Ns mainGlobals mg → GOk P w K mg base (L2.CX P w) 5 f fd ["_law_script"] (spOf K bLaw) := by
  have T : ∀ base : Heap, TJ P w K mg base := fun base => { toTx := tx_mk X G c, c := c, mMixed := He.glo_ok X G (x := "_law_mixed") (c.fact 30), mRaiseOne := He.glo_ok X G (x := "_law_raise_one") (c.fact 31), mRaiseTwo := He.glo_ok X G (x := "_law_raise_two") (c.fact 32), mRaiseThree := He.glo_ok X G (x := "_law_raise_three") (c.fact 33), mByNames := He.glo_ok X G (x := "_law_by_names") (c.fact 34), mRaised := He.glo_ok X G (x := "_law_raised") (c.fact 35), mKinds := He.glo_ok X G (x := "_law_kinds") (c.fact 36), mFamilies := He.glo_ok X G (x := "_law_families") (c.fact 37), mFields := He.glo_ok X G (x := "_law_fields") (c.fact 38), mIsRight := He.glo_ok X G (x := "_law_is_right") (c.fact 39), mThing := He.glo_ok X G (x := "_law_thing") (c.fact 40), mLaw := He.glo_ok X G (x := "law") (c.fact 41) }
  obtain ⟨fd, F⟩ := c.def_ 38 (d := dLaw) rfl
  have e := hfa.symm.trans (T h).mLaw
  cases e
  have b := FunD.bindsA (ps := ["_law_script"]) F fun _ _ _ _ _ _ us hl => match us, hl with | [_], _ => rfl
  exact ⟨fd, fun s v => b s [v] rfl, fun base _ _ => gLaw (T base) F⟩
end K01
open PySem PySem.W PySem.Calls PyProof.Rows
theorem PySem.Challenge.cw_semirail_k01_three_families_holds : PySem.Challenge.rw_semirail_k01_three_families.Holds := by
  w_on; o_law
  refine HandSHeadRun.head_any (r := OpenLaw.row PySem.Challenge.rw_semirail_k01_three_families) (q := view (OpenLaw.row PySem.Challenge.rw_semirail_k01_three_families).prog [43]) (H := K01.hk) (ob := K01.ob) (M := 8000) (loose := K01.names) (d := HandSHeadRun.topDef (OpenLaw.row PySem.Challenge.rw_semirail_k01_three_families).prog 43) (kwd := []) K01.ob_eq
    (by kernel_rfl) (fun s => by kernel_rfl) K01.run (by kernel_rfl) (by kernel_rfl) (by kernel_rfl) (by rfl) (by first | assumption | decide +kernel) (by decide +kernel) ⟨rfl, rfl, rfl, rfl, rfl, by decide +kernel⟩ ?hw ?hc
  case hw => w_witness2
  case hc =>
    refine L2.walk_ofW (l := PySem.Challenge.rw_semirail_k01_three_families) (n := 63) (k := 5) (x := "_law_script") rfl (by decide) (by kernel_rfl) ⟨rfl, by decide, by decide⟩ ?F
    intro w mg fa h Y G hmg0
    obtain ⟨K, KX, c⟩ := Y
    have hmg : mg ("law" : PySem.Str) = some (.ref fa) := by
      have e : (HandSHeadRun.topDef (OpenLaw.row PySem.Challenge.rw_semirail_k01_three_families).prog 43).name = ("law" : PySem.Str) := by kernel_rfl
      rw [← e]
      exact hmg0
    obtain ⟨fd, hb, hF⟩ := K01.facts (P := (PySem.Challenge.rw_semirail_k01_three_families).prog) (w := w) KX G hmg c
    exact ⟨K, fd, J.spOf K K01.bLaw, KX, hb, fun H a ns hl _ hS => J.law_sp K H a ns (K01.law_true ns) hS, hF⟩
