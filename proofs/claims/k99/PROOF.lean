import PyProof.Rows.All
import Wide.All
import OpenK.AllK
import Wide.FinOn
import KE.KExcMake
import KE.KExcInit
import HandS.Base
import HandS.Call
import HandS.Exc
import KE.KExcStr
import KE.KExcIs
import HandS.ForMost
import HandS.ExcInit
import HandS.Defaults
import HandS.TupMul
import PyProof.StrBlock2
import HandS.MakeKw
import PySem.Challenge.RW_allslopes_k99_errors_by_hand
set_option Elab.async false
set_option linter.all false
set_option maxRecDepth 100000
set_option maxHeartbeats 4000000
namespace XV
open PySem PySem.HandSPX
section
variable {M : Model} {A : Around} {E : Value → Shared → Prop} {h : Heap} {g : Array GenState} {d : Drawn} {t : Nat} {os : OsState}
variable {nm q : Str} {C N : Addr} {bs bm bmB : List Value} {hdct : Bool} {sn : List Str} {sub : List Value} {ab : Bool} {col : Option Bool} {dd : Option Addr} {k0 k1 k2 k3 k5 : Option Value} {B newId initId : String}
theorem check_new_kw (F : ExcBaseFacts B newId initId bmB) (hT : ∀ X : String, bm.contains (.type X) = bmB.contains (.type X)) {rest : List Value} {kw : List (Str × Value)} {Q : Unit → Shared → Prop}
    (hC : h.get? C = some (excClassObj nm q C N bs bm hdct sn sub ab col dd k0 k1 k2 k3 k5 newId)) (hq : Q () ⟨h, g, d, t, os⟩) : wpAny M A (checkBuiltinCall newId ⟨.ref C :: rest, kw⟩) Q E ⟨h, g, d, t, os⟩ := by
  have hcont : (Value.ref C :: bm).contains (.type B) = true := by rw [List.contains_cons, hT, F.hasB, Bool.or_true]
  have hstar := F.noStar
  simp only [checkBuiltinCall, F.newKind, F.newSplit, F.newRow]
  repeat (first | refine wpAny_loadPart_at hC ?_ | (refine wpAny_isSubtype_exc hC ?_; rw [hcont]) | refine wpAny_staticBase_exc hC ?_ | refine wpAny_madeBy_exc hC ?_ | simp only [bne_self_eq_false, Bool.false_eq_true, if_false] | wp_step)
  exact hq
theorem check_tc_kw {rest : List Value} {kw : List (Str × Value)} {Q : Unit → Shared → Prop} (hC : h.get? C = some (excClassObj nm q C N bs bm hdct sn sub ab col dd k0 k1 k2 k3 k5 newId))
    (hq : Q () ⟨h, g, d, t, os⟩) : wpAny M A (checkBuiltinCall "type.__call__" ⟨.ref C :: rest, kw⟩) Q E ⟨h, g, d, t, os⟩ := by
  have f3 := tc_sub
  have hT : (⟨h, g, d, t, os⟩ : Shared).TypeIs (.ref C) "type" := ⟨_, hC, rfl⟩
  simp only [checkBuiltinCall, tc_kind, tc_split]
  repeat (any_goals (first | assumption | with_reducible refine wpAny_loadPart_at hC ?_ | with_reducible refine wpAny_onRaise ?_ | with_reducible refine wpAny_map ?_ | wp_step))
end
section
variable {prog : Program} {w : World} {A : Around} {E : Value → Shared → Prop} {R : Result → Shared → Prop} {h : Heap} {g : Array GenState} {d : Drawn} {t : Nat} {os : OsState}
variable {nm q : Str} {C N : Addr} {bs bm bmB : List Value} {hdct : Bool} {sn : List Str} {sub : List Value} {ab : Bool} {col : Option Bool} {dd : Option Addr} {k0 k1 k2 k3 k5 : Option Value} {B newId initId : String}
theorem new_kw (F : ExcBaseFacts B newId initId bmB) (hT : ∀ X : String, bm.contains (.type X) = bmB.contains (.type X)) {rest : List Value} {kw : List (Str × Value)}
    (hC : h.get? C = some (excClassObj nm q C N bs bm hdct sn sub ab col dd k0 k1 k2 k3 k5 newId))
    (hq : R (.ok (.ret (.ref (h.objs.size + 1)))) ⟨(h.push { cls := .type "tuple", data := .seq rest.toArray }).push
      { cls := .ref C, data := .fields #[.ref h.objs.size, .none, .none, .none, .bool false, .none] }, g, d, t, os⟩) (hrest : rest.length ≤ sizeLine) :
    codeAny (model prog w) A (.builtin newId ⟨.ref C :: rest, kw⟩) R ⟨h, g, d, t, os⟩ := by
  have hends := F.ends
  have hcB : (Value.ref C :: bm).contains (.type B) = true := by rw [List.contains_cons, hT, F.hasB, Bool.or_true]
  have hcA : (Value.ref C :: bm).contains (.type "AttributeError") = false := by rw [List.contains_cons, hT, F.noAttr]; rfl
  have hcN : (Value.ref C :: bm).contains (.type "NameError") = false := by rw [List.contains_cons, hT, F.noName]; rfl
  refine codeAny_builtinAt F.entry ?_
  unfold Builtin.«BaseException.__new__»
  refine wpAt_bind ?_
  show wpAt _ _ _ (stack >>= _) _ _ _
  refine wpAt_bind (wpAt_stack fun p below => wpAt_of_wpAny ?_)
  wp_walk
  refine wpAt_of_wpAny ?_
  rw [F.owner]
  repeat (first | with_reducible refine wpAny_madeHere_exc F.canon hC ?_ | with_reducible refine wpAny_loadPart_at hC ?_ | (with_reducible refine wpAny_isSubtype_exc hC ?_; first | rw [hcB] | rw [hcA] | rw [hcN]) | wp_step)
  show R _ _
  rw [Heap.size_push]
  exact hq
theorem type_call_kw (F : ExcBaseFacts B newId initId bmB) (hT : ∀ X : String, bm.contains (.type X) = bmB.contains (.type X)) {rest : List Value} {kw : List (Str × Value)} {fI : Addr} {Q : Fin → Shared → Prop}
    (hC : h.get? C = some (excClassObj nm q C N bs bm hdct sn sub ab col dd k0 k1 k2 k3 k5 newId))
    (hi : W.Looks (model prog w) h (typeLookup (.ref C) "__init__") (some (.ref fI))) (hb : ∀ self, W.Looks (model prog w) h (bindSpecial (.ref fI) self) (.ref fI, [self])) (hrest : rest.length ≤ sizeLine)
    (hq : codeAny (model prog w) A (.call (.ref fI) ⟨.ref (h.objs.size + 1) :: rest, kw⟩)
      (fun r s' => match r with | .ok (.ret v) => v = .none ∧ Q (.done (.ret (.ref (h.objs.size + 1)))) s' | .ok _ => False | .error e => E e s')
      ⟨(h.push (W.kdv_tup rest)).push (excO C h.objs.size), g, d, t, os⟩) :
    wpAny (model prog w) A (Builtin.«type.__call__» ⟨.ref C :: rest, kw⟩) Q E ⟨h, g, d, t, os⟩ := by
  repeat (first | with_reducible refine wpAny_loadPart_at hC ?_ | with_reducible refine wpAny_madeBy_exc hC ?_ | wp_step)
  refine codeAny_call_builtin_code (Code.quiet_builtin _ F.quiet) (check_new_kw F hT hC ?_)
  refine new_kw F hT hC ?_ hrest
  show wpAny _ _ _ _ _ _
  have k : ∀ b o, h.get? b = some o → ((h.push (W.kdv_tup rest)).push (excO C h.objs.size)).get? b = some o := fun b o e => Heap.get?_push_of_some _ (Heap.get?_push_of_some _ e)
  have hC₁ := k _ _ hC
  have hget : ((h.push (W.kdv_tup rest)).push (excO C h.objs.size)).get? (h.objs.size + 1) = some (excO C h.objs.size) := by heap_get
  have hcC : (Value.ref C :: bm).contains (.ref C) = true := by simp
  have i1 := hi.keeps k
  have b1 := (hb (.ref (h.objs.size + 1))).keeps k
  unfold isInstance
  repeat (first | with_reducible refine wpAny_loadPart_at hget ?_ | (with_reducible refine wpAny_isSubtype_exc hC₁ ?_; rw [hcC]) | wp_step)
  show wpAny _ _ (typeLookup (.ref C) _) _ _ _
  refine i1.at ?_
  refine wpAny_holding (wpAny_bind (b1.at ?_))
  refine wpAny_bind (wpAny_call (codeAny_mono hq fun r s' z => ?_))
  rcases r with e | (v | _ | _ | _) <;> first | exact z | exact z.elim | skip
  obtain ⟨rfl, z⟩ := z
  first
    | exact wpAny_pure (wpAny_pure z)
    | (wp_walk; exact z)
/-- an own exception class called, with keywords -/
theorem call_kw (F : ExcBaseFacts B newId initId bmB) (hT : ∀ X : String, bm.contains (.type X) = bmB.contains (.type X)) {rest : List Value} {kw : List (Str × Value)} {fI : Addr}
    (hC : h.get? C = some (excClassObj nm q C N bs bm hdct sn sub ab col dd k0 k1 k2 k3 k5 newId))
    (hi : W.Looks (model prog w) h (typeLookup (.ref C) "__init__") (some (.ref fI))) (hb : ∀ self, W.Looks (model prog w) h (bindSpecial (.ref fI) self) (.ref fI, [self])) (hrest : rest.length ≤ sizeLine)
    (hq : codeAny (model prog w) (A.under (.builtin "type.__call__" ⟨.ref C :: rest, kw⟩)) (.call (.ref fI) ⟨.ref (h.objs.size + 1) :: rest, kw⟩) (W.InitBack (h.objs.size + 1) R)
      ⟨(h.push (W.kdv_tup rest)).push (excO C h.objs.size), g, d, t, os⟩) :
    codeAny (model prog w) A (.call (.ref C) ⟨rest, kw⟩) R ⟨h, g, d, t, os⟩ := by
  have f1 := tc_lookup
  have f2 := tc_bind (.ref C)
  have hTy : (⟨h, g, d, t, os⟩ : Shared).TypeIs (.ref C) "type" := ⟨_, hC, rfl⟩
  refine codeAny_of_tree ?_
  show wpAny _ _ (callAny (.ref C) _) _ _ _
  repeat (any_goals (first | assumption | with_reducible refine wpAny_loadPart_at hC ?_ | wp_step))
  refine ⟨rfl, ?_⟩
  refine codeAny_call_builtin_at (Code.quiet_builtin _ (by decide +kernel)) entry_typeCall (check_tc_kw hC (type_call_kw F hT hC hi hb hrest ?_))
  refine codeAny_mono hq fun r s' z => ?_
  rcases r with e | (v | _ | _ | _) <;> exact z
/-- X.__init__(e, ..), X a built-in exception class: the args are laid anew, as a new tuple -/
theorem init_tup (F : ExcBaseFacts B newId initId bmB) (hT : ∀ X : String, bm.contains (.type X) = bmB.contains (.type X)) {e t0 : Addr} {rest : List Value}
    (hC : h.get? C = some (excClassObj nm q C N bs bm hdct sn sub ab col dd k0 k1 k2 k3 k5 newId)) (he : h.get? e = some (excO C t0)) (hrest : rest.length ≤ sizeLine)
    (hq : ∀ h', (∀ b o, b ≠ e → h.get? b = some o → h'.get? b = some o) → h'.get? e = some (excO C h.objs.size) → h'.get? h.objs.size = some { cls := .type "tuple", data := .seq rest.toArray } → R (.ok (.ret .none)) ⟨h', g, d, t, os⟩) :
    codeAny (model prog w) A (.call (.builtin initId) ⟨.ref e :: rest, []⟩) R ⟨h, g, d, t, os⟩ := by
  refine codeAny_call_builtin F.init.plain F.initEntry (check_init_own F hT hC he rfl ?_)
  have hne : h.objs.size ≠ e := Nat.ne_of_gt (Heap.lt_size he)
  wp_walk
  refine hq _ (fun b o hb ho => ?_) ?_ ?_
  · rw [Heap.get?_update_other _ _ (Ne.symm hb)]
    exact Heap.get?_push_of_some _ ho
  · rw [Heap.get?_update_self _ (Heap.get?_push_of_some _ he) rfl]
    rfl
  · rw [Heap.get?_update_other _ _ (Ne.symm hne)]
    exact Heap.get?_push_size h rfl
end

/-! ### self.name = v on an exception that has no dict yet -/
section
open Builtin Builtin.ObjectAttr
variable {prog : Program} {w : World} {A : Around} {E : Value → Shared → Prop} {R : Result → Shared → Prop} {hp : Heap} {g : Array GenState} {d : Drawn} {t : Nat} {os : OsState}
theorem exc_osaT {K : W.Frag} {name : Str} {tk : Tok} {v : Value} {x C : Addr} {fv : Array Value} {cd : ClassData}
    (X : K.In hp) (hx : hp.get? x = some { cls := .ref C, data := .fields fv }) (hcd : W.clsIn K C = some cd) (hpass : refuseLoop (.ref x) "__setattr__" cd.mro = pure ()) (ne : cd.mro.isEmpty = false) (hob : cd.mro.contains (.type "object") = true)
    (hh : cd.hasDict = true) (ha : W.findIn K (.ref C) name = some none)
    (hq : ∀ h' tk' dx, (∀ b o, b ≠ x → hp.get? b = some o → h'.get? b = some o) → hp.objs.size ≤ dx → dx ≠ x → h'.get? x = some { cls := .ref C, dict := some dx, data := .fields fv } →
      h'.Ns1 dx (fun y => if y = name then some v else none) → R (.ok (.ret .none)) ⟨h', g, d, tk', os⟩) :
    codeAny (model prog w) A (.call (.builtin "object.__setattr__") ⟨[.ref x, .str name tk, v], []⟩) R ⟨hp, g, d, t, os⟩ := by
  have I : W.InstAt hp x { cls := .ref C, data := .fields fv } C none := ⟨hx, rfl, rfl, trivial⟩
  have SF := F.store_object
  have hxs : x ≠ hp.objs.size := Nat.ne_of_lt (Heap.lt_size hx)
  have sub : W.Looks (model prog w) hp (isInstance (.ref x) (.type "object")) true := I.type.andThen (W.looks_mroIn X (by unfold W.mroIn; rw [hcd, Option.bind_some, if_neg (by rw [ne]; decide), hob]))
  refine codeAny_call_builtin SF.slot.plain SF.entry (@W.check_slot (model prog w) _ _ ⟨hp, g, d, t, os⟩ "object.__setattr__" "object" "__setattr__" (.ref x) [.str name tk, v] [] _ SF.kind SF.split sub (SF.args (.ref x) (.str name tk) v) ?_)
  have hmr : W.Looks (model prog w) hp (mroOf (.ref C)) cd.mro := (W.looks_clsIn X hcd).andThen .now
  have L3 : W.Looks (model prog w) hp (storeTaker? none) none := .now
  have hcls : W.Looks (model prog w) hp (classData C) cd := W.looks_clsIn X hcd
  rw [W.osa_eq, refuse_eq]
  refine wpAny_bind (wpAny_bind (I.type.at (wpAny_bind (hmr.at ?_))))
  rw [hpass]
  refine wpAny_pure (wpAny_bind (I.type.at (wpAny_bind ((W.looks_findIn X ha).at (wpAny_bind (L3.at ?_))))))
  show wpAny _ _ (storeInOwnDict (.ref x) (.ref C) (.str name tk) name v false) _ _ _
  obtain ⟨nm, bs, mro, ns, qn, hd, sn, sb, ab, col, del⟩ := cd
  dsimp only at hh
  subst hh
  unfold storeInOwnDict ownDictForStores
  repeat (first | with_reducible refine store_in_new ?_ ?_ | with_reducible refine wpAny_loadPart_at hx ?_ | with_reducible refine hcls.at ?_ | wp_step)
  · exact ⟨_, #[], _, (Heap.get?_update_ne _ _ _ _ hxs.symm).trans (Heap.get?_push_at rfl rfl), rfl, fun e he => absurd he (by simp), fun _ => rfl⟩
  · intro h' tk' hn' hs
    have hx₁ : (hp.push { cls := .type "dict", data := .dict #[] }).get? x = some { cls := .ref C, data := .fields fv } := Heap.get?_push_of_some _ hx
    refine hq h' tk' hp.objs.size (fun b o hb ho => ?_) (Nat.le_refl _) hxs.symm ?_ hn'
    · exact (hs.2 b (Nat.ne_of_lt (Heap.lt_size ho))).trans ((Heap.get?_update_ne _ _ _ _ hb).trans (Heap.get?_push_of_some _ ho))
    · exact (hs.2 x hxs).trans (Heap.get?_update_self _ hx₁ rfl)
end
/-- what the three bases must have -/
structure Base (B newId initId : String) (tail : List Value) : Prop where
  F : ExcBaseFacts B newId initId tail
  pass : ∀ self, refuseLoop self "__setattr__" tail = pure ()
  ob : tail.contains (.type "object") = true
  ex : tail.contains (.type "BaseException") = true
abbrev ofTail : List Value := [.type "OverflowError", .type "ArithmeticError", .type "Exception", .type "BaseException", .type "object"]
abbrev luTail : List Value := [.type "LookupError", .type "Exception", .type "BaseException", .type "object"]
theorem base_VE : Base "ValueError" "ValueError.__new__" "ValueError.__init__" veTail := ⟨F.excBase_ValueError, F.store_ValueError.passes, by decide +kernel, by decide +kernel⟩
theorem base_OF : Base "OverflowError" "OverflowError.__new__" "OverflowError.__init__" ofTail := ⟨F.excBase_OverflowError, F.store_OverflowError.passes, by decide +kernel, by decide +kernel⟩
theorem base_LU : Base "LookupError" "LookupError.__new__" "LookupError.__init__" luTail := ⟨F.excBase_LookupError, F.store_LookupError.passes, by decide +kernel, by decide +kernel⟩
end XV

namespace XV
open PySem PySem.Spec PyProof.Rows L2
/-! ### exceptions held as values -/
/-- at e: an exception of the class at C, its args the tuple at t, its dict d -/
def exq (e C t : Addr) (d : Option Addr) : HO := .ext fun h => h.get? e = some ({ cls := .ref C, dict := d, data := .fields #[.ref t, .none, .none, .none, .bool false, .none] } : Obj)
theorem exq_ok {P : Program} {w : World} {H : Hp} {h : Heap} {e C t : Addr} {d : Option Addr} (he : h.get? e = some ({ cls := .ref C, dict := d, data := .fields #[.ref t, .none, .none, .none, .bool false, .none] } : Obj)) : ObjOk P w H h e (exq e C t d) :=
  ⟨he, ⟨_, he⟩, fun _ _ z k => k _ z⟩
theorem exq_at {P : Program} {w : World} {H : Hp} {h : Heap} {e C t : Addr} {d : Option Addr} (hok : HOk P w H h) (he : H e = some (exq e C t d)) : h.get? e = some ({ cls := .ref C, dict := d, data := .fields #[.ref t, .none, .none, .none, .bool false, .none] } : Obj) := by
  have x : ObjOk P w H h e (.ext fun h => h.get? e = some ({ cls := .ref C, dict := d, data := .fields #[.ref t, .none, .none, .none, .bool false, .none] } : Obj)) := hok e _ he
  exact x.1
theorem exq_own {e C t x : Addr} {d : Option Addr} : exq e C t d ≠ .own x := fun z => by
  have z' : HO.ext _ = HO.own x := z
  cases z'
theorem exq_tup {e C t : Addr} {d : Option Addr} {xs : List V} : exq e C t d ≠ .tup xs := fun z => by
  have z' : HO.ext _ = HO.tup xs := z
  cases z'
theorem exq_frz {e C t : Addr} {d : Option Addr} {o : Obj} {u : HO} : exq e C t d ≠ .frz o u := fun z => by
  have z' : HO.ext _ = HO.frz o u := z
  cases z'
theorem exq_tbl {e C t : Addr} {d : Option Addr} {ps : Array Value} : exq e C t d ≠ .tbl ps := fun z => by
  have z' : HO.ext _ = HO.tbl ps := z
  cases z'
/-- what the written part says of such a class: id is its built-in base's __init__ -/
structure XCls (K : PySem.W.Frag) (C : Addr) (id : String) : Prop where
  cls : ∃ (B newId : String) (tail : List Value) (nm q : Str) (N : Addr) (bs : List Value) (cs : List Addr) (sn : List Str) (sub : List Value) (ab : Bool) (col : Option Bool) (dd : Option Addr) (k0 k1 k2 k3 k5 : Option Value), Base B newId id tail ∧ K.lookup C = some (excClassObj nm q C N bs (cs.map Value.ref ++ tail) true sn sub ab col dd k0 k1 k2 k3 k5 newId)
  sa : PySem.W.findIn K (.ref C) "__setattr__" = some (some (.builtin "object.__setattr__"))
  ga : PySem.W.findIn K (.ref C) "__getattribute__" = some (some (.builtin "BaseException.__getattribute__"))
  gg : PySem.W.findIn K (.ref C) "__getattr__" = some none
  st : PySem.W.findIn K (.ref C) "__str__" = some (some (.builtin "BaseException.__str__"))
  ca : PySem.W.findIn K (.ref C) "__class__" = some (some (.builtin "object.__class__"))
  ex : PySem.W.subIn K (.ref C) (.type "BaseException") = some true
  kC : PySem.W.keepIn K (.ref C) = true
  hd : PySem.W.hasDictIn K C = true
  mo : PySem.W.mroIn K C (.type "object") = some true
theorem refs_contains (X : String) (tail : List Value) : ∀ cs : List Addr, (cs.map Value.ref ++ tail).contains (.type X) = tail.contains (.type X)
  | [] => rfl
  | c :: cs => by
    show (Value.ref c :: (cs.map Value.ref ++ tail)).contains (.type X) = _
    rw [List.contains_cons, refs_contains X tail cs]; rfl
theorem refs_pass (self : Value) {tail : List Value} (hp : refuseLoop self "__setattr__" tail = pure ()) : ∀ cs : List Addr, refuseLoop self "__setattr__" (cs.map Value.ref ++ tail) = pure ()
  | [] => hp
  | c :: cs => by
    show refuseLoop self "__setattr__" (Value.ref c :: (cs.map Value.ref ++ tail)) = _
    rw [refuseLoop_ref]; exact refs_pass self hp cs

section
variable {X : Cx} {pins : List (Addr × Obj)} {σ : L2.St} {H : Hp} {a C t0 t1 p : Addr} {d0 d1 : Option Addr} {op : HO} {hp h' : Heap} {g : Array GenState} {d : Drawn} {t t' : Nat} {os : OsState}
/-- a new object at p, the exception at a changed -/
theorem inv_two (I : Inv X pins σ H ⟨hp, g, d, t, os⟩) (e : H a = some (exq a C t0 d0)) (k : ∀ b o, b ≠ a → hp.get? b = some o → h'.get? b = some o) (dn : hp.objs.size ≤ p)
    (hx : h'.get? a = some ({ cls := .ref C, dict := d1, data := .fields #[.ref t1, .none, .none, .none, .bool false, .none] } : Obj)) (new : ∀ H', ObjOk X.prog X.w H' h' p op) :
    Inv X pins σ (upd (upd H p op) a (exq a C t1 d1)) ⟨h', g, d, t', os⟩ := by
  have hnd : H p = none := I.hok.fresh dn
  have nd : ∀ {b : Addr} {o : Obj}, hp.get? b = some o → b ≠ p := fun {b o} q => Nat.ne_of_lt (Nat.lt_of_lt_of_le (Heap.lt_size q) dn)
  have na : ∀ {b : Addr}, H b = none → b ≠ a := fun {b} n z => by rw [z, e] at n; cases n
  have Un1 : Un X.fs [] H (upd (upd H p op) a (exq a C t1 d1)) hp h' := {
    keep := fun b o q n _ _ => k b o (na n) q
    slot := fun b o q n _ _ => ⟨o.slots, k b o (na n) q⟩
    free := fun b o q n _ => by rw [upd_ne (na n), upd_ne (nd q)]; exact n
    there := fun b o q _ => by
      by_cases hb : b = a
      · exact ⟨_, by rw [hb]; exact hx⟩
      · exact ⟨o, k b o hb q⟩
    tups := fun b xs q => by rw [upd_ne (at_ne e q exq_tup), upd_ne (ne_of_none q hnd)]; exact q
    frzs := fun b o v q => by rw [upd_ne (at_ne e q exq_frz), upd_ne (ne_of_none q hnd)]; exact q
    tbls := fun b ps q => ⟨#[], by rw [upd_ne (at_ne e q exq_tbl), upd_ne (ne_of_none q hnd), q]; simp⟩ }
  refine I.un (t' := t') Un1 fun b o q => ?_
  by_cases hb : b = a
  · subst hb
    rw [upd_same] at q
    cases q
    exact exq_ok hx
  · rw [upd_ne hb] at q
    by_cases hd : b = p
    · subst hd
      rw [upd_same] at q
      cases q
      exact new _
    · rw [upd_ne hd] at q
      exact (I.hok b o q).stay (fun c v hc z => k c v (by
          rcases hc with hc | hc
          · rw [hc]; exact hb
          · exact at_ne e hc exq_own) z)
        (fun c hc => by rw [upd_ne (at_ne e hc exq_own), upd_ne (ne_of_none hc hnd)]; exact hc) (fun c xs hc => by rw [upd_ne (at_ne e hc exq_tup), upd_ne (ne_of_none hc hnd)]; exact hc)
end
section
variable {X : Cx} {pins : List (Addr × Obj)} {σ : L2.St} {H : Hp} {s : Shared} {a C t dx : Addr} {f : Str} {y : V} {u : Value} {id : String} {A : Around} {E : Value → Shared → Prop}
/-- Base.__init__(self, ..): the args are a new tuple -/
theorem xinit_ok {us : List Value} {ws : List V} {Q : Value → Shared → Prop} (T : XCls X.K C id) (I : Inv X pins σ H s) (e : H a = some (exq a C t none)) (r : Vals ws us) (hl : ws.length ≤ sizeLine)
    (h : ∀ p s', H p = none → Inv X pins σ (upd (upd H p (.tup ws)) a (exq a C p none)) s' → Q .none s') :
    wpAny (model X.prog X.w) A (call (.builtin id) (.ref a :: us)) Q E s := by
  obtain ⟨B, newId, tail, nm, q, N, bs, cs, sn, sub, ab, col, dd, k0, k1, k2, k3, k5, hB, hC⟩ := T.cls
  have ho := exq_at I.hok e
  obtain ⟨hp, g, d, t', os⟩ := s
  refine wpAny_call (init_tup hB.F (fun Y => refs_contains Y tail cs) (I.kIn _ _ hC) ho (by rw [← Paired.length r]; exact hl) fun h' k hx ht => ?_)
  have dn : hp.objs.size ≤ hp.objs.size := Nat.le_refl _
  exact h _ _ (I.hok.fresh dn) (inv_two I e k dn hx (op := .tup ws) fun H' => ⟨hl, us, r, ⟨_, ht, rfl, _, rfl⟩⟩)
/-- self.f = y on an exception without a dict -/
theorem xst_ok {Q : Unit → Shared → Prop} (T : XCls X.K C id) (I : Inv X pins σ H s) (e : H a = some (exq a C t none)) (hno : PySem.W.findIn X.K (.ref C) f = some none) (ry : RelV y u)
    (h : ∀ dx s', H dx = none → Inv X pins σ (upd (upd H dx (exd dx [(f, y)])) a (exq a C t (some dx))) s' → Q () s') : wpAny (model X.prog X.w) A (setAttr (.ref a) f u) Q E s := by
  obtain ⟨B, newId, tail, nm, q, N, bs, cs, sn, sub, ab, col, dd, k0, k1, k2, k3, k5, hB, hC⟩ := T.cls
  have hcl : PySem.W.clsIn X.K C = some { name := nm, bases := bs, mro := .ref C :: (cs.map Value.ref ++ tail), ns := N, qualname := q, hasDict := true, slotNames := sn, subclasses := sub, abstract := ab, collection := col, hasDel := false } := by unfold PySem.W.clsIn; rw [hC] <;> rfl
  have ho := exq_at I.hok e
  obtain ⟨hp, g, d, t', os⟩ := s
  refine PySem.W.set_plain I.kIn (ox := { cls := .ref C, dict := none, data := .fields #[.ref t, .none, .none, .none, .bool false, .none] }) (od := none) ⟨ho, rfl, rfl, trivial⟩ T.sa ?_
  refine exc_osaT I.kIn ho hcl (refs_pass (.ref a) (hB.pass _) (C :: cs)) rfl ?_ rfl hno (fun h' tk' dx k dn dne hx hn => ?_)
  · exact (refs_contains "object" tail (C :: cs)).trans hB.ob
  · exact h dx _ (I.hok.fresh dn) (inv_two I e k dn hx (op := exd dx [(f, y)]) fun H' => exd_ok hn (relO_put (fs := []) ry fun g => True.intro))
end

/-! ### readings and rules -/
/-- Base.__init__(self, ..) -/
def tXinit (K : PySem.W.Frag) (id : String) (ta : TA) : TE := fun σ H Q => ta σ H fun vs H1 => ∃ (a C t : Addr) (ws : List V), vs = .ref a :: ws ∧ ws.length ≤ 1000 ∧ XCls K C id ∧ H1 a = some (exq a C t none) ∧
  ∀ p, H1 p = none → Q .non (upd (upd H1 p (.tup ws)) a (exq a C p none))
/-- self.f = e -/
def tXst (K : PySem.W.Frag) (id : String) (f : Str) (to te : TE) : TS := fun D σ H => te σ H fun y H1 => to σ H1 fun x H2 => ∃ a C t : Addr, x = .ref a ∧ XCls K C id ∧ PySem.W.findIn K (.ref C) f = some none ∧ H2 a = some (exq a C t none) ∧
  ∀ dx, H2 dx = none → D.nx σ (upd (upd H2 dx (exd dx [(f, y)])) a (exq a C t (some dx)))
section
variable {X : Cx} {o e : Expr} {es : List Expr} {to te : TE} {ta : TA} {f cn : Str} {p p' p1 p2 pos : Pos} {id T : String} {S : Addr}
theorem xinit_args {pins : List (Addr × Obj)} {σ : L2.St} {H : Hp} {s : Shared} {Q : VK} (I : Inv X pins σ H s) (h : tXinit X.K id ta σ H Q) (ha : PA X (e :: es) ta)
    (he : starEach (e :: es) X.env = (false, eval e X.env) :: starEach es X.env) (hpl : (backTo pos (starEach es X.env)).any (·.1) = false) :
    wpAny (model X.prog X.w) X.A (callWith pos (Value.builtin id) [] (backTo pos (starEach (e :: es) X.env)) []) (EP X pins σ Q) X.xe s := by
  refine PyProof.Rows.callWith_method1 (thn (ha.run pos pins _ σ H _ I h) fun us s1 ⟨vs, H1, I1, r1, a, C, t, ws, ev, hl, T, ea, q⟩ => ?_) he hpl
  subst ev
  cases r1 with
  | @cons _ u0 _ ur ra rw' =>
    obtain rfl : u0 = Value.ref a := ra
    exact xinit_ok T I1 ea rw' (by rw [sizeLine_eq]; omega) fun p s' n J => ⟨.non, _, J, rfl, q p n⟩
/-- S.__init__(self, ..), S an own class that has its built-in base's __init__ -/
theorem pe_xinitS {pl : Sem Bool} {mc : Value} (hg : Gl X cn) (hm : X.mg cn = some (.ref S)) (hga : PySem.W.specialIn X.K (.ref S) "__getattribute__" = some (some (.builtin "type.__getattribute__"))) (hrd : PySem.W.readsIn X.K S mc = true)
    (hf : PySem.W.findCls X.K (.ref S) mc "__init__" = some (.val (.builtin id))) (hh : PySem.W.handedIn (.builtin id) = true) (ha : PA X (e :: es) ta) (hdb : (cn == ("__debug__" : Str)) = false := by decide)
    (hc : eval (.Call (.Attribute (.Name cn p1) "__init__" p2) (e :: es) [] pos) X.env = (do
      let ov ← eval (.Name cn p1) X.env
      standAt p2.atName
      let (f, first) ← holding [ov] (getMethod ov "__init__" pl)
      callWith pos f first (backTo pos (starEach (e :: es) X.env)) (backToKw pos (keywordEach [] X.env))) := by rfl)
    (he : starEach (e :: es) X.env = (false, eval e X.env) :: starEach es X.env := by rfl) (hpl : (backTo pos (starEach es X.env)).any (·.1) = false := by rfl) :
    PE X (.Call (.Attribute (.Name cn p1) "__init__" p2) (e :: es) [] pos) (tXinit X.K id ta) := by
  refine ⟨fun pins s σ H Q I h => ?_⟩
  refine PySem.W.methodCall_KW (ld_glob I hg hm ?_ hdb) hc
  refine PySem.W.method_cls I.kIn hga (PySem.W.cls_value I.kIn hrd hf hh ?_)
  exact xinit_args (I.tok _) h ha he hpl
/-- T.__init__(self, ..), T a built-in exception class -/
theorem pe_xinitT {pl : Sem Bool} (hg : Gl X cn) (hm : X.mg cn = none) (hv : bootBuiltins cn = some (.type T)) (hty : typeOf (.type T) = pure (.type "type")) (hs : Manifest.isStub T = false)
    (hf : PySem.W.findCls X.K (.type T) (.type "type") "__init__" = some (.val (.builtin id))) (hh : PySem.W.handedIn (.builtin id) = true) (ha : PA X (e :: es) ta) (hn : cn ≠ "__name__" := by decide) (hdb : (cn == ("__debug__" : Str)) = false := by decide)
    (hc : eval (.Call (.Attribute (.Name cn p1) "__init__" p2) (e :: es) [] pos) X.env = (do
      let ov ← eval (.Name cn p1) X.env
      standAt p2.atName
      let (f, first) ← holding [ov] (getMethod ov "__init__" pl)
      callWith pos f first (backTo pos (starEach (e :: es) X.env)) (backToKw pos (keywordEach [] X.env))) := by rfl)
    (he : starEach (e :: es) X.env = (false, eval e X.env) :: starEach es X.env := by rfl) (hpl : (backTo pos (starEach es X.env)).any (·.1) = false := by rfl) :
    PE X (.Call (.Attribute (.Name cn p1) "__init__" p2) (e :: es) [] pos) (tXinit X.K id ta) := by
  refine ⟨fun pins s σ H Q I h => ?_⟩
  refine PySem.W.methodCall_KW (ld_blt I hg hm hv ?_ hn hdb) hc
  obtain ⟨m, fr⟩ := I.fr
  refine PySem.W.method_type fr I.ok.mod.kin hty hs hf hh ?_
  exact xinit_args (I.tok _) h ha he hpl
theorem ps_xst (ho : PE X o to) (he : PE X e te) (hs : swapsWith e (some (.Attribute o f p')) pos.line X.env = pure false := by rfl) : PS X (.Assign [.Attribute o f p'] e pos) (tXst X.K id f to te) := by
  refine ⟨fun pins s σ H D I h => ?_⟩
  refine plainObj_wpAny_Assign_Attribute (thn (he.run pins s σ H _ I h) fun v s1 ⟨y, H1, I1, r1, q1⟩ => thn (ho.run pins s1 σ H1 _ I1 q1) fun u s2 ⟨x, H2, I2, r2, a, C, t, ex, T, hno, ea, q⟩ => ?_) hs
  subst ex
  obtain rfl : u = Value.ref a := r2
  exact xst_ok T I2 ea hno r1 fun dx s' n J => ⟨σ, _, J, q dx n⟩
end

/-! ### made by a call -/
/-- at a: an exception of the class at C, its one arg the text m, its one field f holding v -/
def XAt (H : Hp) (a C : Addr) (m f : Str) (v : V) : Prop := ∃ t dx, H a = some (exq a C t (some dx)) ∧ H t = some (.tup [.str m]) ∧ H dx = some (exd dx [(f, v)])
theorem XAt.same {H H' : Hp} {a C : Addr} {m f : Str} {v : V} (x : XAt H a C m f v) (s : ∀ b o, H b = some o → H' b = some o) : XAt H' a C m f v :=
  let ⟨t, dx, h1, h2, h3⟩ := x
  ⟨t, dx, s _ _ h1, s _ _ h2, s _ _ h3⟩
/-- the promise of such an __init__ -/
def spXI (C : Addr) (m f : Str) : Sp := fun vs H Q _ => ∃ (a t : Addr) (v : V), vs = [.ref a, v] ∧ H a = some (exq a C t none) ∧ ∀ H', XAt H' a C m f v → (∀ b o, b ≠ a → H b = some o → H' b = some o) → Q .non H'
/-- how its calls bind -/
structure XMk (K : PySem.W.Frag) (C fI : Addr) (fd : FuncData) (f : Str) : Prop where
  init : PySem.W.findIn K (.ref C) "__init__" = some (some (.ref fI))
  tI : PySem.W.typeIn K (.ref fI) = some (.type "function")
  pos : ∀ (s : Shared) (u v : Value), K.In s.heap → BindsTo s fd ⟨[u, v], []⟩ [("self", u), (f, v)]
  kw : ∀ (s : Shared) (u v : Value), K.In s.heap → BindsTo s fd ⟨[u], [(f, v)]⟩ [("self", u), (f, v)]
/-- C(e), C(f = e), C(): what the call gives -/
def qX (C : Addr) (m f : Str) (v : V) (H1 : Hp) (Q : VK) : Prop := ∀ a H', H1 a = none → XAt H' a C m f v → (∀ b o, H1 b = some o → H' b = some o) → Q (.ref a) H'
section
variable {X : Cx} {CX : CXT} {k : Nat} {C fI : Addr} {fd : FuncData} {id : String} {m f x : Str} {E : XK} {p pos kpos : Pos} {e : Expr} {te : TE}
theorem run_X {pins : List (Addr × Obj)} {σ : L2.St} {H : Hp} {s : Shared} {Q : VK} {us : List Value} {kw : List (Str × Value)} {v : V} {u : Value} (T : XCls X.K C id) (hi : PySem.W.findIn X.K (.ref C) "__init__" = some (some (.ref fI))) (ti : PySem.W.typeIn X.K (.ref fI) = some (.type "function"))
    (F : FnOk X.prog X.w X.K X.mg X.base CX k fI fd ["self", f] (spXI C m f)) (hr : Room (k + 1) X.A) (hx : Passes CX X E)
    (hb : ∀ (s : Shared) (self : Value), X.K.In s.heap → BindsTo s fd ⟨self :: us, kw⟩ [("self", self), (f, u)]) (hus : us.length ≤ sizeLine) (I : Inv X pins σ H s) (r : RelV v u) (h : qX C m f v H Q) :
    wpAny (model X.prog X.w) X.A (call (.ref C) us kw) (EP X pins σ Q) X.xe s := by
  obtain ⟨B, newId, tail, nm, q, N, bs, cs, sn, sub, ab, col, dd, k0, k1, k2, k3, k5, hB, hC⟩ := T.cls
  obtain ⟨hp, g, dr, tk, os⟩ := s
  have hsz : hp.objs.size ≤ hp.objs.size + 1 := Nat.le_succ _
  have hn : H (hp.objs.size + 1) = none := I.hok.fresh hsz
  have kk : ∀ b o, hp.get? b = some o → ((hp.push (PySem.W.kdv_tup us)).push (PySem.HandSPX.excO C hp.objs.size)).get? b = some o := fun b o e => Heap.get?_push_of_some _ (Heap.get?_push_of_some _ e)
  have hget : ((hp.push (PySem.W.kdv_tup us)).push (PySem.HandSPX.excO C hp.objs.size)).get? (hp.objs.size + 1) = some (PySem.HandSPX.excO C hp.objs.size) := by heap_get
  have I2 : Inv X pins σ (upd H (hp.objs.size + 1) (exq (hp.objs.size + 1) C hp.objs.size none)) ⟨(hp.push (PySem.W.kdv_tup us)).push (PySem.HandSPX.excO C hp.objs.size), g, dr, tk, os⟩ :=
    I.laid (t' := tk) (a := hp.objs.size + 1) (o := exq (hp.objs.size + 1) C hp.objs.size none) (h' := (hp.push (PySem.W.kdv_tup us)).push (PySem.HandSPX.excO C hp.objs.size)) kk hsz (exq_ok hget)
  have r2 : Vals [V.ref (hp.objs.size + 1), v] [Value.ref (hp.objs.size + 1), u] := .cons rfl (.cons r .nil)
  refine wpAny_call (call_kw hB.F (fun Y => refs_contains Y tail cs) (I.kIn _ _ hC) (PySem.W.looks_findIn I.kIn hi) (fun self => PySem.W.bind_fn I.kIn self ti) hus
    (codeAny_mono (F.run _ X.stack _ _ ⟨Value.ref (hp.objs.size + 1) :: us, kw⟩ [Value.ref (hp.objs.size + 1), u] _ (fun v' H' => v' = .non ∧ Q (.ref (hp.objs.size + 1)) H') E (hr.make C us kw) (I2.env0.make C us kw) (hb _ _ I2.kIn) r2
      ⟨hp.objs.size + 1, hp.objs.size, v, rfl, upd_same, fun H' hx k' => ⟨rfl, h _ _ hn hx fun b o q => k' b o (fun z => by rw [z, hn] at q; cases q) (by rw [upd_ne (fun z => by rw [z, hn] at q; cases q)]; exact q)⟩⟩) fun r s' hq' => ?_))
  cases r with
  | error e => exact hx pins σ _ _ e s' I2 hq'
  | ok fl =>
    cases fl with
    | ret u =>
      obtain ⟨v', H', I3, rv, ev, q3⟩ := I2.after hq'
      subst ev
      refine ⟨rv, ⟨V.ref (hp.objs.size + 1), H', ?_, rfl, q3⟩⟩
      exact I3
    | next => exact False.elim hq'
    | brk => exact False.elim hq'
    | cont => exact False.elim hq'
def tX1 (C : Addr) (m f : Str) (te : TE) : TE := fun σ H Q => te σ H fun v H1 => qX C m f v H1 Q
def tX0 (C : Addr) (m f : Str) : TE := fun σ H Q => qX C m f .non H Q
/-- C(e) -/
theorem pe_x1 (T : XCls X.K C id) (M : XMk X.K C fI fd f) (F : FnOk X.prog X.w X.K X.mg X.base CX k fI fd ["self", f] (spXI C m f)) (hr : Room (k + 1) X.A) (hg : Gl X x) (hm : X.mg x = some (.ref C)) (hx : Passes CX X E) (he : PE X e te)
    (hdb : (x == ("__debug__" : Str)) = false := by decide) (hs : starEach [e] X.env = (false, eval e X.env) :: starEach [] X.env := by rfl) : PE X (.Call (.Name x p) [e] [] pos) (tX1 C m f te) := by
  refine ⟨fun pins s σ H Q I h => ?_⟩
  refine wpAny_Call_Name_kw (ld_glob I hg hm ?_ hdb)
  refine PySem.W.callWith_K (h₀ := X.base) I.ok.mod.kin T.kC ?_ hs (by rfl)
  rw [hs]
  show wpAny _ _ (spliced ((false, eval e X.env) :: backTo pos (starEach [] X.env))) _ _ s
  refine Calls.spliced_cons (thn (he.run pins s σ H _ I h) fun u s1 ⟨v, H1, I1, r1, q1⟩ => ?_)
  refine Calls.spliced_nil ⟨I1.kIn, ?_⟩
  show wpAny _ _ (call (.ref C) [u]) _ _ _
  exact run_X T M.init M.tI F hr hx (fun s self k => M.pos s self u k) (by show 1 ≤ sizeLine; rw [sizeLine_eq]; omega) I1 r1 q1
/-- C(f = e) -/
theorem pe_xk (T : XCls X.K C id) (M : XMk X.K C fI fd f) (F : FnOk X.prog X.w X.K X.mg X.base CX k fI fd ["self", f] (spXI C m f)) (hr : Room (k + 1) X.A) (hg : Gl X x) (hm : X.mg x = some (.ref C)) (hx : Passes CX X E) (he : PE X e te)
    (hdb : (x == ("__debug__" : Str)) = false := by decide) : PE X (.Call (.Name x p) [] [⟨some f, e, kpos⟩] pos) (tX1 C m f te) := by
  refine ⟨fun pins s σ H Q I h => ?_⟩
  refine wpAny_Call_Name_kw (ld_glob I hg hm ?_ hdb)
  refine PySem.W.callWith_KW0 (h₀ := X.base) I.ok.mod.kin T.kC (by rfl) ?_ (by rfl)
  refine thn ((pk_cons (nm := some f) (kpos := kpos) he pk_nil).run pos pins s σ H (fun zs H1 => match zs with | [v] => qX C m f v H1 Q | _ => False) I h) fun ws s2 ⟨zs, H2, I2, rz, q2⟩ => ⟨I2.kIn, ?_⟩
  match zs, q2, rz with
  | [v], q2, .cons (b := u) rv .nil =>
    show wpAny _ _ (call (.ref C) [] [(f, u)]) _ _ _
    exact run_X (us := []) T M.init M.tI F hr hx (fun s self k => M.kw s self u k) (Nat.zero_le _) I2 rv q2
/-- C() -/
theorem pe_x0 (T : XCls X.K C id) (M : XMk X.K C fI fd f) (h0 : ∀ (s : Shared) (u : Value), X.K.In s.heap → BindsTo s fd ⟨[u], []⟩ [("self", u), (f, .none)]) (F : FnOk X.prog X.w X.K X.mg X.base CX k fI fd ["self", f] (spXI C m f)) (hr : Room (k + 1) X.A) (hg : Gl X x) (hm : X.mg x = some (.ref C)) (hx : Passes CX X E)
    (hdb : (x == ("__debug__" : Str)) = false := by decide) : PE X (.Call (.Name x p) [] [] pos) (tX0 C m f) := by
  refine ⟨fun pins s σ H Q I h => ?_⟩
  refine wpAny_Call_Name_kw (ld_glob I hg hm ?_ hdb)
  refine PySem.W.callWith_K0 I.kIn T.kC ?_
  exact run_X (us := []) T M.init M.tI F hr hx (fun s self k => h0 s self k) (Nat.zero_le _) I (v := .non) (u := .none) rfl h
end

/-! ### their fields, isinstance, str -/
def tXfld (K : PySem.W.Frag) (f : Str) (te : TE) : TE := fun σ H Q => te σ H fun x H1 => ∃ (a C : Addr) (m : Str) (v : V) (id : String), x = .ref a ∧ XCls K C id ∧ PySem.W.findIn K (.ref C) f = some none ∧ XAt H1 a C m f v ∧ Q v H1
/-- isinstance(e, c) -/
def rXisi (K : PySem.W.Frag) : List V → Hp → VK → Prop := fun xs H Q => ∃ (a C : Addr) (m f : Str) (v c : V) (cv : Value) (b : Bool) (id : String), xs = [.ref a, c] ∧ XCls K C id ∧ XAt H a C m f v ∧ (∀ u, RelV c u → u = cv) ∧ PySem.W.kitOne K (.ref C) cv = some b ∧ Q (.bl b) H
/-- str(e) -/
def rXstr (K : PySem.W.Frag) : List V → Hp → VK → Prop := fun xs H Q => ∃ (a C : Addr) (m f : Str) (v : V) (id : String), xs = [.ref a] ∧ XCls K C id ∧ XAt H a C m f v ∧ Q (.str m) H
section
variable {X : Cx} {e : Expr} {te : TE} {f : Str} {id : String} {pos : Pos}
theorem inst_x {pins : List (Addr × Obj)} {σ : L2.St} {H : Hp} {s : Shared} {a C : Addr} {m f : Str} {v : V} (I : Inv X pins σ H s) (x : XAt H a C m f v) :
    ∃ (ox od : Obj) (t : Addr) (tk : Tok) (u : Value), PySem.W.InstAt s.heap a ox C (some od) ∧ ox.data = .fields #[.ref t, .none, .none, .none, .bool false, .none] ∧ PySem.W.lookIn f od = some (some u) ∧ RelV v u ∧ s.heap.TupAt t [.str m tk] := by
  obtain ⟨t, dx, h1, h2, h3⟩ := x
  have ho := exq_at I.hok h1
  obtain ⟨mA, hns, hr⟩ := exd_at I.hok h3
  obtain ⟨od, hod, hl⟩ := lookIn_ns hns
  have l : List.lookup f [(f, v)] = some v := by simp [List.lookup]
  obtain ⟨u, hu, ru⟩ := RelO.some_of (v := v) (o := mA f) (by rw [← l]; exact hr f)
  obtain ⟨_, its, rv, o, ht, hc, n, hd⟩ := (show ObjOk X.prog X.w H s.heap t (.tup [.str m]) from I.hok t _ h2)
  match its, rv with
  | [u1], .cons r1 .nil =>
    obtain ⟨tk, rfl⟩ := r1
    exact ⟨_, od, t, tk, u, ⟨ho, rfl, rfl, hod⟩, rfl, by rw [hl, hu], ru, o, n, ht, hc, hd⟩
theorem pe_xfld (he : PE X e te) (hb : attributeBase e f X.env (eval e X.env) = eval e X.env := by rfl) : PE X (.Attribute e f pos) (tXfld X.K f te) := by
  refine ⟨fun pins s σ H Q I h => ?_⟩
  refine attr_of hb (thn (he.run pins s σ H _ I h) fun u s1 hh => ?_)
  obtain ⟨x, H1, I1, rx, a, C, m, v, id, ex, T, hno, xa, q⟩ := hh
  subst ex
  obtain rfl : u = Value.ref a := rx
  obtain ⟨ox, od, t, tk, u, J, hd, hl, ru, _⟩ := inst_x I1 xa
  exact HandSPX.exc_get I1.kIn J T.ga T.gg T.ex (PySem.W.findObj_own T.hd hno rfl hl) (handed_of ru) ⟨v, H1, I1.tok _, ru, q⟩
theorem sp_class {K : PySem.W.Frag} : PySem.W.specialIn K (.builtin "object.__class__") "__get__" = some (some (.builtin "getset_descriptor.__get__")) := by kernel_rfl
theorem tk_class {K : PySem.W.Frag} : PySem.W.takesIn K (.builtin "object.__class__") = some true := by kernel_rfl
theorem call_xisi : CallR X (.builtin "isinstance") (rXisi X.K) := by
  intro pins s σ H xs us Q I r h
  obtain ⟨a, C, m, f, v, c, cv, b, id, rfl, T, xa, hcv, e, q⟩ := h
  match us, r with
  | [u1, u2], .cons r1 (.cons r2 .nil) =>
    obtain rfl : u1 = Value.ref a := r1
    obtain rfl := hcv _ r2
    obtain ⟨ox, od, t, tk, u, J, _⟩ := inst_x I xa
    have hcl : (PySem.W.clsIn X.K C).isSome = true := by
      obtain ⟨cd, hc, _⟩ := PySem.W.any_some T.hd
      rw [hc]; rfl
    exact PySem.W.kia_one (PySem.W.kitx_exc hcl T.ga T.gg T.ex T.ca sp_class tk_class T.mo) I.kIn J e (fun z => nomatch z) fun tk => ⟨.bl b, H, I.tok tk, rfl, q⟩
theorem call_xstr (hu : X.A.units + 2 < cLine) : CallR X (.type "str") (rXstr X.K) := by
  intro pins s σ H xs us Q I r h
  obtain ⟨a, C, m, f, v, id, rfl, T, xa, q⟩ := h
  match us, r with
  | [u1], .cons r1 .nil =>
    obtain rfl : u1 = Value.ref a := r1
    obtain ⟨ox, od, t, tk, u, J, hd, _, _, ht⟩ := inst_x I xa
    exact PySem.P.str_of_C_one hu ⟨I.kIn, ox, _, J.at_, J.cls, hd, rfl⟩ ht T.st T.ex ⟨.str m, H, I, ⟨tk, rfl⟩, q⟩
end
end XV

namespace XV
open PySem PySem.Spec PyProof.Rows L2
section
variable {P : Program} {w : World} {K : PySem.W.Frag} {mg : Str → Option Value} {base : Heap}
theorem xi_read {id : String} {f m : Str} {C a t : Addr} {v : V} {H : Hp} {Q : VK} (T : XCls K C id) (hno : PySem.W.findIn K (.ref C) f = some none) (ha : H a = some (exq a C t none))
    (q : ∀ H', XAt H' a C m f v → (∀ b o, b ≠ a → H b = some o → H' b = some o) → Q .non H') :
    tSeq (tDrop (tXinit K id (tCons (tVar 0) (tCons (tC (.str m)) tNil)))) (tXst K id f (tVar 0) (tVar 1)) { nx := fun _ H' => Q .non H', rt := Q } [some (.ref a), some v] H := by
  refine ⟨_, rfl, a, C, t, [.str m], rfl, (by show 1 ≤ 1000; decide), T, ha, fun p hp => ?_⟩
  refine ⟨_, rfl, _, rfl, a, C, p, rfl, T, hno, upd_same, fun dx hd => ?_⟩
  have npa : a ≠ p := ne_of_none ha hp
  have nda : a ≠ dx := ne_of_none upd_same hd
  have ndp : p ≠ dx := ne_of_none (by rw [upd_ne npa.symm]; exact upd_same) hd
  refine q _ ⟨p, dx, upd_same, ?_, ?_⟩ fun b o hb e => ?_
  · rw [upd_ne npa.symm, upd_ne ndp, upd_ne npa.symm]; exact upd_same
  · rw [upd_ne nda.symm]; exact upd_same
  · have nbp : b ≠ p := ne_of_none e hp
    have nbd : b ≠ dx := ne_of_none (by rw [upd_ne hb, upd_ne nbp]; exact e) hd
    rw [upd_ne hb, upd_ne nbd, upd_ne hb, upd_ne nbp]; exact e
end
end XV

namespace XV
open PySem PySem.Spec PyProof.Rows L2
/-- for i, x in enumerate(xs), the target's tuple new each time -/
theorem for_enum {K : PySem.W.Frag} {a : Addr} {xs : List V} {g : TG} {tb : TS} {D : Ends} {σ : L2.St} {H : Hp} (Pv : Nat → L2.St → Hp → Prop) (h0 : Pv 0 σ H) (hl : ∀ i σ H, i ≤ xs.length → Pv i σ H → SqL K H a xs)
    (hs : ∀ i x σ H T, xs[i]? = some x → Pv i σ H → H T = none → g (.ref T) σ (upd H T (.tup [.int (i : Nat), x])) fun σ2 H2 => tb { D with nx := Pv (i + 1), ct := Pv (i + 1), bk := D.nx } σ2 H2) (hd : ∀ σ H, Pv xs.length σ H → D.nx σ H) :
    ∃ W : Nat → Nat → L2.St → Hp → Prop, (∃ m, W 0 m σ H) ∧ ∀ i m σ H, W i m σ H →
      ((Ite K a).stop i H ∧ D.nx σ H) ∨ ((Ite K a).go i H ∧ ∃ N : L2.St → Hp → Prop, (∀ σ' H', N σ' H' → ∃ m', m' < m ∧ W (i + 1) m' σ' H') ∧ ∀ x H', (Ite K a).yld i H x H' → g x σ H' fun σ2 H2 => tb { D with nx := N, ct := N, bk := D.nx } σ2 H2) := by
  refine ⟨fun i m σ H => m = xs.length - i ∧ i ≤ xs.length ∧ Pv i σ H, ⟨xs.length, by simp, Nat.zero_le _, h0⟩, ?_⟩
  rintro i m σ H ⟨rfl, hi, p⟩
  have q := hl i σ H hi p
  by_cases hlt : i < xs.length
  · refine .inr ⟨⟨xs, xs[i], q, by simp [hlt]⟩, Pv (i + 1), fun σ' H' p' => ⟨xs.length - (i + 1), by omega, rfl, hlt, p'⟩, fun x H' y => ?_⟩
    obtain ⟨T, z, rfl, nT, rfl, e⟩ := y
    exact hs i z σ H T (e xs q) p nT
  · have e : i = xs.length := by omega
    subst e
    exact .inl ⟨⟨xs, q, Nat.le_refl _⟩, hd σ H p⟩
section
variable {X : Cx}
/-- a ** b where the bits together are not too many -/
theorem op_powW : OpR X (binaryOp .Pow) (rI (fun i j => 0 ≤ j ∧ (Builtin.Int.intBits i : Int) * j ≤ 2 ^ 27) fun i j => .int (i ^ j.toNat)) := opI fun _ _ _ _ _ _ _ hc q => pow_int hc.1 hc.2 q
/-- text * int -/
def rMulS : R2 := fun x y H Q => ∃ (z : Str) (n : Int), x = .str z ∧ y = .int n ∧ MulOk z n ∧ Q (.str (Txt.mul z n)) H
theorem op_mulS : OpR X (binaryOp .Mult) rMulS := by
  intro pins s σ H x y v u Q I rx ry h
  obtain ⟨z, n, rfl, rfl, ok, q⟩ := h
  obtain ⟨t, rfl⟩ := rx
  obtain ⟨t', rfl⟩ := ry
  exact SB.mul ok fun t' k => ⟨.str _, H, I.tok k, ⟨t', rfl⟩, q⟩
end
theorem mulOk_ab : ∀ n : Nat, n < 50 → MulOk "ab" (n : Int) ∧ PyData.strOk (Txt.mul "ab" (n : Int)) = true := by
  unfold MulOk
  decide +kernel
end XV

namespace K99
open PySem PySem.Spec PyProof.Rows L2 XV
def topS (i : Nat) : Stmt := PySem.Challenge.pw_allslopes_k99_errors_by_hand.main.body.getD i (.Pass ⟨0, 0, 0, 0⟩)
section
variable {P : Program} {w : World} {K : PySem.W.Frag} {mg : Str → Option Value} {base : Heap}
abbrev sBadNumber : Stmt := inClass (topS 2) 0
theorem ok_BadNumber {g C S : Addr} {fd : FuncData} {mc : Value} (F : FunD K "__init__" "BadNumber.__init__" (defArgs sBadNumber) (defBody sBadNumber) (defScope sBadNumber) [.non] [] g fd) (T : XCls K C "ValueError.__init__") (hno : PySem.W.findIn K (.ref C) "value" = some none)
    (hm : mg "SlopeError" = some (.ref S)) (hga : PySem.W.specialIn K (.ref S) "__getattribute__" = some (some (.builtin "type.__getattribute__"))) (hrd : PySem.W.readsIn K S mc = true)
    (hf : PySem.W.findCls K (.ref S) mc "__init__" = some (.val (.builtin "ValueError.__init__"))) : FnOk P w K mg base CX0 1 g fd ["self", "value"] (spXI C "no such number" "value") := by
  refine F.ok (N := ["self", "value"]) ⟨rfl, rfl, rfl, by decide +kernel, rfl, by decide +kernel, by decide +kernel⟩ (fun vs H Q E h => ?_) (fun cdv A outer s H vs Q E hr h => ?_)
  · obtain ⟨a, t, v, rfl, _⟩ := h
    rfl
  · obtain ⟨a, t, v, rfl, ha, q⟩ := h
    exact ⟨_, pss_cons (ps_expr (pe_xinitS (id := "ValueError.__init__") (by rfl) hm hga hrd hf rfl (pa_cons (pv 0) (pa_cons pe_str pa_nil)))) (pss_one (ps_xst (id := "ValueError.__init__") (pv 0) (pv 1))), xi_read T hno ha q⟩
abbrev sBadName : Stmt := inClass (topS 3) 0
theorem ok_BadName {g C S : Addr} {fd : FuncData} {mc : Value} (F : FunD K "__init__" "BadName.__init__" (defArgs sBadName) (defBody sBadName) (defScope sBadName) [.non] [] g fd) (T : XCls K C "ValueError.__init__") (hno : PySem.W.findIn K (.ref C) "value" = some none)
    (hm : mg "SlopeError" = some (.ref S)) (hga : PySem.W.specialIn K (.ref S) "__getattribute__" = some (some (.builtin "type.__getattribute__"))) (hrd : PySem.W.readsIn K S mc = true)
    (hf : PySem.W.findCls K (.ref S) mc "__init__" = some (.val (.builtin "ValueError.__init__"))) : FnOk P w K mg base CX0 1 g fd ["self", "value"] (spXI C "no such name" "value") := by
  refine F.ok (N := ["self", "value"]) ⟨rfl, rfl, rfl, by decide +kernel, rfl, by decide +kernel, by decide +kernel⟩ (fun vs H Q E h => ?_) (fun cdv A outer s H vs Q E hr h => ?_)
  · obtain ⟨a, t, v, rfl, _⟩ := h
    rfl
  · obtain ⟨a, t, v, rfl, ha, q⟩ := h
    exact ⟨_, pss_cons (ps_expr (pe_xinitS (id := "ValueError.__init__") (by rfl) hm hga hrd hf rfl (pa_cons (pv 0) (pa_cons pe_str pa_nil)))) (pss_one (ps_xst (id := "ValueError.__init__") (pv 0) (pv 1))), xi_read T hno ha q⟩
abbrev sBadFraction : Stmt := inClass (topS 4) 0
theorem ok_BadFraction {g C S : Addr} {fd : FuncData} {mc : Value} (F : FunD K "__init__" "BadFraction.__init__" (defArgs sBadFraction) (defBody sBadFraction) (defScope sBadFraction) [.non] [] g fd) (T : XCls K C "ValueError.__init__") (hno : PySem.W.findIn K (.ref C) "value" = some none)
    (hm : mg "SlopeError" = some (.ref S)) (hga : PySem.W.specialIn K (.ref S) "__getattribute__" = some (some (.builtin "type.__getattribute__"))) (hrd : PySem.W.readsIn K S mc = true)
    (hf : PySem.W.findCls K (.ref S) mc "__init__" = some (.val (.builtin "ValueError.__init__"))) : FnOk P w K mg base CX0 1 g fd ["self", "value"] (spXI C "no such fraction" "value") := by
  refine F.ok (N := ["self", "value"]) ⟨rfl, rfl, rfl, by decide +kernel, rfl, by decide +kernel, by decide +kernel⟩ (fun vs H Q E h => ?_) (fun cdv A outer s H vs Q E hr h => ?_)
  · obtain ⟨a, t, v, rfl, _⟩ := h
    rfl
  · obtain ⟨a, t, v, rfl, ha, q⟩ := h
    exact ⟨_, pss_cons (ps_expr (pe_xinitS (id := "ValueError.__init__") (by rfl) hm hga hrd hf rfl (pa_cons (pv 0) (pa_cons pe_str pa_nil)))) (pss_one (ps_xst (id := "ValueError.__init__") (pv 0) (pv 1))), xi_read T hno ha q⟩
abbrev sBadExpression : Stmt := inClass (topS 5) 0
theorem ok_BadExpression {g C S : Addr} {fd : FuncData} {mc : Value} (F : FunD K "__init__" "BadExpression.__init__" (defArgs sBadExpression) (defBody sBadExpression) (defScope sBadExpression) [.non] [] g fd) (T : XCls K C "ValueError.__init__") (hno : PySem.W.findIn K (.ref C) "place" = some none)
    (hm : mg "SlopeError" = some (.ref S)) (hga : PySem.W.specialIn K (.ref S) "__getattribute__" = some (some (.builtin "type.__getattribute__"))) (hrd : PySem.W.readsIn K S mc = true)
    (hf : PySem.W.findCls K (.ref S) mc "__init__" = some (.val (.builtin "ValueError.__init__"))) : FnOk P w K mg base CX0 1 g fd ["self", "place"] (spXI C "no such expression" "place") := by
  refine F.ok (N := ["self", "place"]) ⟨rfl, rfl, rfl, by decide +kernel, rfl, by decide +kernel, by decide +kernel⟩ (fun vs H Q E h => ?_) (fun cdv A outer s H vs Q E hr h => ?_)
  · obtain ⟨a, t, v, rfl, _⟩ := h
    rfl
  · obtain ⟨a, t, v, rfl, ha, q⟩ := h
    exact ⟨_, pss_cons (ps_expr (pe_xinitS (id := "ValueError.__init__") (by rfl) hm hga hrd hf rfl (pa_cons (pv 0) (pa_cons pe_str pa_nil)))) (pss_one (ps_xst (id := "ValueError.__init__") (pv 0) (pv 1))), xi_read T hno ha q⟩
abbrev sBadProgram : Stmt := inClass (topS 6) 0
theorem ok_BadProgram {g C S : Addr} {fd : FuncData} {mc : Value} (F : FunD K "__init__" "BadProgram.__init__" (defArgs sBadProgram) (defBody sBadProgram) (defScope sBadProgram) [.non] [] g fd) (T : XCls K C "ValueError.__init__") (hno : PySem.W.findIn K (.ref C) "place" = some none)
    (hm : mg "SlopeError" = some (.ref S)) (hga : PySem.W.specialIn K (.ref S) "__getattribute__" = some (some (.builtin "type.__getattribute__"))) (hrd : PySem.W.readsIn K S mc = true)
    (hf : PySem.W.findCls K (.ref S) mc "__init__" = some (.val (.builtin "ValueError.__init__"))) : FnOk P w K mg base CX0 1 g fd ["self", "place"] (spXI C "no such program" "place") := by
  refine F.ok (N := ["self", "place"]) ⟨rfl, rfl, rfl, by decide +kernel, rfl, by decide +kernel, by decide +kernel⟩ (fun vs H Q E h => ?_) (fun cdv A outer s H vs Q E hr h => ?_)
  · obtain ⟨a, t, v, rfl, _⟩ := h
    rfl
  · obtain ⟨a, t, v, rfl, ha, q⟩ := h
    exact ⟨_, pss_cons (ps_expr (pe_xinitS (id := "ValueError.__init__") (by rfl) hm hga hrd hf rfl (pa_cons (pv 0) (pa_cons pe_str pa_nil)))) (pss_one (ps_xst (id := "ValueError.__init__") (pv 0) (pv 1))), xi_read T hno ha q⟩
abbrev sBadTape : Stmt := inClass (topS 7) 0
theorem ok_BadTape {g C S : Addr} {fd : FuncData} {mc : Value} (F : FunD K "__init__" "BadTape.__init__" (defArgs sBadTape) (defBody sBadTape) (defScope sBadTape) [.non] [] g fd) (T : XCls K C "ValueError.__init__") (hno : PySem.W.findIn K (.ref C) "place" = some none)
    (hm : mg "SlopeError" = some (.ref S)) (hga : PySem.W.specialIn K (.ref S) "__getattribute__" = some (some (.builtin "type.__getattribute__"))) (hrd : PySem.W.readsIn K S mc = true)
    (hf : PySem.W.findCls K (.ref S) mc "__init__" = some (.val (.builtin "ValueError.__init__"))) : FnOk P w K mg base CX0 1 g fd ["self", "place"] (spXI C "no such tape" "place") := by
  refine F.ok (N := ["self", "place"]) ⟨rfl, rfl, rfl, by decide +kernel, rfl, by decide +kernel, by decide +kernel⟩ (fun vs H Q E h => ?_) (fun cdv A outer s H vs Q E hr h => ?_)
  · obtain ⟨a, t, v, rfl, _⟩ := h
    rfl
  · obtain ⟨a, t, v, rfl, ha, q⟩ := h
    exact ⟨_, pss_cons (ps_expr (pe_xinitS (id := "ValueError.__init__") (by rfl) hm hga hrd hf rfl (pa_cons (pv 0) (pa_cons pe_str pa_nil)))) (pss_one (ps_xst (id := "ValueError.__init__") (pv 0) (pv 1))), xi_read T hno ha q⟩
abbrev sBadPoint : Stmt := inClass (topS 8) 0
theorem ok_BadPoint {g C S : Addr} {fd : FuncData} {mc : Value} (F : FunD K "__init__" "BadPoint.__init__" (defArgs sBadPoint) (defBody sBadPoint) (defScope sBadPoint) [.non] [] g fd) (T : XCls K C "ValueError.__init__") (hno : PySem.W.findIn K (.ref C) "place" = some none)
    (hm : mg "SlopeError" = some (.ref S)) (hga : PySem.W.specialIn K (.ref S) "__getattribute__" = some (some (.builtin "type.__getattribute__"))) (hrd : PySem.W.readsIn K S mc = true)
    (hf : PySem.W.findCls K (.ref S) mc "__init__" = some (.val (.builtin "ValueError.__init__"))) : FnOk P w K mg base CX0 1 g fd ["self", "place"] (spXI C "no such point" "place") := by
  refine F.ok (N := ["self", "place"]) ⟨rfl, rfl, rfl, by decide +kernel, rfl, by decide +kernel, by decide +kernel⟩ (fun vs H Q E h => ?_) (fun cdv A outer s H vs Q E hr h => ?_)
  · obtain ⟨a, t, v, rfl, _⟩ := h
    rfl
  · obtain ⟨a, t, v, rfl, ha, q⟩ := h
    exact ⟨_, pss_cons (ps_expr (pe_xinitS (id := "ValueError.__init__") (by rfl) hm hga hrd hf rfl (pa_cons (pv 0) (pa_cons pe_str pa_nil)))) (pss_one (ps_xst (id := "ValueError.__init__") (pv 0) (pv 1))), xi_read T hno ha q⟩
abbrev sBadText : Stmt := inClass (topS 9) 0
theorem ok_BadText {g C S : Addr} {fd : FuncData} {mc : Value} (F : FunD K "__init__" "BadText.__init__" (defArgs sBadText) (defBody sBadText) (defScope sBadText) [.non] [] g fd) (T : XCls K C "ValueError.__init__") (hno : PySem.W.findIn K (.ref C) "place" = some none)
    (hm : mg "SlopeError" = some (.ref S)) (hga : PySem.W.specialIn K (.ref S) "__getattribute__" = some (some (.builtin "type.__getattribute__"))) (hrd : PySem.W.readsIn K S mc = true)
    (hf : PySem.W.findCls K (.ref S) mc "__init__" = some (.val (.builtin "ValueError.__init__"))) : FnOk P w K mg base CX0 1 g fd ["self", "place"] (spXI C "no such text" "place") := by
  refine F.ok (N := ["self", "place"]) ⟨rfl, rfl, rfl, by decide +kernel, rfl, by decide +kernel, by decide +kernel⟩ (fun vs H Q E h => ?_) (fun cdv A outer s H vs Q E hr h => ?_)
  · obtain ⟨a, t, v, rfl, _⟩ := h
    rfl
  · obtain ⟨a, t, v, rfl, ha, q⟩ := h
    exact ⟨_, pss_cons (ps_expr (pe_xinitS (id := "ValueError.__init__") (by rfl) hm hga hrd hf rfl (pa_cons (pv 0) (pa_cons pe_str pa_nil)))) (pss_one (ps_xst (id := "ValueError.__init__") (pv 0) (pv 1))), xi_read T hno ha q⟩
abbrev sBadPaper : Stmt := inClass (topS 10) 0
theorem ok_BadPaper {g C S : Addr} {fd : FuncData} {mc : Value} (F : FunD K "__init__" "BadPaper.__init__" (defArgs sBadPaper) (defBody sBadPaper) (defScope sBadPaper) [.non] [] g fd) (T : XCls K C "ValueError.__init__") (hno : PySem.W.findIn K (.ref C) "place" = some none)
    (hm : mg "SlopeError" = some (.ref S)) (hga : PySem.W.specialIn K (.ref S) "__getattribute__" = some (some (.builtin "type.__getattribute__"))) (hrd : PySem.W.readsIn K S mc = true)
    (hf : PySem.W.findCls K (.ref S) mc "__init__" = some (.val (.builtin "ValueError.__init__"))) : FnOk P w K mg base CX0 1 g fd ["self", "place"] (spXI C "no such paper" "place") := by
  refine F.ok (N := ["self", "place"]) ⟨rfl, rfl, rfl, by decide +kernel, rfl, by decide +kernel, by decide +kernel⟩ (fun vs H Q E h => ?_) (fun cdv A outer s H vs Q E hr h => ?_)
  · obtain ⟨a, t, v, rfl, _⟩ := h
    rfl
  · obtain ⟨a, t, v, rfl, ha, q⟩ := h
    exact ⟨_, pss_cons (ps_expr (pe_xinitS (id := "ValueError.__init__") (by rfl) hm hga hrd hf rfl (pa_cons (pv 0) (pa_cons pe_str pa_nil)))) (pss_one (ps_xst (id := "ValueError.__init__") (pv 0) (pv 1))), xi_read T hno ha q⟩
abbrev sBadLinear : Stmt := inClass (topS 11) 0
theorem ok_BadLinear {g C S : Addr} {fd : FuncData} {mc : Value} (F : FunD K "__init__" "BadLinear.__init__" (defArgs sBadLinear) (defBody sBadLinear) (defScope sBadLinear) [.non] [] g fd) (T : XCls K C "ValueError.__init__") (hno : PySem.W.findIn K (.ref C) "place" = some none)
    (hm : mg "SlopeError" = some (.ref S)) (hga : PySem.W.specialIn K (.ref S) "__getattribute__" = some (some (.builtin "type.__getattribute__"))) (hrd : PySem.W.readsIn K S mc = true)
    (hf : PySem.W.findCls K (.ref S) mc "__init__" = some (.val (.builtin "ValueError.__init__"))) : FnOk P w K mg base CX0 1 g fd ["self", "place"] (spXI C "no such linear tape" "place") := by
  refine F.ok (N := ["self", "place"]) ⟨rfl, rfl, rfl, by decide +kernel, rfl, by decide +kernel, by decide +kernel⟩ (fun vs H Q E h => ?_) (fun cdv A outer s H vs Q E hr h => ?_)
  · obtain ⟨a, t, v, rfl, _⟩ := h
    rfl
  · obtain ⟨a, t, v, rfl, ha, q⟩ := h
    exact ⟨_, pss_cons (ps_expr (pe_xinitS (id := "ValueError.__init__") (by rfl) hm hga hrd hf rfl (pa_cons (pv 0) (pa_cons pe_str pa_nil)))) (pss_one (ps_xst (id := "ValueError.__init__") (pv 0) (pv 1))), xi_read T hno ha q⟩
abbrev sBadRule : Stmt := inClass (topS 12) 0
theorem ok_BadRule {g C S : Addr} {fd : FuncData} {mc : Value} (F : FunD K "__init__" "BadRule.__init__" (defArgs sBadRule) (defBody sBadRule) (defScope sBadRule) [.non] [] g fd) (T : XCls K C "ValueError.__init__") (hno : PySem.W.findIn K (.ref C) "place" = some none)
    (hm : mg "SlopeError" = some (.ref S)) (hga : PySem.W.specialIn K (.ref S) "__getattribute__" = some (some (.builtin "type.__getattribute__"))) (hrd : PySem.W.readsIn K S mc = true)
    (hf : PySem.W.findCls K (.ref S) mc "__init__" = some (.val (.builtin "ValueError.__init__"))) : FnOk P w K mg base CX0 1 g fd ["self", "place"] (spXI C "no such rule" "place") := by
  refine F.ok (N := ["self", "place"]) ⟨rfl, rfl, rfl, by decide +kernel, rfl, by decide +kernel, by decide +kernel⟩ (fun vs H Q E h => ?_) (fun cdv A outer s H vs Q E hr h => ?_)
  · obtain ⟨a, t, v, rfl, _⟩ := h
    rfl
  · obtain ⟨a, t, v, rfl, ha, q⟩ := h
    exact ⟨_, pss_cons (ps_expr (pe_xinitS (id := "ValueError.__init__") (by rfl) hm hga hrd hf rfl (pa_cons (pv 0) (pa_cons pe_str pa_nil)))) (pss_one (ps_xst (id := "ValueError.__init__") (pv 0) (pv 1))), xi_read T hno ha q⟩
abbrev sBadChain : Stmt := inClass (topS 13) 0
theorem ok_BadChain {g C S : Addr} {fd : FuncData} {mc : Value} (F : FunD K "__init__" "BadChain.__init__" (defArgs sBadChain) (defBody sBadChain) (defScope sBadChain) [.non] [] g fd) (T : XCls K C "ValueError.__init__") (hno : PySem.W.findIn K (.ref C) "place" = some none)
    (hm : mg "SlopeError" = some (.ref S)) (hga : PySem.W.specialIn K (.ref S) "__getattribute__" = some (some (.builtin "type.__getattribute__"))) (hrd : PySem.W.readsIn K S mc = true)
    (hf : PySem.W.findCls K (.ref S) mc "__init__" = some (.val (.builtin "ValueError.__init__"))) : FnOk P w K mg base CX0 1 g fd ["self", "place"] (spXI C "no such chain" "place") := by
  refine F.ok (N := ["self", "place"]) ⟨rfl, rfl, rfl, by decide +kernel, rfl, by decide +kernel, by decide +kernel⟩ (fun vs H Q E h => ?_) (fun cdv A outer s H vs Q E hr h => ?_)
  · obtain ⟨a, t, v, rfl, _⟩ := h
    rfl
  · obtain ⟨a, t, v, rfl, ha, q⟩ := h
    exact ⟨_, pss_cons (ps_expr (pe_xinitS (id := "ValueError.__init__") (by rfl) hm hga hrd hf rfl (pa_cons (pv 0) (pa_cons pe_str pa_nil)))) (pss_one (ps_xst (id := "ValueError.__init__") (pv 0) (pv 1))), xi_read T hno ha q⟩
abbrev sBadSchedule : Stmt := inClass (topS 14) 0
theorem ok_BadSchedule {g C S : Addr} {fd : FuncData} {mc : Value} (F : FunD K "__init__" "BadSchedule.__init__" (defArgs sBadSchedule) (defBody sBadSchedule) (defScope sBadSchedule) [.non] [] g fd) (T : XCls K C "ValueError.__init__") (hno : PySem.W.findIn K (.ref C) "place" = some none)
    (hm : mg "SlopeError" = some (.ref S)) (hga : PySem.W.specialIn K (.ref S) "__getattribute__" = some (some (.builtin "type.__getattribute__"))) (hrd : PySem.W.readsIn K S mc = true)
    (hf : PySem.W.findCls K (.ref S) mc "__init__" = some (.val (.builtin "ValueError.__init__"))) : FnOk P w K mg base CX0 1 g fd ["self", "place"] (spXI C "no such schedule" "place") := by
  refine F.ok (N := ["self", "place"]) ⟨rfl, rfl, rfl, by decide +kernel, rfl, by decide +kernel, by decide +kernel⟩ (fun vs H Q E h => ?_) (fun cdv A outer s H vs Q E hr h => ?_)
  · obtain ⟨a, t, v, rfl, _⟩ := h
    rfl
  · obtain ⟨a, t, v, rfl, ha, q⟩ := h
    exact ⟨_, pss_cons (ps_expr (pe_xinitS (id := "ValueError.__init__") (by rfl) hm hga hrd hf rfl (pa_cons (pv 0) (pa_cons pe_str pa_nil)))) (pss_one (ps_xst (id := "ValueError.__init__") (pv 0) (pv 1))), xi_read T hno ha q⟩
abbrev sBadCode : Stmt := inClass (topS 15) 0
theorem ok_BadCode {g C S : Addr} {fd : FuncData} {mc : Value} (F : FunD K "__init__" "BadCode.__init__" (defArgs sBadCode) (defBody sBadCode) (defScope sBadCode) [.non] [] g fd) (T : XCls K C "ValueError.__init__") (hno : PySem.W.findIn K (.ref C) "place" = some none)
    (hm : mg "SlopeError" = some (.ref S)) (hga : PySem.W.specialIn K (.ref S) "__getattribute__" = some (some (.builtin "type.__getattribute__"))) (hrd : PySem.W.readsIn K S mc = true)
    (hf : PySem.W.findCls K (.ref S) mc "__init__" = some (.val (.builtin "ValueError.__init__"))) : FnOk P w K mg base CX0 1 g fd ["self", "place"] (spXI C "no such code" "place") := by
  refine F.ok (N := ["self", "place"]) ⟨rfl, rfl, rfl, by decide +kernel, rfl, by decide +kernel, by decide +kernel⟩ (fun vs H Q E h => ?_) (fun cdv A outer s H vs Q E hr h => ?_)
  · obtain ⟨a, t, v, rfl, _⟩ := h
    rfl
  · obtain ⟨a, t, v, rfl, ha, q⟩ := h
    exact ⟨_, pss_cons (ps_expr (pe_xinitS (id := "ValueError.__init__") (by rfl) hm hga hrd hf rfl (pa_cons (pv 0) (pa_cons pe_str pa_nil)))) (pss_one (ps_xst (id := "ValueError.__init__") (pv 0) (pv 1))), xi_read T hno ha q⟩
abbrev sBadPattern : Stmt := inClass (topS 16) 0
theorem ok_BadPattern {g C S : Addr} {fd : FuncData} {mc : Value} (F : FunD K "__init__" "BadPattern.__init__" (defArgs sBadPattern) (defBody sBadPattern) (defScope sBadPattern) [.non] [] g fd) (T : XCls K C "ValueError.__init__") (hno : PySem.W.findIn K (.ref C) "place" = some none)
    (hm : mg "SlopeError" = some (.ref S)) (hga : PySem.W.specialIn K (.ref S) "__getattribute__" = some (some (.builtin "type.__getattribute__"))) (hrd : PySem.W.readsIn K S mc = true)
    (hf : PySem.W.findCls K (.ref S) mc "__init__" = some (.val (.builtin "ValueError.__init__"))) : FnOk P w K mg base CX0 1 g fd ["self", "place"] (spXI C "no such pattern" "place") := by
  refine F.ok (N := ["self", "place"]) ⟨rfl, rfl, rfl, by decide +kernel, rfl, by decide +kernel, by decide +kernel⟩ (fun vs H Q E h => ?_) (fun cdv A outer s H vs Q E hr h => ?_)
  · obtain ⟨a, t, v, rfl, _⟩ := h
    rfl
  · obtain ⟨a, t, v, rfl, ha, q⟩ := h
    exact ⟨_, pss_cons (ps_expr (pe_xinitS (id := "ValueError.__init__") (by rfl) hm hga hrd hf rfl (pa_cons (pv 0) (pa_cons pe_str pa_nil)))) (pss_one (ps_xst (id := "ValueError.__init__") (pv 0) (pv 1))), xi_read T hno ha q⟩
abbrev sBadGroups : Stmt := inClass (topS 17) 0
theorem ok_BadGroups {g C S : Addr} {fd : FuncData} {mc : Value} (F : FunD K "__init__" "BadGroups.__init__" (defArgs sBadGroups) (defBody sBadGroups) (defScope sBadGroups) [.non] [] g fd) (T : XCls K C "ValueError.__init__") (hno : PySem.W.findIn K (.ref C) "place" = some none)
    (hm : mg "SlopeError" = some (.ref S)) (hga : PySem.W.specialIn K (.ref S) "__getattribute__" = some (some (.builtin "type.__getattribute__"))) (hrd : PySem.W.readsIn K S mc = true)
    (hf : PySem.W.findCls K (.ref S) mc "__init__" = some (.val (.builtin "ValueError.__init__"))) : FnOk P w K mg base CX0 1 g fd ["self", "place"] (spXI C "no such groups" "place") := by
  refine F.ok (N := ["self", "place"]) ⟨rfl, rfl, rfl, by decide +kernel, rfl, by decide +kernel, by decide +kernel⟩ (fun vs H Q E h => ?_) (fun cdv A outer s H vs Q E hr h => ?_)
  · obtain ⟨a, t, v, rfl, _⟩ := h
    rfl
  · obtain ⟨a, t, v, rfl, ha, q⟩ := h
    exact ⟨_, pss_cons (ps_expr (pe_xinitS (id := "ValueError.__init__") (by rfl) hm hga hrd hf rfl (pa_cons (pv 0) (pa_cons pe_str pa_nil)))) (pss_one (ps_xst (id := "ValueError.__init__") (pv 0) (pv 1))), xi_read T hno ha q⟩
abbrev sBadStart : Stmt := inClass (topS 18) 0
theorem ok_BadStart {g C S : Addr} {fd : FuncData} {mc : Value} (F : FunD K "__init__" "BadStart.__init__" (defArgs sBadStart) (defBody sBadStart) (defScope sBadStart) [.non] [] g fd) (T : XCls K C "ValueError.__init__") (hno : PySem.W.findIn K (.ref C) "place" = some none)
    (hm : mg "SlopeError" = some (.ref S)) (hga : PySem.W.specialIn K (.ref S) "__getattribute__" = some (some (.builtin "type.__getattribute__"))) (hrd : PySem.W.readsIn K S mc = true)
    (hf : PySem.W.findCls K (.ref S) mc "__init__" = some (.val (.builtin "ValueError.__init__"))) : FnOk P w K mg base CX0 1 g fd ["self", "place"] (spXI C "no such start" "place") := by
  refine F.ok (N := ["self", "place"]) ⟨rfl, rfl, rfl, by decide +kernel, rfl, by decide +kernel, by decide +kernel⟩ (fun vs H Q E h => ?_) (fun cdv A outer s H vs Q E hr h => ?_)
  · obtain ⟨a, t, v, rfl, _⟩ := h
    rfl
  · obtain ⟨a, t, v, rfl, ha, q⟩ := h
    exact ⟨_, pss_cons (ps_expr (pe_xinitS (id := "ValueError.__init__") (by rfl) hm hga hrd hf rfl (pa_cons (pv 0) (pa_cons pe_str pa_nil)))) (pss_one (ps_xst (id := "ValueError.__init__") (pv 0) (pv 1))), xi_read T hno ha q⟩
abbrev sBadMap : Stmt := inClass (topS 19) 0
theorem ok_BadMap {g C S : Addr} {fd : FuncData} {mc : Value} (F : FunD K "__init__" "BadMap.__init__" (defArgs sBadMap) (defBody sBadMap) (defScope sBadMap) [.non] [] g fd) (T : XCls K C "ValueError.__init__") (hno : PySem.W.findIn K (.ref C) "place" = some none)
    (hm : mg "SlopeError" = some (.ref S)) (hga : PySem.W.specialIn K (.ref S) "__getattribute__" = some (some (.builtin "type.__getattribute__"))) (hrd : PySem.W.readsIn K S mc = true)
    (hf : PySem.W.findCls K (.ref S) mc "__init__" = some (.val (.builtin "ValueError.__init__"))) : FnOk P w K mg base CX0 1 g fd ["self", "place"] (spXI C "no such mapping" "place") := by
  refine F.ok (N := ["self", "place"]) ⟨rfl, rfl, rfl, by decide +kernel, rfl, by decide +kernel, by decide +kernel⟩ (fun vs H Q E h => ?_) (fun cdv A outer s H vs Q E hr h => ?_)
  · obtain ⟨a, t, v, rfl, _⟩ := h
    rfl
  · obtain ⟨a, t, v, rfl, ha, q⟩ := h
    exact ⟨_, pss_cons (ps_expr (pe_xinitS (id := "ValueError.__init__") (by rfl) hm hga hrd hf rfl (pa_cons (pv 0) (pa_cons pe_str pa_nil)))) (pss_one (ps_xst (id := "ValueError.__init__") (pv 0) (pv 1))), xi_read T hno ha q⟩
abbrev sBadDeed : Stmt := inClass (topS 20) 0
theorem ok_BadDeed {g C S : Addr} {fd : FuncData} {mc : Value} (F : FunD K "__init__" "BadDeed.__init__" (defArgs sBadDeed) (defBody sBadDeed) (defScope sBadDeed) [.non] [] g fd) (T : XCls K C "ValueError.__init__") (hno : PySem.W.findIn K (.ref C) "place" = some none)
    (hm : mg "SlopeError" = some (.ref S)) (hga : PySem.W.specialIn K (.ref S) "__getattribute__" = some (some (.builtin "type.__getattribute__"))) (hrd : PySem.W.readsIn K S mc = true)
    (hf : PySem.W.findCls K (.ref S) mc "__init__" = some (.val (.builtin "ValueError.__init__"))) : FnOk P w K mg base CX0 1 g fd ["self", "place"] (spXI C "no such deed" "place") := by
  refine F.ok (N := ["self", "place"]) ⟨rfl, rfl, rfl, by decide +kernel, rfl, by decide +kernel, by decide +kernel⟩ (fun vs H Q E h => ?_) (fun cdv A outer s H vs Q E hr h => ?_)
  · obtain ⟨a, t, v, rfl, _⟩ := h
    rfl
  · obtain ⟨a, t, v, rfl, ha, q⟩ := h
    exact ⟨_, pss_cons (ps_expr (pe_xinitS (id := "ValueError.__init__") (by rfl) hm hga hrd hf rfl (pa_cons (pv 0) (pa_cons pe_str pa_nil)))) (pss_one (ps_xst (id := "ValueError.__init__") (pv 0) (pv 1))), xi_read T hno ha q⟩
abbrev sTooMany : Stmt := inClass (topS 21) 0
theorem ok_TooMany {g C : Addr} {fd : FuncData} (F : FunD K "__init__" "TooMany.__init__" (defArgs sTooMany) (defBody sTooMany) (defScope sTooMany) [] [] g fd) (T : XCls K C "OverflowError.__init__") (hno : PySem.W.findIn K (.ref C) "most" = some none)
    (hm : mg "OverflowError" = none) : FnOk P w K mg base CX0 1 g fd ["self", "most"] (spXI C "too many" "most") := by
  refine F.ok (N := ["self", "most"]) ⟨rfl, rfl, rfl, by decide +kernel, rfl, by decide +kernel, by decide +kernel⟩ (fun vs H Q E h => ?_) (fun cdv A outer s H vs Q E hr h => ?_)
  · obtain ⟨a, t, v, rfl, _⟩ := h
    rfl
  · obtain ⟨a, t, v, rfl, ha, q⟩ := h
    exact ⟨_, pss_cons (ps_expr (pe_xinitT (T := "OverflowError") (id := "OverflowError.__init__") (by rfl) hm (by decide +kernel) (by kernel_rfl) (by decide +kernel) (by kernel_rfl) rfl (pa_cons (pv 0) (pa_cons pe_str pa_nil)))) (pss_one (ps_xst (id := "OverflowError.__init__") (pv 0) (pv 1))), xi_read T hno ha q⟩
abbrev sNoSuch : Stmt := inClass (topS 22) 0
theorem ok_NoSuch {g C : Addr} {fd : FuncData} (F : FunD K "__init__" "NoSuch.__init__" (defArgs sNoSuch) (defBody sNoSuch) (defScope sNoSuch) [.non] [] g fd) (T : XCls K C "LookupError.__init__") (hno : PySem.W.findIn K (.ref C) "value" = some none)
    (hm : mg "LookupError" = none) : FnOk P w K mg base CX0 1 g fd ["self", "value"] (spXI C "nothing so called" "value") := by
  refine F.ok (N := ["self", "value"]) ⟨rfl, rfl, rfl, by decide +kernel, rfl, by decide +kernel, by decide +kernel⟩ (fun vs H Q E h => ?_) (fun cdv A outer s H vs Q E hr h => ?_)
  · obtain ⟨a, t, v, rfl, _⟩ := h
    rfl
  · obtain ⟨a, t, v, rfl, ha, q⟩ := h
    exact ⟨_, pss_cons (ps_expr (pe_xinitT (T := "LookupError") (id := "LookupError.__init__") (by rfl) hm (by decide +kernel) (by kernel_rfl) (by decide +kernel) (by kernel_rfl) rfl (pa_cons (pv 0) (pa_cons pe_str pa_nil)))) (pss_one (ps_xst (id := "LookupError.__init__") (pv 0) (pv 1))), xi_read T hno ha q⟩
end
end K99

namespace K99
open PySem PySem.Spec PyProof.Rows L2 XV
/-! ### the draws -/
abbrev sMixed : Stmt := topS 24
abbrev sDraw : Stmt := topS 25
abbrev sDigit : Stmt := topS 26
theorem scMixed : FnScope ["cell", "k", "number"] ["cell", "k"] (defScope sMixed) := ⟨rfl, rfl, rfl, by decide +kernel, rfl, by decide +kernel, by decide +kernel⟩
theorem scDraw : FnScope ["cell", "k"] ["cell", "k"] (defScope sDraw) := ⟨rfl, rfl, rfl, by decide +kernel, rfl, by decide +kernel, by decide +kernel⟩
theorem scDigit : FnScope ["state", "below", "j", "found"] ["state", "below"] (defScope sDigit) := ⟨rfl, rfl, rfl, by decide +kernel, rfl, by decide +kernel, by decide +kernel⟩
/-- the dict of the draws -/
def dSt (l c t : Int) : HO := .dK [(.inr "left", .int l), (.inr "cell", .int c), (.inr "turns", .int t)]
theorem g_left {l c t : Int} : valV ([(.inr "left", .int l), (.inr "cell", .int c), (.inr "turns", .int t)] : List (Key × V)) (.inr "left") = some (.int l) := by rfl
theorem g_cell {l c t : Int} : valV ([(.inr "left", .int l), (.inr "cell", .int c), (.inr "turns", .int t)] : List (Key × V)) (.inr "cell") = some (.int c) := by rfl
theorem g_turns {l c t : Int} : valV ([(.inr "left", .int l), (.inr "cell", .int c), (.inr "turns", .int t)] : List (Key × V)) (.inr "turns") = some (.int t) := by rfl
theorem p_left {l c t x : Int} : putK ([(.inr "left", .int l), (.inr "cell", .int c), (.inr "turns", .int t)] : List (Key × V)) (.inr "left") (.int x) = [(.inr "left", .int x), (.inr "cell", .int c), (.inr "turns", .int t)] := by rfl
theorem p_turns {l c t x : Int} : putK ([(.inr "left", .int l), (.inr "cell", .int c), (.inr "turns", .int t)] : List (Key × V)) (.inr "turns") (.int x) = [(.inr "left", .int l), (.inr "cell", .int c), (.inr "turns", .int x)] := by rfl
def spMixed : Sp := fun vs H Q _ => ∃ c k : Int, vs = [.int c, .int k] ∧ 0 ≤ k ∧ k ≤ 1000000000000 ∧ ∀ r H', 0 ≤ r → r < 2147483647 → Same H H' → Q (.int r) H'
def spDraw : Sp := fun vs H Q _ => ∃ c k : Int, vs = [.int c, .int k] ∧ 0 ≤ k ∧ k ≤ 1000 ∧ ∀ l p H', H p = none → Same H H' → H' p = some (dSt l c (1000 * k)) → Q (.ref p) H'
def spDigit : Sp := fun vs H Q _ => ∃ (d : Addr) (l c t b : Int), vs = [.ref d, .int b] ∧ H d = some (dSt l c t) ∧ 0 ≤ t ∧ t ≤ 100000000000 ∧ 0 < b ∧ b < 1000000000 ∧
  ∀ r l' t' H', 0 ≤ r → r < b → t ≤ t' → t' ≤ t + 4 → H' d = some (dSt l' c t') → (∀ a o, a ≠ d → H a = some o → H' a = some o) → Q (.int r) H'
section
variable {P : Program} {w : World} {K : PySem.W.Frag} {mg : Str → Option Value} {base : Heap}
theorem same_new {H : Hp} {p : Addr} {o : HO} (h : H p = none) : Same H (upd H p o) := fun b x e => by
  rw [upd_ne (ne_of_none e h)]
  exact e
theorem ok_mixed {f : Addr} {fd : FuncData} {k : Nat} (F : Fun K "_law_mixed" "_law_mixed" sMixed f fd) : FnOk P w K mg base CX0 (k + 1) f fd ["cell", "k"] spMixed := by
  refine F.ok scMixed (fun vs H Q E h => ?_) (fun cdv A outer s H vs Q E hr h => ?_)
  · obtain ⟨c, k, rfl, _⟩ := h
    rfl
  · obtain ⟨c, k, rfl, h0, h1, q⟩ := h
    refine ⟨_, pss_cons (ps_set (i := 2) scMixed.nd rfl (.inl rfl) (pe_op op_add (pe_op op_add (pe_op op_mod (pv 0) (pe_ix ix_list (pe_lst (pa_cons pe_int (pa_cons pe_int (pa_cons pe_int (pa_cons pe_int pa_nil))))) (pe_op op_mod (pv 1) pe_int) (fun _ _ => rfl))) (pe_op op_mul pe_int (pv 1))) pe_int))
      (pss_one (ps_ret (pe_op op_mod (pe_op op_mul (pe_op op_mod (pe_op op_mul (pv 2) (pv 2)) pe_int) pe_int) pe_int))), ?_⟩
    refine ⟨_, rfl, (by show 4 ≤ sizeLine; decide), fun p hp => ?_⟩
    refine ⟨_, rfl, k, 4, rfl, rfl, (by show (0 : Int) < 4; decide), ?_⟩
    have k0 := Int.emod_nonneg k (show (4 : Int) ≠ 0 by decide)
    have k4 := Int.emod_lt_of_pos k (show (0 : Int) < 4 by decide)
    obtain ⟨m, hm, hat⟩ : ∃ m : Int, (0 < m ∧ m < 2147483648) ∧ atI ([.int 1000000007, .int 998244353, .int 2147483629, .int 1000000009] : List V) (k % 4) = some (.int m) := by
      have : k % 4 = 0 ∨ k % 4 = 1 ∨ k % 4 = 2 ∨ k % 4 = 3 := by omega
      rcases this with e | e | e | e <;> rw [e]
      · exact ⟨1000000007, by decide, atI_nat (j := 0) rfl⟩
      · exact ⟨998244353, by decide, atI_nat (j := 1) rfl⟩
      · exact ⟨2147483629, by decide, atI_nat (j := 2) rfl⟩
      · exact ⟨1000000009, by decide, atI_nat (j := 3) rfl⟩
    refine ⟨p, _, _, _, rfl, rfl, SqL.of upd_same, hat, ?_⟩
    refine ⟨_, _, rfl, rfl, hm.1, ?_⟩
    have m0 := Int.emod_nonneg c (show m ≠ 0 by omega)
    have m1 := Int.emod_lt_of_pos c hm.1
    refine ⟨_, rfl, 7919, k, rfl, rfl, .inl (by decide), _, _, rfl, rfl, _, _, rfl, rfl, ?_⟩
    refine ⟨_, rfl, _, rfl, _, _, rfl, rfl, .inl (by omega), _, _, rfl, rfl, (by show (0 : Int) < 2147483647; decide), _, _, rfl, rfl, .inr (by decide), _, _, rfl, rfl, (by show (0 : Int) < 2147483647; decide), ?_⟩
    exact q _ _ (Int.emod_nonneg _ (by decide)) (Int.emod_lt_of_pos _ (by decide)) (same_new hp)
theorem ok_draw {f : Addr} {fd : FuncData} {k : Nat} (F : Fun K "_law_draw" "_law_draw" sDraw f fd) : FnOk P w K mg base CX0 (k + 1) f fd ["cell", "k"] spDraw := by
  refine F.ok scDraw (fun vs H Q E h => ?_) (fun cdv A outer s H vs Q E hr h => ?_)
  · obtain ⟨c, k, rfl, _⟩ := h
    rfl
  · obtain ⟨c, k, rfl, h0, h1, q⟩ := h
    refine ⟨_, pss_one (ps_ret (pe_disp (pps_cons pe_str (pe_ifExp (pt_cmpR op_ge (pv 0) (pe_op op_pow pe_int pe_int) (nomark _)) (pv 0) pe_int) (pps_cons pe_str (pv 0) (pps_cons pe_str (pe_op op_mul pe_int (pv 1)) pps_nil))) (by rfl) (by rfl) (fun z => by cases z) (by decide))), ?_⟩
    intro p hp
    have fin : ∀ l : Int, Q (.ref p) (upd (upd H p (.dK [])) p (dSt l c (1000 * k))) := fun l => q l p _ hp (fun b o e => by rw [upd_ne (ne_of_none e hp), upd_ne (ne_of_none e hp)]; exact e) upd_same
    refine ⟨_, rfl, 10, 18, rfl, rfl, ⟨by decide, by decide, by decide⟩, _, _, rfl, rfl, _, rfl, ite2 (fun _ => ?_) (fun _ => ?_)⟩
    · exact ⟨_, rfl, _, rfl, _, rfl, 1000, k, rfl, rfl, .inl (by decide), upd_same, [(.inr "left", .int c), (.inr "cell", .int c), (.inr "turns", .int (1000 * k))], rfl, (by show 3 ≤ 15; decide), fin c⟩
    · exact ⟨_, rfl, _, rfl, 1000, k, rfl, rfl, .inl (by decide), upd_same, [(.inr "left", .int 0), (.inr "cell", .int c), (.inr "turns", .int (1000 * k))], rfl, (by show 3 ≤ 15; decide), fin 0⟩
theorem ok_digit {f fM : Addr} {fd fdM : FuncData} {k : Nat} (F : Fun K "_law_digit" "_law_digit" sDigit f fd) (FM : Fun K "_law_mixed" "_law_mixed" sMixed fM fdM) (bM : Binds K fdM ["cell", "k"] []) (mM : mg "_law_mixed" = some (.ref fM)) (mR : mg "range" = none) :
    FnOk P w K mg base CX0 (k + 2) f fd ["state", "below"] spDigit := by
  have GM : FnOk P w K mg base CX0 (k + 1) fM fdM ["cell", "k"] spMixed := ok_mixed FM
  refine F.ok scDigit (fun vs H Q E h => ?_) (fun cdv A outer s H vs Q E hr h => ?_)
  · obtain ⟨d, l, c, t, b, rfl, _⟩ := h
    rfl
  · obtain ⟨d, l, c, t, b, rfl, hd, t0, t1, b0, b1, q⟩ := h
    refine ⟨_, pss_cons (ps_if (pt_cmpR op_eq (pe_dget (hu_of hr) (pv 0) pe_str (fun _ _ => rfl)) pe_int (nomark _))
        (pss_one (ps_for PassesOwn.never rfl (pi_range1 rfl mR (pa_cons pe_int pa_nil)) (pg_name (i := 2) scDigit.nd rfl (.inl rfl))
          (pss_cons (ps_dput (hu_of hr) (pv 0) pe_str (pe_op op_add (pe_dget (hu_of hr) (pv 0) pe_str (fun _ _ => rfl)) pe_int) rfl)
          (pss_one (ps_dput (hu_of hr) (pv 0) pe_str (pe_op op_add (pe_op op_mul (pe_dget (hu_of hr) (pv 0) pe_str (fun _ _ => rfl)) pe_int) (pe_call GM hr (by rfl) mM FM.kp bM .nil pass0 (pa_cons (pe_dget (hu_of hr) (pv 0) pe_str (fun _ _ => rfl)) (pa_cons (pe_dget (hu_of hr) (pv 0) pe_str (fun _ _ => rfl)) pa_nil)))) rfl))))) pss_nil)
      (pss_cons (ps_set (i := 3) scDigit.nd rfl (.inl rfl) (pe_op op_mod (pe_dget (hu_of hr) (pv 0) pe_str (fun _ _ => rfl)) (pv 1)))
      (pss_cons (ps_dput (hu_of hr) (pv 0) pe_str (pe_op op_fdiv (pe_dget (hu_of hr) (pv 0) pe_str (fun _ _ => rfl)) (pv 1)) rfl)
      (pss_one (ps_ret (pv 3))))), ?_⟩
    -- what follows the if
    have tail : ∀ (l' t' : Int) (v2 : Option V) (H1 : Hp), t ≤ t' → t' ≤ t + 4 → H1 d = some (dSt l' c t') → (∀ a o, a ≠ d → H a = some o → H1 a = some o) →
        tSeq (tAsg (tOp (rI (fun _ j => 0 < j) fun i j => .int (i % j)) (tDGet (tVar 0) (tC (.str "left"))) (tVar 1)) (gName 3)) (tSeq (sDPut (tVar 0) (tC (.str "left")) (tOp (rI CDiv fun i j => .int (i / j)) (tDGet (tVar 0) (tC (.str "left"))) (tVar 1))) (tRet (tVar 3)))
          { nx := fun _ H' => Q .non H', rt := Q } [some (.ref d), some (.int b), v2, none] H1 := by
      intro l' t' v2 H1 h1 h2 e1 k1
      refine ⟨_, rfl, d, _, rfl, DGet.k (k := .inr "left") e1, _, rfl, l', b, rfl, rfl, b0, ?_⟩
      refine ⟨_, rfl, d, _, rfl, DGet.k (k := .inr "left") e1, _, rfl, l', b, rfl, rfl, ⟨b0, by omega⟩, _, rfl, d, _, rfl, DPut.k (k := .inr "left") e1 (by show 3 < sizeLine; decide), _, rfl, ?_⟩
      exact q _ _ t' _ (Int.emod_nonneg _ (by omega)) (Int.emod_lt_of_pos _ b0) h1 h2 (upd_same.trans (congrArg (fun z => some (HO.dK z)) p_left)) fun a o ha e => by rw [upd_ne ha]; exact k1 a o ha e
    refine ⟨_, rfl, d, _, rfl, DGet.k (k := .inr "left") hd, rfl, _, rfl, ite2 (fun e => ?_) (fun e => ?_)⟩
    · refine ⟨4, rfl, by decide, by decide, for_range (n := 4) (fun i σ H1 => ∃ (l' : Int) (v2 : Option V), σ = [some (.ref d), some (.int b), v2, none] ∧ H1 d = some (dSt l' c (t + i)) ∧ (∀ a o, a ≠ d → H a = some o → H1 a = some o))
        ⟨l, none, rfl, by rw [show (t + (0 : Nat) : Int) = t by omega]; exact hd, fun _ _ _ e => e⟩ ?_ ?_⟩
      · rintro i σ H1 hi ⟨l', v2, rfl, e1, k1⟩
        refine ⟨_, rfl, d, _, rfl, DGet.k (k := .inr "turns") e1, t + i, 1, rfl, rfl, _, rfl, d, _, rfl, DPut.k (k := .inr "turns") e1 (by show 3 < sizeLine; decide), ?_⟩
        have e2 : upd H1 d (.dK (putK [(.inr "left", .int l'), (.inr "cell", .int c), (.inr "turns", .int (t + i))] (.inr "turns") (.int (t + i + 1)))) d = some (dSt l' c (t + i + 1)) := upd_same.trans (congrArg (fun z => some (HO.dK z)) p_turns)
        refine ⟨_, rfl, d, _, rfl, DGet.k (k := .inr "left") e2, l', 2147483647, rfl, rfl, .inr (by decide), ?_⟩
        refine ⟨_, rfl, d, _, rfl, DGet.k (k := .inr "cell") e2, _, rfl, d, _, rfl, DGet.k (k := .inr "turns") e2, c, t + i + 1, rfl, by omega, by omega, fun r H2 r0 r1 sm => ?_⟩
        have e3 := sm _ _ e2
        refine ⟨_, r, rfl, rfl, _, rfl, d, _, rfl, DPut.k (k := .inr "left") e3 (by show 3 < sizeLine; decide), l' * 2147483647 + r, _, rfl, ?_, fun a o ha e => ?_⟩
        · rw [show (t + ((i + 1 : Nat) : Int)) = t + i + 1 by omega]
          exact upd_same.trans (congrArg (fun z => some (HO.dK z)) p_left)
        · rw [upd_ne ha]
          exact sm _ _ (by rw [upd_ne ha]; exact k1 a o ha e)
      · rintro σ H1 ⟨l', v2, rfl, e1, k1⟩
        exact tail l' (t + (4 : Nat)) v2 H1 (by omega) (by omega) e1 k1
    · exact tail l t none H (by omega) (by omega) hd fun _ _ _ e => e
end
end K99

namespace K99
open PySem PySem.Spec PyProof.Rows L2 XV
/-! ### the 21 classes, in the order in which kinds are told -/
def nm : Nat → Str
  | 0 => "BadChain"
  | 1 => "BadCode"
  | 2 => "BadDeed"
  | 3 => "BadExpression"
  | 4 => "BadFraction"
  | 5 => "BadGroups"
  | 6 => "BadLinear"
  | 7 => "BadMap"
  | 8 => "BadName"
  | 9 => "BadNumber"
  | 10 => "BadPaper"
  | 11 => "BadPattern"
  | 12 => "BadPoint"
  | 13 => "BadProgram"
  | 14 => "BadRule"
  | 15 => "BadSchedule"
  | 16 => "BadStart"
  | 17 => "BadTape"
  | 18 => "BadText"
  | 19 => "NoSuch"
  | 20 => "TooMany"
  | _ => ""
def fl : Nat → Str
  | 0 => "place"
  | 1 => "place"
  | 2 => "place"
  | 3 => "place"
  | 4 => "value"
  | 5 => "place"
  | 6 => "place"
  | 7 => "place"
  | 8 => "value"
  | 9 => "value"
  | 10 => "place"
  | 11 => "place"
  | 12 => "place"
  | 13 => "place"
  | 14 => "place"
  | 15 => "place"
  | 16 => "place"
  | 17 => "place"
  | 18 => "place"
  | 19 => "value"
  | 20 => "most"
  | _ => ""
def ms : Nat → Str
  | 0 => "no such chain"
  | 1 => "no such code"
  | 2 => "no such deed"
  | 3 => "no such expression"
  | 4 => "no such fraction"
  | 5 => "no such groups"
  | 6 => "no such linear tape"
  | 7 => "no such mapping"
  | 8 => "no such name"
  | 9 => "no such number"
  | 10 => "no such paper"
  | 11 => "no such pattern"
  | 12 => "no such point"
  | 13 => "no such program"
  | 14 => "no such rule"
  | 15 => "no such schedule"
  | 16 => "no such start"
  | 17 => "no such tape"
  | 18 => "no such text"
  | 19 => "nothing so called"
  | 20 => "too many"
  | _ => ""
def ids : Nat → String
  | 0 => "ValueError.__init__"
  | 1 => "ValueError.__init__"
  | 2 => "ValueError.__init__"
  | 3 => "ValueError.__init__"
  | 4 => "ValueError.__init__"
  | 5 => "ValueError.__init__"
  | 6 => "ValueError.__init__"
  | 7 => "ValueError.__init__"
  | 8 => "ValueError.__init__"
  | 9 => "ValueError.__init__"
  | 10 => "ValueError.__init__"
  | 11 => "ValueError.__init__"
  | 12 => "ValueError.__init__"
  | 13 => "ValueError.__init__"
  | 14 => "ValueError.__init__"
  | 15 => "ValueError.__init__"
  | 16 => "ValueError.__init__"
  | 17 => "ValueError.__init__"
  | 18 => "ValueError.__init__"
  | 19 => "LookupError.__init__"
  | 20 => "OverflowError.__init__"
  | _ => ""
/-- what the written part says of them: C their addresses, S the base's -/
structure Txt (P : Program) (w : World) (K : PySem.W.Frag) (mg : Str → Option Value) (base : Heap) (C : Nat → Addr) (S : Addr) : Prop where
  mgC : ∀ i, i < 21 → mg (nm i) = some (.ref (C i))
  mgS : mg "SlopeError" = some (.ref S)
  xc : ∀ i, i < 21 → XCls K (C i) (ids i)
  noF : ∀ i, i < 21 → PySem.W.findIn K (.ref (C i)) (fl i) = some none
  mkE : ∀ i, i < 21 → ∃ fI fd, XMk K (C i) fI fd (fl i) ∧ FnOk P w K mg base CX0 1 fI fd ["self", fl i] (spXI (C i) (ms i) (fl i)) ∧ (i ≠ 20 → ∀ (s : Shared) (u : Value), K.In s.heap → BindsTo s fd ⟨[u], []⟩ [("self", u), (fl i, .none)])
  kit : ∀ i j, i < 21 → j < 21 → PySem.W.kitOne K (.ref (C i)) (.ref (C j)) = some (decide (i = j))
  kitS : ∀ i, i < 21 → PySem.W.kitOne K (.ref (C i)) (.ref S) = some (decide (i < 19))
  kitV : ∀ i, i < 21 → PySem.W.kitOne K (.ref (C i)) (.type "ValueError") = some (decide (i < 19))
  kitL : ∀ i, i < 21 → PySem.W.kitOne K (.ref (C i)) (.type "LookupError") = some (decide (i = 19))
  kitO : ∀ i, i < 21 → PySem.W.kitOne K (.ref (C i)) (.type "OverflowError") = some (decide (i = 20))
  noV : mg "ValueError" = none
  noL : mg "LookupError" = none
  noO : mg "OverflowError" = none
  noI : mg "isinstance" = none
abbrev sKinds : Stmt := topS 27
theorem scKinds : FnScope ["e", "some", "word", "is_so"] ["e"] (defScope sKinds) := ⟨rfl, rfl, rfl, by decide +kernel, rfl, by decide +kernel, by decide +kernel⟩
/-! ### pairs of a text and a truth -/
def PairAt (H : Hp) (v : V) (q : Str × Bool) : Prop := ∃ t, v = .ref t ∧ H t = some (.tup [.str q.1, .bl q.2])
inductive All2 {α : Type} (R : V → α → Prop) : List V → List α → Prop
  | nil : All2 R [] []
  | cons {v vs q qs} : R v q → All2 R vs qs → All2 R (v :: vs) (q :: qs)
theorem All2.app {α : Type} {R : V → α → Prop} {vs ws : List V} {qs rs : List α} (h : All2 R vs qs) (g : All2 R ws rs) : All2 R (vs ++ ws) (qs ++ rs) := by
  induction h with
  | nil => exact g
  | cons h _ ih => exact .cons h ih
theorem All2.imp {α : Type} {R R' : V → α → Prop} {vs : List V} {qs : List α} (h : All2 R vs qs) (f : ∀ v q, R v q → R' v q) : All2 R' vs qs := by
  induction h with
  | nil => exact .nil
  | cons h _ ih => exact .cons (f _ _ h) ih
theorem All2.len {α : Type} {R : V → α → Prop} {vs : List V} {qs : List α} (h : All2 R vs qs) : vs.length = qs.length := by
  induction h with
  | nil => rfl
  | cons _ _ ih => rw [List.length_cons, List.length_cons, ih]
theorem All2.get {α : Type} {R : V → α → Prop} {vs : List V} {qs : List α} (h : All2 R vs qs) : ∀ (i : Nat) (v : V), vs[i]? = some v → ∃ q, qs[i]? = some q ∧ R v q := by
  induction h with
  | nil => intro i v e; simp at e
  | cons h _ ih =>
    intro i v e
    cases i with
    | zero =>
      have e2 := Option.some.inj e
      subst e2
      exact ⟨_, rfl, h⟩
    | succ i => exact ih i v e
theorem PairAt.same {H H' : Hp} (s : Same H H') {v : V} {q : Str × Bool} (h : PairAt H v q) : PairAt H' v q := let ⟨t, a, b⟩ := h; ⟨t, a, s _ _ b⟩
section
variable {K : PySem.W.Frag}
/-- (word, isinstance(e, c)) -/
abbrev tPair (K : PySem.W.Frag) (wd : Str) (c : V) : TE := tTup (tCons (tC (.str wd)) (tCons (tCB (rXisi K) (tCons (tVar 0) (tCons (tC c) tNil))) tNil))
/-- some = [two pairs], some = some + [one, two pairs] -/
theorem rd_first {a C : Addr} {m f w1 w2 : Str} {v c1 c2 : V} {u1 u2 : Value} {b1 b2 : Bool} {id : String} {H : Hp} {D : Ends} {y : Option V} (X : XCls K C id) (x : XAt H a C m f v)
    (hc1 : ∀ u, RelV c1 u → u = u1) (k1 : PySem.W.kitOne K (.ref C) u1 = some b1) (hc2 : ∀ u, RelV c2 u → u = u2) (k2 : PySem.W.kitOne K (.ref C) u2 = some b2)
    (q : ∀ l H' xs, Same H H' → H' l = some (.lst xs) → All2 (PairAt H') xs [(w1, b1), (w2, b2)] → D.nx [some (.ref a), some (.ref l), none, none] H') :
    tAsg (tLst (tCons (tPair K w1 c1) (tCons (tPair K w2 c2) tNil))) (gName 1) D [some (.ref a), y, none, none] H := by
  refine ⟨.ref a, rfl, a, C, m, f, v, c1, u1, b1, id, rfl, X, x, hc1, k1, (by show 2 ≤ sizeLine; decide), fun p hp => ?_⟩
  have s1 : Same H (upd H p (.tup [.str w1, .bl b1])) := same_new hp
  refine ⟨.ref a, rfl, a, C, m, f, v, c2, u2, b2, id, rfl, X, x.same s1, hc2, k2, (by show 2 ≤ sizeLine; decide), fun p2 hp2 => ?_⟩
  have s2 := same_new (o := .tup [.str w2, .bl b2]) hp2
  refine ⟨(by show 2 ≤ sizeLine; decide), fun l hl => ?_⟩
  have s3 := same_new (o := .lst [.ref p, .ref p2]) hl
  refine q l _ _ ((s1.trans s2).trans s3) upd_same (.cons ⟨p, rfl, s3 _ _ (s2 _ _ upd_same)⟩ (.cons ⟨p2, rfl, s3 _ _ upd_same⟩ .nil))
theorem rd_two {a C l : Addr} {m f w1 w2 : Str} {v c1 c2 : V} {u1 u2 : Value} {b1 b2 : Bool} {id : String} {H : Hp} {D : Ends} {xs : List V} {qs : List (Str × Bool)} (X : XCls K C id) (x : XAt H a C m f v) (hl : H l = some (.lst xs)) (hq : All2 (PairAt H) xs qs) (hn : qs.length ≤ 100)
    (hc1 : ∀ u, RelV c1 u → u = u1) (k1 : PySem.W.kitOne K (.ref C) u1 = some b1) (hc2 : ∀ u, RelV c2 u → u = u2) (k2 : PySem.W.kitOne K (.ref C) u2 = some b2)
    (q : ∀ l H' xs, Same H H' → H' l = some (.lst xs) → All2 (PairAt H') xs (qs ++ [(w1, b1), (w2, b2)]) → D.nx [some (.ref a), some (.ref l), none, none] H') :
    tAsg (tOp rCat (tVar 1) (tLst (tCons (tPair K w1 c1) (tCons (tPair K w2 c2) tNil)))) (gName 1) D [some (.ref a), some (.ref l), none, none] H := by
  refine ⟨_, rfl, ?_⟩
  refine ⟨.ref a, rfl, a, C, m, f, v, c1, u1, b1, id, rfl, X, x, hc1, k1, (by show 2 ≤ sizeLine; decide), fun p hp => ?_⟩
  have s1 : Same H (upd H p (.tup [.str w1, .bl b1])) := same_new hp
  refine ⟨.ref a, rfl, a, C, m, f, v, c2, u2, b2, id, rfl, X, x.same s1, hc2, k2, (by show 2 ≤ sizeLine; decide), fun p2 hp2 => ?_⟩
  have s2 := same_new (o := .tup [.str w2, .bl b2]) hp2
  refine ⟨(by show 2 ≤ sizeLine; decide), fun l2 hl2 => ?_⟩
  have s3 := same_new (o := .lst [.ref p, .ref p2]) hl2
  have s13 := (s1.trans s2).trans s3
  have hz : xs.length + 2 ≤ sizeLine := by rw [hq.len, sizeLine_eq]; omega
  refine ⟨l, l2, xs, _, rfl, rfl, s13 _ _ hl, upd_same, hz, fun l3 hl3 => ?_⟩
  have s4 := same_new (o := .lst (xs ++ [.ref p, .ref p2])) hl3
  refine q l3 _ _ (s13.trans s4) upd_same ((hq.imp fun _ _ z => z.same (s13.trans s4)).app (.cons ⟨p, rfl, s4 _ _ (s3 _ _ (s2 _ _ upd_same))⟩ (.cons ⟨p2, rfl, s4 _ _ (s3 _ _ upd_same)⟩ .nil)))
theorem rd_one {a C l : Addr} {m f w1 : Str} {v c1 : V} {u1 : Value} {b1 : Bool} {id : String} {H : Hp} {D : Ends} {xs : List V} {qs : List (Str × Bool)} (X : XCls K C id) (x : XAt H a C m f v) (hl : H l = some (.lst xs)) (hq : All2 (PairAt H) xs qs) (hn : qs.length ≤ 100)
    (hc1 : ∀ u, RelV c1 u → u = u1) (k1 : PySem.W.kitOne K (.ref C) u1 = some b1)
    (q : ∀ l H' xs, Same H H' → H' l = some (.lst xs) → All2 (PairAt H') xs (qs ++ [(w1, b1)]) → D.nx [some (.ref a), some (.ref l), none, none] H') :
    tAsg (tOp rCat (tVar 1) (tLst (tCons (tPair K w1 c1) tNil))) (gName 1) D [some (.ref a), some (.ref l), none, none] H := by
  refine ⟨_, rfl, ?_⟩
  refine ⟨.ref a, rfl, a, C, m, f, v, c1, u1, b1, id, rfl, X, x, hc1, k1, (by show 2 ≤ sizeLine; decide), fun p hp => ?_⟩
  have s1 : Same H (upd H p (.tup [.str w1, .bl b1])) := same_new hp
  refine ⟨(by show 1 ≤ sizeLine; decide), fun l2 hl2 => ?_⟩
  have s3 := same_new (o := .lst [.ref p]) hl2
  have s13 := s1.trans s3
  have hz : xs.length + 1 ≤ sizeLine := by rw [hq.len, sizeLine_eq]; omega
  refine ⟨l, l2, xs, _, rfl, rfl, s13 _ _ hl, upd_same, hz, fun l3 hl3 => ?_⟩
  have s4 := same_new (o := .lst (xs ++ [.ref p])) hl3
  refine q l3 _ _ (s13.trans s4) upd_same ((hq.imp fun _ _ z => z.same (s13.trans s4)).app (.cons ⟨p, rfl, s4 _ _ (s3 _ _ upd_same)⟩ .nil))
end
def pairs (i : Nat) : List (Str × Bool) := ([("BadChain", decide (i = 0)), ("BadCode", decide (i = 1)), ("BadDeed", decide (i = 2)), ("BadExpression", decide (i = 3)), ("BadFraction", decide (i = 4)), ("BadGroups", decide (i = 5)), ("BadLinear", decide (i = 6)), ("BadMap", decide (i = 7)), ("BadName", decide (i = 8)), ("BadNumber", decide (i = 9)), ("BadPaper", decide (i = 10)), ("BadPattern", decide (i = 11)), ("BadPoint", decide (i = 12)), ("BadProgram", decide (i = 13)), ("BadRule", decide (i = 14)), ("BadSchedule", decide (i = 15)), ("BadStart", decide (i = 16)), ("BadTape", decide (i = 17)), ("BadText", decide (i = 18)), ("NoSuch", decide (i = 19)), ("TooMany", decide (i = 20)), ("base", decide (i < 19)), ("value", decide (i < 19)), ("lookup", decide (i = 19)), ("overflow", decide (i = 20))] : List (Str × Bool))
/-- the words that are told of the i-th class -/
def words (i : Nat) : List Str := if i < 19 then [nm i, "base", "value"] else if i = 19 then ["NoSuch", "lookup"] else ["TooMany", "overflow"]
theorem words_ok : ∀ i, i < 21 → ((pairs i).filter (·.2)).map (·.1) = words i := by decide +kernel
theorem words_len : ∀ i, i < 21 → (words i).length ≤ 3 := by decide +kernel
def spKinds (C : Nat → Addr) : Sp := fun vs H Q _ => ∃ (a : Addr) (i : Nat) (v : V), vs = [.ref a] ∧ i < 21 ∧ XAt H a (C i) (ms i) (fl i) v ∧ ∀ p H', H p = none → Same H H' → H' p = some (.lst ((words i).map V.str)) → Q (.ref p) H'
section
variable {P : Program} {w : World} {K : PySem.W.Frag} {mg : Str → Option Value} {base : Heap} {C : Nat → Addr} {S : Addr}

theorem ok_kinds {f : Addr} {fd : FuncData} {k : Nat} (F : Fun K "_law_kinds" "_law_kinds" sKinds f fd) (T : Txt P w K mg base C S) : FnOk P w K mg base CX0 (k + 1) f fd ["e"] (spKinds C) := by
  refine F.ok scKinds (fun vs H Q E h => ?_) (fun cdv A outer s H vs Q E hr h => ?_)
  · obtain ⟨a, i, v, rfl, _⟩ := h
    rfl
  · obtain ⟨a, i, v, rfl, hi, x, q⟩ := h
    refine ⟨_, (pss_cons (ps_set (i := 1) scKinds.nd rfl (.inl rfl) (pe_lst (pa_cons (pe_tup (pa_cons pe_str (pa_cons (pe_callB call_xisi (by rfl) T.noI (by decide +kernel) (pa_cons (pv 0) (pa_cons (pe_glob (v := .ref (C 0)) rfl (T.mgC 0 (by decide)) rfl) pa_nil))) pa_nil))) (pa_cons (pe_tup (pa_cons pe_str (pa_cons (pe_callB call_xisi (by rfl) T.noI (by decide +kernel) (pa_cons (pv 0) (pa_cons (pe_glob (v := .ref (C 1)) rfl (T.mgC 1 (by decide)) rfl) pa_nil))) pa_nil))) pa_nil))))
      (pss_cons (ps_set (i := 1) scKinds.nd rfl (.inl rfl) (pe_op op_cat (pv 1) (pe_lst (pa_cons (pe_tup (pa_cons pe_str (pa_cons (pe_callB call_xisi (by rfl) T.noI (by decide +kernel) (pa_cons (pv 0) (pa_cons (pe_glob (v := .ref (C 2)) rfl (T.mgC 2 (by decide)) rfl) pa_nil))) pa_nil))) (pa_cons (pe_tup (pa_cons pe_str (pa_cons (pe_callB call_xisi (by rfl) T.noI (by decide +kernel) (pa_cons (pv 0) (pa_cons (pe_glob (v := .ref (C 3)) rfl (T.mgC 3 (by decide)) rfl) pa_nil))) pa_nil))) pa_nil)))))
      (pss_cons (ps_set (i := 1) scKinds.nd rfl (.inl rfl) (pe_op op_cat (pv 1) (pe_lst (pa_cons (pe_tup (pa_cons pe_str (pa_cons (pe_callB call_xisi (by rfl) T.noI (by decide +kernel) (pa_cons (pv 0) (pa_cons (pe_glob (v := .ref (C 4)) rfl (T.mgC 4 (by decide)) rfl) pa_nil))) pa_nil))) (pa_cons (pe_tup (pa_cons pe_str (pa_cons (pe_callB call_xisi (by rfl) T.noI (by decide +kernel) (pa_cons (pv 0) (pa_cons (pe_glob (v := .ref (C 5)) rfl (T.mgC 5 (by decide)) rfl) pa_nil))) pa_nil))) pa_nil)))))
      (pss_cons (ps_set (i := 1) scKinds.nd rfl (.inl rfl) (pe_op op_cat (pv 1) (pe_lst (pa_cons (pe_tup (pa_cons pe_str (pa_cons (pe_callB call_xisi (by rfl) T.noI (by decide +kernel) (pa_cons (pv 0) (pa_cons (pe_glob (v := .ref (C 6)) rfl (T.mgC 6 (by decide)) rfl) pa_nil))) pa_nil))) (pa_cons (pe_tup (pa_cons pe_str (pa_cons (pe_callB call_xisi (by rfl) T.noI (by decide +kernel) (pa_cons (pv 0) (pa_cons (pe_glob (v := .ref (C 7)) rfl (T.mgC 7 (by decide)) rfl) pa_nil))) pa_nil))) pa_nil)))))
      (pss_cons (ps_set (i := 1) scKinds.nd rfl (.inl rfl) (pe_op op_cat (pv 1) (pe_lst (pa_cons (pe_tup (pa_cons pe_str (pa_cons (pe_callB call_xisi (by rfl) T.noI (by decide +kernel) (pa_cons (pv 0) (pa_cons (pe_glob (v := .ref (C 8)) rfl (T.mgC 8 (by decide)) rfl) pa_nil))) pa_nil))) (pa_cons (pe_tup (pa_cons pe_str (pa_cons (pe_callB call_xisi (by rfl) T.noI (by decide +kernel) (pa_cons (pv 0) (pa_cons (pe_glob (v := .ref (C 9)) rfl (T.mgC 9 (by decide)) rfl) pa_nil))) pa_nil))) pa_nil)))))
      (pss_cons (ps_set (i := 1) scKinds.nd rfl (.inl rfl) (pe_op op_cat (pv 1) (pe_lst (pa_cons (pe_tup (pa_cons pe_str (pa_cons (pe_callB call_xisi (by rfl) T.noI (by decide +kernel) (pa_cons (pv 0) (pa_cons (pe_glob (v := .ref (C 10)) rfl (T.mgC 10 (by decide)) rfl) pa_nil))) pa_nil))) (pa_cons (pe_tup (pa_cons pe_str (pa_cons (pe_callB call_xisi (by rfl) T.noI (by decide +kernel) (pa_cons (pv 0) (pa_cons (pe_glob (v := .ref (C 11)) rfl (T.mgC 11 (by decide)) rfl) pa_nil))) pa_nil))) pa_nil)))))
      (pss_cons (ps_set (i := 1) scKinds.nd rfl (.inl rfl) (pe_op op_cat (pv 1) (pe_lst (pa_cons (pe_tup (pa_cons pe_str (pa_cons (pe_callB call_xisi (by rfl) T.noI (by decide +kernel) (pa_cons (pv 0) (pa_cons (pe_glob (v := .ref (C 12)) rfl (T.mgC 12 (by decide)) rfl) pa_nil))) pa_nil))) (pa_cons (pe_tup (pa_cons pe_str (pa_cons (pe_callB call_xisi (by rfl) T.noI (by decide +kernel) (pa_cons (pv 0) (pa_cons (pe_glob (v := .ref (C 13)) rfl (T.mgC 13 (by decide)) rfl) pa_nil))) pa_nil))) pa_nil)))))
      (pss_cons (ps_set (i := 1) scKinds.nd rfl (.inl rfl) (pe_op op_cat (pv 1) (pe_lst (pa_cons (pe_tup (pa_cons pe_str (pa_cons (pe_callB call_xisi (by rfl) T.noI (by decide +kernel) (pa_cons (pv 0) (pa_cons (pe_glob (v := .ref (C 14)) rfl (T.mgC 14 (by decide)) rfl) pa_nil))) pa_nil))) (pa_cons (pe_tup (pa_cons pe_str (pa_cons (pe_callB call_xisi (by rfl) T.noI (by decide +kernel) (pa_cons (pv 0) (pa_cons (pe_glob (v := .ref (C 15)) rfl (T.mgC 15 (by decide)) rfl) pa_nil))) pa_nil))) pa_nil)))))
      (pss_cons (ps_set (i := 1) scKinds.nd rfl (.inl rfl) (pe_op op_cat (pv 1) (pe_lst (pa_cons (pe_tup (pa_cons pe_str (pa_cons (pe_callB call_xisi (by rfl) T.noI (by decide +kernel) (pa_cons (pv 0) (pa_cons (pe_glob (v := .ref (C 16)) rfl (T.mgC 16 (by decide)) rfl) pa_nil))) pa_nil))) (pa_cons (pe_tup (pa_cons pe_str (pa_cons (pe_callB call_xisi (by rfl) T.noI (by decide +kernel) (pa_cons (pv 0) (pa_cons (pe_glob (v := .ref (C 17)) rfl (T.mgC 17 (by decide)) rfl) pa_nil))) pa_nil))) pa_nil)))))
      (pss_cons (ps_set (i := 1) scKinds.nd rfl (.inl rfl) (pe_op op_cat (pv 1) (pe_lst (pa_cons (pe_tup (pa_cons pe_str (pa_cons (pe_callB call_xisi (by rfl) T.noI (by decide +kernel) (pa_cons (pv 0) (pa_cons (pe_glob (v := .ref (C 18)) rfl (T.mgC 18 (by decide)) rfl) pa_nil))) pa_nil))) (pa_cons (pe_tup (pa_cons pe_str (pa_cons (pe_callB call_xisi (by rfl) T.noI (by decide +kernel) (pa_cons (pv 0) (pa_cons (pe_glob (v := .ref (C 19)) rfl (T.mgC 19 (by decide)) rfl) pa_nil))) pa_nil))) pa_nil)))))
      (pss_cons (ps_set (i := 1) scKinds.nd rfl (.inl rfl) (pe_op op_cat (pv 1) (pe_lst (pa_cons (pe_tup (pa_cons pe_str (pa_cons (pe_callB call_xisi (by rfl) T.noI (by decide +kernel) (pa_cons (pv 0) (pa_cons (pe_glob (v := .ref (C 20)) rfl (T.mgC 20 (by decide)) rfl) pa_nil))) pa_nil))) pa_nil))))
      (pss_cons (ps_set (i := 1) scKinds.nd rfl (.inl rfl) (pe_op op_cat (pv 1) (pe_lst (pa_cons (pe_tup (pa_cons pe_str (pa_cons (pe_callB call_xisi (by rfl) T.noI (by decide +kernel) (pa_cons (pv 0) (pa_cons (pe_glob (v := .ref S) rfl T.mgS rfl) pa_nil))) pa_nil))) (pa_cons (pe_tup (pa_cons pe_str (pa_cons (pe_callB call_xisi (by rfl) T.noI (by decide +kernel) (pa_cons (pv 0) (pa_cons (pe_bltn (v := .ty "ValueError") (u := .type "ValueError") rfl T.noV (by decide +kernel) rfl) pa_nil))) pa_nil))) pa_nil)))))
      (pss_cons (ps_set (i := 1) scKinds.nd rfl (.inl rfl) (pe_op op_cat (pv 1) (pe_lst (pa_cons (pe_tup (pa_cons pe_str (pa_cons (pe_callB call_xisi (by rfl) T.noI (by decide +kernel) (pa_cons (pv 0) (pa_cons (pe_bltn (v := .ty "LookupError") (u := .type "LookupError") rfl T.noL (by decide +kernel) rfl) pa_nil))) pa_nil))) (pa_cons (pe_tup (pa_cons pe_str (pa_cons (pe_callB call_xisi (by rfl) T.noI (by decide +kernel) (pa_cons (pv 0) (pa_cons (pe_bltn (v := .ty "OverflowError") (u := .type "OverflowError") rfl T.noO (by decide +kernel) rfl) pa_nil))) pa_nil))) pa_nil)))))
      (pss_one (ps_ret (pe_lc (own := [("word", 2), ("is_so", 3)]) (g := gTup K 2 (gCons (gName 2) (gCons (gName 3) gNil))) (by rfl) scKinds.nd (pi_list (pv 1)) (blkOk_by (own := [("word", 2), ("is_so", 3)]) (N := ["e", "some", "word", "is_so"]) (sc := defScope sKinds) (by decide +kernel)) (fun _ _ _ _ _ => pg_tup rfl (pgs_cons (pg_name (i := 2) scKinds.nd rfl (Or.inl rfl)) (pgs_cons (pg_name (i := 3) scKinds.nd rfl (Or.inl rfl)) pgs_nil))) (fun _ _ _ _ _ => pts_one (pt_val (pv 3))) (fun _ _ _ _ _ => pv 2))))))))))))))))), ?_⟩
    have X := T.xc i hi
    have rr : ∀ (c : Addr) (u : Value), RelV (.ref c) u → u = .ref c := fun _ _ z => z
    have rt : ∀ (c : String) (u : Value), RelV (.ty c) u → u = .type c := fun _ _ z => z
    refine rd_first X x (rr _) (T.kit i 0 hi (by decide)) (rr _) (T.kit i 1 hi (by decide)) fun l0 H0 xs0 s0 e0 q0 => ?_
    have z0 : Same H H0 := s0
    refine rd_two X (x.same z0) e0 q0 (show 2 ≤ 100 by decide) (rr _) (T.kit i 2 hi (by decide)) (rr _) (T.kit i 3 hi (by decide)) fun l1 H1 xs1 s1 e1 q1 => ?_
    have z1 : Same H H1 := z0.trans s1
    refine rd_two X (x.same z1) e1 q1 (show 4 ≤ 100 by decide) (rr _) (T.kit i 4 hi (by decide)) (rr _) (T.kit i 5 hi (by decide)) fun l2 H2 xs2 s2 e2 q2 => ?_
    have z2 : Same H H2 := z1.trans s2
    refine rd_two X (x.same z2) e2 q2 (show 6 ≤ 100 by decide) (rr _) (T.kit i 6 hi (by decide)) (rr _) (T.kit i 7 hi (by decide)) fun l3 H3 xs3 s3 e3 q3 => ?_
    have z3 : Same H H3 := z2.trans s3
    refine rd_two X (x.same z3) e3 q3 (show 8 ≤ 100 by decide) (rr _) (T.kit i 8 hi (by decide)) (rr _) (T.kit i 9 hi (by decide)) fun l4 H4 xs4 s4 e4 q4 => ?_
    have z4 : Same H H4 := z3.trans s4
    refine rd_two X (x.same z4) e4 q4 (show 10 ≤ 100 by decide) (rr _) (T.kit i 10 hi (by decide)) (rr _) (T.kit i 11 hi (by decide)) fun l5 H5 xs5 s5 e5 q5 => ?_
    have z5 : Same H H5 := z4.trans s5
    refine rd_two X (x.same z5) e5 q5 (show 12 ≤ 100 by decide) (rr _) (T.kit i 12 hi (by decide)) (rr _) (T.kit i 13 hi (by decide)) fun l6 H6 xs6 s6 e6 q6 => ?_
    have z6 : Same H H6 := z5.trans s6
    refine rd_two X (x.same z6) e6 q6 (show 14 ≤ 100 by decide) (rr _) (T.kit i 14 hi (by decide)) (rr _) (T.kit i 15 hi (by decide)) fun l7 H7 xs7 s7 e7 q7 => ?_
    have z7 : Same H H7 := z6.trans s7
    refine rd_two X (x.same z7) e7 q7 (show 16 ≤ 100 by decide) (rr _) (T.kit i 16 hi (by decide)) (rr _) (T.kit i 17 hi (by decide)) fun l8 H8 xs8 s8 e8 q8 => ?_
    have z8 : Same H H8 := z7.trans s8
    refine rd_two X (x.same z8) e8 q8 (show 18 ≤ 100 by decide) (rr _) (T.kit i 18 hi (by decide)) (rr _) (T.kit i 19 hi (by decide)) fun l9 H9 xs9 s9 e9 q9 => ?_
    have z9 : Same H H9 := z8.trans s9
    refine rd_one X (x.same z9) e9 q9 (show 20 ≤ 100 by decide) (rr _) (T.kit i 20 hi (by decide)) fun l10 H10 xs10 s10 e10 q10 => ?_
    have z10 : Same H H10 := z9.trans s10
    refine rd_two X (x.same z10) e10 q10 (show 21 ≤ 100 by decide) (rr _) (T.kitS i hi) (rt _) (T.kitV i hi) fun l11 H11 xs11 s11 e11 q11 => ?_
    have z11 : Same H H11 := z10.trans s11
    refine rd_two X (x.same z11) e11 q11 (show 23 ≤ 100 by decide) (rt _) (T.kitL i hi) (rt _) (T.kitO i hi) fun l12 H12 xs12 s12 e12 q12 => ?_
    have z12 : Same H H12 := z11.trans s12
    have qq : All2 (PairAt H12) xs12 (pairs i) := q12
    have hln : (pairs i).length = 25 := rfl
    refine ⟨_, rfl, l12, rfl, ⟨_, SqL.of e12⟩, fun D hD => ?_⟩
    have hDn : H D = none := z12.free hD
    have hDl : l12 ≠ D := ne_of_none e12 hD
    refine lc_list (K := K) (a := l12) (xs := xs12) (fun j H' => Same H12 H' ∧ H' D = some (.lst ((((pairs i).take j).filter (·.2)).map fun z => .str z.1))) ⟨same_new hD, upd_same⟩ (fun j H' _ h => SqL.of (h.1 _ _ e12)) (fun j y H' hy h => ?_) (fun H' h => ?_)
    · obtain ⟨sm, eD⟩ := h
      obtain ⟨⟨wd, b⟩, hj, t, rfl, ht⟩ := qq.get j y hy
      have htk : (pairs i).take (j + 1) = (pairs i).take j ++ [(wd, b)] := by
        rw [List.take_add_one, hj]; rfl
      refine ⟨t, _, rfl, .inl (.inl (sm _ _ ht)), rfl, _, _, rfl, _, _, rfl, rfl, rfl, _, rfl, b, rfl, ?_⟩
      cases b with
      | true =>
        refine iteT ⟨_, rfl, _, eD, ?_, fun bb o e => ?_, ?_⟩
        · have h1 := List.length_filter_le (fun z : Str × Bool => z.2) ((pairs i).take j)
          have h2 : ((pairs i).take j).length ≤ 25 := by rw [List.length_take, hln]; exact Nat.min_le_right _ _
          rw [List.length_map, sizeLine_eq]
          omega
        · by_cases hb : bb = D
          · rw [hb] at e; rw [hD] at e; cases e
          · rw [upd_ne hb]; exact sm _ _ e
        · rw [upd_same, htk, List.filter_append, List.map_append]; rfl
      | false =>
        refine iteF ⟨sm, ?_⟩
        rw [eD, htk, List.filter_append, List.map_append]
        simp
    · obtain ⟨sm, eD⟩ := h
      refine q D H' hDn (z12.trans sm) ?_
      rw [eD, List.take_of_length_le (by rw [qq.len]; exact Nat.le_refl _), ← words_ok i hi, List.map_map]
      rfl
end
end K99

namespace K99
open PySem PySem.Spec PyProof.Rows L2 XV
abbrev sValued : Stmt := topS 28
abbrev sPlaced : Stmt := topS 29
abbrev sRight : Stmt := topS 30
theorem scValued : FnScope ["thing", "found"] ["thing"] (defScope sValued) := ⟨rfl, rfl, rfl, by decide +kernel, rfl, by decide +kernel, by decide +kernel⟩
theorem scPlaced : FnScope ["thing", "found"] ["thing"] (defScope sPlaced) := ⟨rfl, rfl, rfl, by decide +kernel, rfl, by decide +kernel, by decide +kernel⟩
theorem scRight : FnScope ["thing", "one", "other", "name"] ["thing"] (defScope sRight) := ⟨rfl, rfl, rfl, by decide +kernel, rfl, by decide +kernel, by decide +kernel⟩
/-- a row: two errors of the i-th class, its name -/
def RowAt (C : Nat → Addr) (thing : V) (H : Hp) (v : V) (i : Nat) : Prop := ∃ t a b, v = .ref t ∧ H t = some (.tup [.ref a, .ref b, .str (nm i)]) ∧ XAt H a (C i) (ms i) (fl i) thing ∧ XAt H b (C i) (ms i) (fl i) thing
theorem RowAt.same {C : Nat → Addr} {thing : V} {H H' : Hp} (s : Same H H') {v : V} {i : Nat} (h : RowAt C thing H v i) : RowAt C thing H' v i :=
  let ⟨t, a, b, h1, h2, h3, h4⟩ := h
  ⟨t, a, b, h1, s _ _ h2, h3.same s, h4.same s⟩
def spRows (C : Nat → Addr) (is : List Nat) : Sp := fun vs H Q _ => ∃ thing, vs = [thing] ∧ ∀ p H' xs, H p = none → Same H H' → H' p = some (.lst xs) → All2 (RowAt C thing H') xs is → Q (.ref p) H'
abbrev tRow (C : Nat → Addr) (i : Nat) : TE := tTup (tCons (tX1 (C i) (ms i) (fl i) (tVar 0)) (tCons (tX1 (C i) (ms i) (fl i) (tVar 0)) (tCons (tC (.str (nm i))) tNil)))
section
variable {C : Nat → Addr}
theorem rd_row (i : Nat) {thing : V} {σ : L2.St} {H : Hp} {Q : VK} (h0 : σ[0]? = some (some thing)) (q : ∀ v H', Same H H' → RowAt C thing H' v i → Q v H') : tRow C i σ H Q := by
  refine ⟨thing, h0, fun a H1 na xa sa => ⟨thing, h0, fun b H2 nb xb sb => ⟨(by show 3 ≤ sizeLine; decide), fun t ht => ?_⟩⟩⟩
  have s3 := same_new (o := .tup [.ref a, .ref b, .str (nm i)]) ht
  exact q _ _ (Same.trans (Same.trans sa sb) s3) ⟨t, a, b, rfl, upd_same, (xa.same sb).same s3, xb.same s3⟩
theorem rd_rows1 (i : Nat) {thing : V} {H : Hp} {D : Ends} {y : Option V}
    (q : ∀ l H' xs, H l = none → Same H H' → H' l = some (.lst xs) → All2 (RowAt C thing H') xs [i] → D.nx [some thing, some (.ref l)] H') : tAsg (tLst (tCons (tRow C i) tNil)) (gName 1) D [some thing, y] H := by
  have z : tRow C i [some thing, y] H fun v H1 => [v].length ≤ sizeLine ∧ ∀ p, H1 p = none → D.nx [some thing, some (.ref p)] (upd H1 p (.lst [v])) := by
    refine rd_row i rfl fun v H1 s1 r1 => ⟨(by show 1 ≤ sizeLine; decide), fun l hl => ?_⟩
    have s2 := same_new (o := .lst [v]) hl
    exact q l _ _ (s1.free hl) (s1.trans s2) upd_same (.cons (r1.same s2) .nil)
  exact z
theorem rd_catrow (i : Nat) {thing : V} {H : Hp} {l : Addr} {xs : List V} {is : List Nat} {Q : VK} (hl : H l = some (.lst xs)) (hr : All2 (RowAt C thing H) xs is) (hn : is.length ≤ 100)
    (q : ∀ l H' xs, H l = none → Same H H' → H' l = some (.lst xs) → All2 (RowAt C thing H') xs (is ++ [i]) → Q (.ref l) H') : tOp rCat (tVar 1) (tLst (tCons (tRow C i) tNil)) [some thing, some (.ref l)] H Q := by
  refine ⟨_, rfl, ?_⟩
  have z : tRow C i [some thing, some (.ref l)] H fun v H1 => [v].length ≤ sizeLine ∧ ∀ p, H1 p = none → rCat (.ref l) (.ref p) (upd H1 p (.lst [v])) Q := by
    refine rd_row i rfl fun v H1 s1 r1 => ⟨(by show 1 ≤ sizeLine; decide), fun l2 hl2 => ?_⟩
    have s2 := same_new (o := .lst [v]) hl2
    have s12 := s1.trans s2
    refine ⟨l, l2, xs, [v], rfl, rfl, s12 _ _ hl, upd_same, by rw [hr.len, sizeLine_eq]; show is.length + 1 ≤ _; omega, fun l3 hl3 => ?_⟩
    have s3 := same_new (o := .lst (xs ++ [v])) hl3
    exact q l3 _ _ (s12.free hl3) (s12.trans s3) upd_same ((hr.imp fun _ _ z => z.same (s12.trans s3)).app (.cons ((r1.same s2).same s3) .nil))
  exact z
end
section
variable {P : Program} {w : World} {K : PySem.W.Frag} {mg : Str → Option Value} {base : Heap} {C : Nat → Addr} {S : Addr}
theorem ok_valued {f : Addr} {fd : FuncData} {k : Nat} (F : Fun K "_law_valued" "_law_valued" sValued f fd) (T : Txt P w K mg base C S) : FnOk P w K mg base CX0 3 f fd ["thing"] (spRows C [9, 8, 4]) := by
  obtain ⟨fI9, fd9, M9, G9, _⟩ := T.mkE 9 (by decide)
  obtain ⟨fI8, fd8, M8, G8, _⟩ := T.mkE 8 (by decide)
  obtain ⟨fI4, fd4, M4, G4, _⟩ := T.mkE 4 (by decide)
  refine F.ok scValued (fun vs H Q E h => ?_) (fun cdv A outer s H vs Q E hr h => ?_)
  · obtain ⟨thing, rfl, _⟩ := h
    rfl
  · obtain ⟨thing, rfl, q⟩ := h
    refine ⟨_, (pss_cons (ps_set (i := 1) scValued.nd rfl (.inl rfl) (pe_lst (pa_cons (pe_tup (pa_cons (pe_x1 (T.xc 9 (by decide)) M9 G9 hr (by rfl) (T.mgC 9 (by decide)) pass0 (pv 0)) (pa_cons (pe_xk (T.xc 9 (by decide)) M9 G9 hr (by rfl) (T.mgC 9 (by decide)) pass0 (pv 0)) (pa_cons pe_str pa_nil)))) pa_nil)))
      (pss_cons (ps_set (i := 1) scValued.nd rfl (.inl rfl) (pe_op op_cat (pv 1) (pe_lst (pa_cons (pe_tup (pa_cons (pe_x1 (T.xc 8 (by decide)) M8 G8 hr (by rfl) (T.mgC 8 (by decide)) pass0 (pv 0)) (pa_cons (pe_xk (T.xc 8 (by decide)) M8 G8 hr (by rfl) (T.mgC 8 (by decide)) pass0 (pv 0)) (pa_cons pe_str pa_nil)))) pa_nil))))
      (pss_one (ps_ret (pe_op op_cat (pv 1) (pe_lst (pa_cons (pe_tup (pa_cons (pe_x1 (T.xc 4 (by decide)) M4 G4 hr (by rfl) (T.mgC 4 (by decide)) pass0 (pv 0)) (pa_cons (pe_xk (T.xc 4 (by decide)) M4 G4 hr (by rfl) (T.mgC 4 (by decide)) pass0 (pv 0)) (pa_cons pe_str pa_nil)))) pa_nil))))))), ?_⟩
    refine rd_rows1 9 fun l0 H0 xs0 n0 s0 e0 q0 => ?_
    have z0 : Same H H0 := s0
    have c1 : ∀ QQ : VK, (∀ l H' xs, H0 l = none → Same H0 H' → H' l = some (.lst xs) → All2 (RowAt C thing H') xs [9, 8] → QQ (.ref l) H') → _ := fun QQ qq => rd_catrow (Q := QQ) 8 e0 q0 (by decide) qq
    refine c1 _ fun l1 H1 xs1 n1 s1 e1 q1 => ?_
    have z1 : Same H H1 := z0.trans s1
    have c2 : ∀ QQ : VK, (∀ l H' xs, H1 l = none → Same H1 H' → H' l = some (.lst xs) → All2 (RowAt C thing H') xs [9, 8, 4] → QQ (.ref l) H') → _ := fun QQ qq => rd_catrow (Q := QQ) 4 e1 q1 (by decide) qq
    refine c2 _ fun l2 H2 xs2 n2 s2 e2 q2 => ?_
    have z2 : Same H H2 := z1.trans s2
    exact q l2 H2 xs2 (z1.free n2) z2 e2 q2
theorem ok_placed {f : Addr} {fd : FuncData} {k : Nat} (F : Fun K "_law_placed" "_law_placed" sPlaced f fd) (T : Txt P w K mg base C S) : FnOk P w K mg base CX0 3 f fd ["thing"] (spRows C [3, 13, 17, 12, 18, 10, 6, 14, 0, 15, 1, 11, 5, 16, 7, 2]) := by
  obtain ⟨fI3, fd3, M3, G3, _⟩ := T.mkE 3 (by decide)
  obtain ⟨fI13, fd13, M13, G13, _⟩ := T.mkE 13 (by decide)
  obtain ⟨fI17, fd17, M17, G17, _⟩ := T.mkE 17 (by decide)
  obtain ⟨fI12, fd12, M12, G12, _⟩ := T.mkE 12 (by decide)
  obtain ⟨fI18, fd18, M18, G18, _⟩ := T.mkE 18 (by decide)
  obtain ⟨fI10, fd10, M10, G10, _⟩ := T.mkE 10 (by decide)
  obtain ⟨fI6, fd6, M6, G6, _⟩ := T.mkE 6 (by decide)
  obtain ⟨fI14, fd14, M14, G14, _⟩ := T.mkE 14 (by decide)
  obtain ⟨fI0, fd0, M0, G0, _⟩ := T.mkE 0 (by decide)
  obtain ⟨fI15, fd15, M15, G15, _⟩ := T.mkE 15 (by decide)
  obtain ⟨fI1, fd1, M1, G1, _⟩ := T.mkE 1 (by decide)
  obtain ⟨fI11, fd11, M11, G11, _⟩ := T.mkE 11 (by decide)
  obtain ⟨fI5, fd5, M5, G5, _⟩ := T.mkE 5 (by decide)
  obtain ⟨fI16, fd16, M16, G16, _⟩ := T.mkE 16 (by decide)
  obtain ⟨fI7, fd7, M7, G7, _⟩ := T.mkE 7 (by decide)
  obtain ⟨fI2, fd2, M2, G2, _⟩ := T.mkE 2 (by decide)
  refine F.ok scPlaced (fun vs H Q E h => ?_) (fun cdv A outer s H vs Q E hr h => ?_)
  · obtain ⟨thing, rfl, _⟩ := h
    rfl
  · obtain ⟨thing, rfl, q⟩ := h
    refine ⟨_, (pss_cons (ps_set (i := 1) scPlaced.nd rfl (.inl rfl) (pe_lst (pa_cons (pe_tup (pa_cons (pe_x1 (T.xc 3 (by decide)) M3 G3 hr (by rfl) (T.mgC 3 (by decide)) pass0 (pv 0)) (pa_cons (pe_xk (T.xc 3 (by decide)) M3 G3 hr (by rfl) (T.mgC 3 (by decide)) pass0 (pv 0)) (pa_cons pe_str pa_nil)))) pa_nil)))
      (pss_cons (ps_set (i := 1) scPlaced.nd rfl (.inl rfl) (pe_op op_cat (pv 1) (pe_lst (pa_cons (pe_tup (pa_cons (pe_x1 (T.xc 13 (by decide)) M13 G13 hr (by rfl) (T.mgC 13 (by decide)) pass0 (pv 0)) (pa_cons (pe_xk (T.xc 13 (by decide)) M13 G13 hr (by rfl) (T.mgC 13 (by decide)) pass0 (pv 0)) (pa_cons pe_str pa_nil)))) pa_nil))))
      (pss_cons (ps_set (i := 1) scPlaced.nd rfl (.inl rfl) (pe_op op_cat (pv 1) (pe_lst (pa_cons (pe_tup (pa_cons (pe_x1 (T.xc 17 (by decide)) M17 G17 hr (by rfl) (T.mgC 17 (by decide)) pass0 (pv 0)) (pa_cons (pe_xk (T.xc 17 (by decide)) M17 G17 hr (by rfl) (T.mgC 17 (by decide)) pass0 (pv 0)) (pa_cons pe_str pa_nil)))) pa_nil))))
      (pss_cons (ps_set (i := 1) scPlaced.nd rfl (.inl rfl) (pe_op op_cat (pv 1) (pe_lst (pa_cons (pe_tup (pa_cons (pe_x1 (T.xc 12 (by decide)) M12 G12 hr (by rfl) (T.mgC 12 (by decide)) pass0 (pv 0)) (pa_cons (pe_xk (T.xc 12 (by decide)) M12 G12 hr (by rfl) (T.mgC 12 (by decide)) pass0 (pv 0)) (pa_cons pe_str pa_nil)))) pa_nil))))
      (pss_cons (ps_set (i := 1) scPlaced.nd rfl (.inl rfl) (pe_op op_cat (pv 1) (pe_lst (pa_cons (pe_tup (pa_cons (pe_x1 (T.xc 18 (by decide)) M18 G18 hr (by rfl) (T.mgC 18 (by decide)) pass0 (pv 0)) (pa_cons (pe_xk (T.xc 18 (by decide)) M18 G18 hr (by rfl) (T.mgC 18 (by decide)) pass0 (pv 0)) (pa_cons pe_str pa_nil)))) pa_nil))))
      (pss_cons (ps_set (i := 1) scPlaced.nd rfl (.inl rfl) (pe_op op_cat (pv 1) (pe_lst (pa_cons (pe_tup (pa_cons (pe_x1 (T.xc 10 (by decide)) M10 G10 hr (by rfl) (T.mgC 10 (by decide)) pass0 (pv 0)) (pa_cons (pe_xk (T.xc 10 (by decide)) M10 G10 hr (by rfl) (T.mgC 10 (by decide)) pass0 (pv 0)) (pa_cons pe_str pa_nil)))) pa_nil))))
      (pss_cons (ps_set (i := 1) scPlaced.nd rfl (.inl rfl) (pe_op op_cat (pv 1) (pe_lst (pa_cons (pe_tup (pa_cons (pe_x1 (T.xc 6 (by decide)) M6 G6 hr (by rfl) (T.mgC 6 (by decide)) pass0 (pv 0)) (pa_cons (pe_xk (T.xc 6 (by decide)) M6 G6 hr (by rfl) (T.mgC 6 (by decide)) pass0 (pv 0)) (pa_cons pe_str pa_nil)))) pa_nil))))
      (pss_cons (ps_set (i := 1) scPlaced.nd rfl (.inl rfl) (pe_op op_cat (pv 1) (pe_lst (pa_cons (pe_tup (pa_cons (pe_x1 (T.xc 14 (by decide)) M14 G14 hr (by rfl) (T.mgC 14 (by decide)) pass0 (pv 0)) (pa_cons (pe_xk (T.xc 14 (by decide)) M14 G14 hr (by rfl) (T.mgC 14 (by decide)) pass0 (pv 0)) (pa_cons pe_str pa_nil)))) pa_nil))))
      (pss_cons (ps_set (i := 1) scPlaced.nd rfl (.inl rfl) (pe_op op_cat (pv 1) (pe_lst (pa_cons (pe_tup (pa_cons (pe_x1 (T.xc 0 (by decide)) M0 G0 hr (by rfl) (T.mgC 0 (by decide)) pass0 (pv 0)) (pa_cons (pe_xk (T.xc 0 (by decide)) M0 G0 hr (by rfl) (T.mgC 0 (by decide)) pass0 (pv 0)) (pa_cons pe_str pa_nil)))) pa_nil))))
      (pss_cons (ps_set (i := 1) scPlaced.nd rfl (.inl rfl) (pe_op op_cat (pv 1) (pe_lst (pa_cons (pe_tup (pa_cons (pe_x1 (T.xc 15 (by decide)) M15 G15 hr (by rfl) (T.mgC 15 (by decide)) pass0 (pv 0)) (pa_cons (pe_xk (T.xc 15 (by decide)) M15 G15 hr (by rfl) (T.mgC 15 (by decide)) pass0 (pv 0)) (pa_cons pe_str pa_nil)))) pa_nil))))
      (pss_cons (ps_set (i := 1) scPlaced.nd rfl (.inl rfl) (pe_op op_cat (pv 1) (pe_lst (pa_cons (pe_tup (pa_cons (pe_x1 (T.xc 1 (by decide)) M1 G1 hr (by rfl) (T.mgC 1 (by decide)) pass0 (pv 0)) (pa_cons (pe_xk (T.xc 1 (by decide)) M1 G1 hr (by rfl) (T.mgC 1 (by decide)) pass0 (pv 0)) (pa_cons pe_str pa_nil)))) pa_nil))))
      (pss_cons (ps_set (i := 1) scPlaced.nd rfl (.inl rfl) (pe_op op_cat (pv 1) (pe_lst (pa_cons (pe_tup (pa_cons (pe_x1 (T.xc 11 (by decide)) M11 G11 hr (by rfl) (T.mgC 11 (by decide)) pass0 (pv 0)) (pa_cons (pe_xk (T.xc 11 (by decide)) M11 G11 hr (by rfl) (T.mgC 11 (by decide)) pass0 (pv 0)) (pa_cons pe_str pa_nil)))) pa_nil))))
      (pss_cons (ps_set (i := 1) scPlaced.nd rfl (.inl rfl) (pe_op op_cat (pv 1) (pe_lst (pa_cons (pe_tup (pa_cons (pe_x1 (T.xc 5 (by decide)) M5 G5 hr (by rfl) (T.mgC 5 (by decide)) pass0 (pv 0)) (pa_cons (pe_xk (T.xc 5 (by decide)) M5 G5 hr (by rfl) (T.mgC 5 (by decide)) pass0 (pv 0)) (pa_cons pe_str pa_nil)))) pa_nil))))
      (pss_cons (ps_set (i := 1) scPlaced.nd rfl (.inl rfl) (pe_op op_cat (pv 1) (pe_lst (pa_cons (pe_tup (pa_cons (pe_x1 (T.xc 16 (by decide)) M16 G16 hr (by rfl) (T.mgC 16 (by decide)) pass0 (pv 0)) (pa_cons (pe_xk (T.xc 16 (by decide)) M16 G16 hr (by rfl) (T.mgC 16 (by decide)) pass0 (pv 0)) (pa_cons pe_str pa_nil)))) pa_nil))))
      (pss_cons (ps_set (i := 1) scPlaced.nd rfl (.inl rfl) (pe_op op_cat (pv 1) (pe_lst (pa_cons (pe_tup (pa_cons (pe_x1 (T.xc 7 (by decide)) M7 G7 hr (by rfl) (T.mgC 7 (by decide)) pass0 (pv 0)) (pa_cons (pe_xk (T.xc 7 (by decide)) M7 G7 hr (by rfl) (T.mgC 7 (by decide)) pass0 (pv 0)) (pa_cons pe_str pa_nil)))) pa_nil))))
      (pss_one (ps_ret (pe_op op_cat (pv 1) (pe_lst (pa_cons (pe_tup (pa_cons (pe_x1 (T.xc 2 (by decide)) M2 G2 hr (by rfl) (T.mgC 2 (by decide)) pass0 (pv 0)) (pa_cons (pe_xk (T.xc 2 (by decide)) M2 G2 hr (by rfl) (T.mgC 2 (by decide)) pass0 (pv 0)) (pa_cons pe_str pa_nil)))) pa_nil)))))))))))))))))))), ?_⟩
    refine rd_rows1 3 fun l0 H0 xs0 n0 s0 e0 q0 => ?_
    have z0 : Same H H0 := s0
    have c1 : ∀ QQ : VK, (∀ l H' xs, H0 l = none → Same H0 H' → H' l = some (.lst xs) → All2 (RowAt C thing H') xs [3, 13] → QQ (.ref l) H') → _ := fun QQ qq => rd_catrow (Q := QQ) 13 e0 q0 (by decide) qq
    refine c1 _ fun l1 H1 xs1 n1 s1 e1 q1 => ?_
    have z1 : Same H H1 := z0.trans s1
    have c2 : ∀ QQ : VK, (∀ l H' xs, H1 l = none → Same H1 H' → H' l = some (.lst xs) → All2 (RowAt C thing H') xs [3, 13, 17] → QQ (.ref l) H') → _ := fun QQ qq => rd_catrow (Q := QQ) 17 e1 q1 (by decide) qq
    refine c2 _ fun l2 H2 xs2 n2 s2 e2 q2 => ?_
    have z2 : Same H H2 := z1.trans s2
    have c3 : ∀ QQ : VK, (∀ l H' xs, H2 l = none → Same H2 H' → H' l = some (.lst xs) → All2 (RowAt C thing H') xs [3, 13, 17, 12] → QQ (.ref l) H') → _ := fun QQ qq => rd_catrow (Q := QQ) 12 e2 q2 (by decide) qq
    refine c3 _ fun l3 H3 xs3 n3 s3 e3 q3 => ?_
    have z3 : Same H H3 := z2.trans s3
    have c4 : ∀ QQ : VK, (∀ l H' xs, H3 l = none → Same H3 H' → H' l = some (.lst xs) → All2 (RowAt C thing H') xs [3, 13, 17, 12, 18] → QQ (.ref l) H') → _ := fun QQ qq => rd_catrow (Q := QQ) 18 e3 q3 (by decide) qq
    refine c4 _ fun l4 H4 xs4 n4 s4 e4 q4 => ?_
    have z4 : Same H H4 := z3.trans s4
    have c5 : ∀ QQ : VK, (∀ l H' xs, H4 l = none → Same H4 H' → H' l = some (.lst xs) → All2 (RowAt C thing H') xs [3, 13, 17, 12, 18, 10] → QQ (.ref l) H') → _ := fun QQ qq => rd_catrow (Q := QQ) 10 e4 q4 (by decide) qq
    refine c5 _ fun l5 H5 xs5 n5 s5 e5 q5 => ?_
    have z5 : Same H H5 := z4.trans s5
    have c6 : ∀ QQ : VK, (∀ l H' xs, H5 l = none → Same H5 H' → H' l = some (.lst xs) → All2 (RowAt C thing H') xs [3, 13, 17, 12, 18, 10, 6] → QQ (.ref l) H') → _ := fun QQ qq => rd_catrow (Q := QQ) 6 e5 q5 (by decide) qq
    refine c6 _ fun l6 H6 xs6 n6 s6 e6 q6 => ?_
    have z6 : Same H H6 := z5.trans s6
    have c7 : ∀ QQ : VK, (∀ l H' xs, H6 l = none → Same H6 H' → H' l = some (.lst xs) → All2 (RowAt C thing H') xs [3, 13, 17, 12, 18, 10, 6, 14] → QQ (.ref l) H') → _ := fun QQ qq => rd_catrow (Q := QQ) 14 e6 q6 (by decide) qq
    refine c7 _ fun l7 H7 xs7 n7 s7 e7 q7 => ?_
    have z7 : Same H H7 := z6.trans s7
    have c8 : ∀ QQ : VK, (∀ l H' xs, H7 l = none → Same H7 H' → H' l = some (.lst xs) → All2 (RowAt C thing H') xs [3, 13, 17, 12, 18, 10, 6, 14, 0] → QQ (.ref l) H') → _ := fun QQ qq => rd_catrow (Q := QQ) 0 e7 q7 (by decide) qq
    refine c8 _ fun l8 H8 xs8 n8 s8 e8 q8 => ?_
    have z8 : Same H H8 := z7.trans s8
    have c9 : ∀ QQ : VK, (∀ l H' xs, H8 l = none → Same H8 H' → H' l = some (.lst xs) → All2 (RowAt C thing H') xs [3, 13, 17, 12, 18, 10, 6, 14, 0, 15] → QQ (.ref l) H') → _ := fun QQ qq => rd_catrow (Q := QQ) 15 e8 q8 (by decide) qq
    refine c9 _ fun l9 H9 xs9 n9 s9 e9 q9 => ?_
    have z9 : Same H H9 := z8.trans s9
    have c10 : ∀ QQ : VK, (∀ l H' xs, H9 l = none → Same H9 H' → H' l = some (.lst xs) → All2 (RowAt C thing H') xs [3, 13, 17, 12, 18, 10, 6, 14, 0, 15, 1] → QQ (.ref l) H') → _ := fun QQ qq => rd_catrow (Q := QQ) 1 e9 q9 (by decide) qq
    refine c10 _ fun l10 H10 xs10 n10 s10 e10 q10 => ?_
    have z10 : Same H H10 := z9.trans s10
    have c11 : ∀ QQ : VK, (∀ l H' xs, H10 l = none → Same H10 H' → H' l = some (.lst xs) → All2 (RowAt C thing H') xs [3, 13, 17, 12, 18, 10, 6, 14, 0, 15, 1, 11] → QQ (.ref l) H') → _ := fun QQ qq => rd_catrow (Q := QQ) 11 e10 q10 (by decide) qq
    refine c11 _ fun l11 H11 xs11 n11 s11 e11 q11 => ?_
    have z11 : Same H H11 := z10.trans s11
    have c12 : ∀ QQ : VK, (∀ l H' xs, H11 l = none → Same H11 H' → H' l = some (.lst xs) → All2 (RowAt C thing H') xs [3, 13, 17, 12, 18, 10, 6, 14, 0, 15, 1, 11, 5] → QQ (.ref l) H') → _ := fun QQ qq => rd_catrow (Q := QQ) 5 e11 q11 (by decide) qq
    refine c12 _ fun l12 H12 xs12 n12 s12 e12 q12 => ?_
    have z12 : Same H H12 := z11.trans s12
    have c13 : ∀ QQ : VK, (∀ l H' xs, H12 l = none → Same H12 H' → H' l = some (.lst xs) → All2 (RowAt C thing H') xs [3, 13, 17, 12, 18, 10, 6, 14, 0, 15, 1, 11, 5, 16] → QQ (.ref l) H') → _ := fun QQ qq => rd_catrow (Q := QQ) 16 e12 q12 (by decide) qq
    refine c13 _ fun l13 H13 xs13 n13 s13 e13 q13 => ?_
    have z13 : Same H H13 := z12.trans s13
    have c14 : ∀ QQ : VK, (∀ l H' xs, H13 l = none → Same H13 H' → H' l = some (.lst xs) → All2 (RowAt C thing H') xs [3, 13, 17, 12, 18, 10, 6, 14, 0, 15, 1, 11, 5, 16, 7] → QQ (.ref l) H') → _ := fun QQ qq => rd_catrow (Q := QQ) 7 e13 q13 (by decide) qq
    refine c14 _ fun l14 H14 xs14 n14 s14 e14 q14 => ?_
    have z14 : Same H H14 := z13.trans s14
    have c15 : ∀ QQ : VK, (∀ l H' xs, H14 l = none → Same H14 H' → H' l = some (.lst xs) → All2 (RowAt C thing H') xs [3, 13, 17, 12, 18, 10, 6, 14, 0, 15, 1, 11, 5, 16, 7, 2] → QQ (.ref l) H') → _ := fun QQ qq => rd_catrow (Q := QQ) 2 e14 q14 (by decide) qq
    refine c15 _ fun l15 H15 xs15 n15 s15 e15 q15 => ?_
    have z15 : Same H H15 := z14.trans s15
    exact q l15 H15 xs15 (z14.free n15) z15 e15 q15
end
end K99

namespace K99
open PySem PySem.Spec PyProof.Rows L2 XV
mutual
theorem dp_same {K : PySem.W.Frag} {H H' : Hp} (s : Same H H') : ∀ (d : PyData) (v : V), Dp K H v d → Dp K H' v d
  | .none, _, h => by cases h; exact .non
  | .bool b, _, h => by cases h; exact .bl b
  | .int i, _, h => by cases h; exact .int i
  | .str x, _, h => by cases h; exact .str x
  | .list ds, _, h => by
    cases h with
    | lst hs ha => exact .lst (s.seq hs) (dpAll_same s ds _ ha)
  | .tuple ds, _, h => by
    cases h with
    | tup hs ha =>
      refine .tup ?_ (dpAll_same s ds _ ha)
      rcases hs with (h | ⟨o, h⟩) | h
      · exact .inl (.inl (s _ _ h))
      · exact .inl (.inr ⟨o, s _ _ h⟩)
      · exact .inr h
  | .dict _, _, h => by cases h
theorem dpAll_same {K : PySem.W.Frag} {H H' : Hp} (s : Same H H') : ∀ (ds : List PyData) (vs : List V), DpAll K H vs ds → DpAll K H' vs ds
  | [], _, h => by cases h; exact .nil
  | d :: ds, _, h => by
    cases h with
    | cons h1 h2 => exact .cons (dp_same s d _ h1) (dpAll_same s ds _ h2)
end
theorem dp_strs {K : PySem.W.Frag} {H : Hp} : ∀ ws : List Str, DpAll K H (ws.map V.str) (ws.map PyData.str)
  | [] => .nil
  | x :: r => .cons (.str x) (dp_strs r)
theorem sh_three {x y z : Str} (hx : PyData.strOk x = true) (hy : PyData.strOk y = true) (hz : PyData.strOk z = true) : SeqAt.shaped (.list [.str x, .str y, .str z]) = true := by simp [SeqAt.shaped, PyData.canLay0, PyData.canLayAll0, PyData.depth, PyData.depthAll, hx, hy, hz]
theorem sh_two {x y : Str} (hx : PyData.strOk x = true) (hy : PyData.strOk y = true) : SeqAt.shaped (.list [.str x, .str y]) = true := by simp [SeqAt.shaped, PyData.canLay0, PyData.canLayAll0, PyData.depth, PyData.depthAll, hx, hy]
theorem eq_self {d : PyData} (h : SeqAt.shaped d = true) : (!PyData.eqv d d) = false := by rw [SeqAt.eqv_refl d (SeqAt.canLay_of_shaped h)]; rfl
theorem words3 {i : Nat} (h : i < 19) : words i = [nm i, "base", "value"] := if_pos h
theorem words19 : words 19 = (["NoSuch", "lookup"] : List Str) := by decide +kernel
theorem words20 : words 20 = (["TooMany", "overflow"] : List Str) := by decide +kernel
theorem ok_nm : ∀ i, i < 21 → PyData.strOk (nm i) = true := by decide +kernel
theorem ids_ve : ∀ i, i < 19 → ids i = "ValueError.__init__" := by decide +kernel
def spRight (K : PySem.W.Frag) : Sp := fun vs H Q _ => ∃ (thing : V) (d : PyData), vs = [thing] ∧ Dp K H thing d ∧ SeqAt.shaped d = true ∧ ∀ H', Same H H' → Q (.bl true) H'
section
variable {P : Program} {w : World} {K : PySem.W.Frag} {mg : Str → Option Value} {base : Heap} {C : Nat → Addr} {S : Addr}
/-- the kinds of one are the three told -/
theorem rd_kinds3 {X : Txt P w K mg base C S} {σ : L2.St} {H : Hp} {a : Addr} {i j : Nat} {v : V} {Q : Bool → Hp → Prop} (hi : i < 19) (hj : σ[j]? = some (some (.ref a))) (h3 : σ[3]? = some (some (.str (nm i)))) (x : XAt H a (C i) (ms i) (fl i) v)
    (q : ∀ H', Same H H' → Q false H') : tTest (tOp (rNeD K) (tCall (spKinds C) [] E0 (tCons (tVar j) tNil)) (tLst (tCons (tVar 3) (tCons (tC (.str "base")) (tCons (tC (.str "value")) tNil))))) σ H Q := by
  have h3k := sh_three (ok_nm i (by omega)) (show PyData.strOk "base" = true by decide +kernel) (show PyData.strOk "value" = true by decide +kernel)
  refine ⟨.ref a, hj, a, i, v, rfl, (by omega), x, fun p H1 np s1 e1 => ?_⟩
  refine ⟨_, h3, (by show 3 ≤ sizeLine; decide), fun l hl => ?_⟩
  have s2 := same_new (o := .lst [.str (nm i), .str "base", .str "value"]) hl
  rw [words3 hi] at e1
  refine ⟨.list [.str (nm i), .str "base", .str "value"], .list [.str (nm i), .str "base", .str "value"], .lst (.inl (.inl (s2 _ _ e1))) (dp_strs [nm i, "base", "value"]), .lst (.inl (.inl upd_same)) (dp_strs [nm i, "base", "value"]), h3k, h3k, false, ?_, q _ (s1.trans s2)⟩
  exact congrArg V.bl (eq_self h3k)
theorem rd_kinds2 {X : Txt P w K mg base C S} {σ : L2.St} {H : Hp} {a : Addr} {i j : Nat} {v : V} {w1 w2 : Str} {Q : Bool → Hp → Prop} (hi : i < 21) (hw : words i = [w1, w2]) (o1 : PyData.strOk w1 = true) (o2 : PyData.strOk w2 = true) (hj : σ[j]? = some (some (.ref a))) (x : XAt H a (C i) (ms i) (fl i) v)
    (q : ∀ H', Same H H' → Q false H') : tTest (tOp (rNeD K) (tCall (spKinds C) [] E0 (tCons (tVar j) tNil)) (tLst (tCons (tC (.str w1)) (tCons (tC (.str w2)) tNil)))) σ H Q := by
  refine ⟨.ref a, hj, a, i, v, rfl, hi, x, fun p H1 np s1 e1 => ?_⟩
  refine ⟨(by show 2 ≤ sizeLine; decide), fun l hl => ?_⟩
  have s2 := same_new (o := .lst [.str w1, .str w2]) hl
  rw [hw] at e1
  refine ⟨.list [.str w1, .str w2], .list [.str w1, .str w2], .lst (.inl (.inl (s2 _ _ e1))) (dp_strs [w1, w2]), .lst (.inl (.inl upd_same)) (dp_strs [w1, w2]), sh_two o1 o2, sh_two o1 o2, false, ?_, q _ (s1.trans s2)⟩
  exact congrArg V.bl (eq_self (sh_two o1 o2))
/-- its field is the thing -/
theorem rd_fld {X : Txt P w K mg base C S} {σ : L2.St} {H : Hp} {a : Addr} {i j : Nat} {v : V} {d : PyData} {f : Str} {id : String} {Q : Bool → Hp → Prop} (hi : i < 21) (hf : fl i = f) (hid : ids i = id) (hj : σ[j]? = some (some (.ref a))) (h0 : σ[0]? = some (some v)) (x : XAt H a (C i) (ms i) (fl i) v) (hd : Dp K H v d) (hs : SeqAt.shaped d = true)
    (q : Q false H) : tTest (tOp (rNeD K) (tXfld K f (tVar j)) (tVar 0)) σ H Q := by
  subst hf hid
  exact ⟨.ref a, hj, a, C i, ms i, v, ids i, rfl, X.xc i hi, X.noF i hi, x, v, h0, d, d, hd, hd, hs, hs, false, congrArg V.bl (eq_self hs), q⟩
theorem ok_right {f fK fV fP : Addr} {fd fdK fdV fdP : FuncData} (F : Fun K "_law_right" "_law_right" sRight f fd) (T : Txt P w K mg base C S)
    (FK : Fun K "_law_kinds" "_law_kinds" sKinds fK fdK) (bK : Binds K fdK ["e"] []) (mK : mg "_law_kinds" = some (.ref fK)) (FV : Fun K "_law_valued" "_law_valued" sValued fV fdV) (bV : Binds K fdV ["thing"] []) (mV : mg "_law_valued" = some (.ref fV))
    (FP : Fun K "_law_placed" "_law_placed" sPlaced fP fdP) (bP : Binds K fdP ["thing"] []) (mP : mg "_law_placed" = some (.ref fP)) : FnOk P w K mg base CX0 4 f fd ["thing"] (spRight K) := by
  have GK : FnOk P w K mg base CX0 1 fK fdK ["e"] (spKinds C) := ok_kinds FK T
  have GV := ok_valued (k := 0) FV T
  have GP := ok_placed (k := 0) FP T
  obtain ⟨fI19, fd19, M19, G19, _⟩ := T.mkE 19 (by decide)
  obtain ⟨fI20, fd20, M20, G20, _⟩ := T.mkE 20 (by decide)
  refine F.ok scRight (fun vs H Q E h => ?_) (fun cdv A outer s H vs Q E hr h => ?_)
  · obtain ⟨thing, d, rfl, _⟩ := h
    rfl
  · obtain ⟨thing, d, rfl, hd, hs, q⟩ := h
    have hr1 : Room 1 _ := hr.mono (by decide)
    have hr2 : Room 2 _ := hr.mono (by decide)
    refine ⟨_, (pss_cons (ps_for PassesOwn.never rfl (pi_list (pe_call GV hr (by rfl) mV FV.kp bV .nil pass0 (pa_cons (pv 0) pa_nil))) (pg_tup rfl (pgs_cons (pg_name (i := 1) scRight.nd rfl (.inl rfl)) (pgs_cons (pg_name (i := 2) scRight.nd rfl (.inl rfl)) (pgs_cons (pg_name (i := 3) scRight.nd rfl (.inl rfl)) pgs_nil)))) (pss_cons (ps_if (PW.pt (pw_or (pt_cmpR (op_neD hr.units) (pe_call GK hr1 (by rfl) mK FK.kp bK .nil pass0 (pa_cons (pv 1) pa_nil)) (pe_lst (pa_cons (pv 3) (pa_cons pe_str (pa_cons pe_str pa_nil)))) (nomark _)) (pw_or1 (pt_cmpR (op_neD hr.units) (pe_call GK hr1 (by rfl) mK FK.kp bK .nil pass0 (pa_cons (pv 2) pa_nil)) (pe_lst (pa_cons (pv 3) (pa_cons pe_str (pa_cons pe_str pa_nil)))) (nomark _))))) (pss_one (ps_ret pe_bl)) pss_nil) (pss_one (ps_if (PW.pt (pw_or (pt_cmpR (op_neD hr.units) (pe_xfld (pv 1)) (pv 0) (nomark _)) (pw_or1 (pt_cmpR (op_neD hr.units) (pe_xfld (pv 2)) (pv 0) (nomark _))))) (pss_one (ps_ret pe_bl)) pss_nil))))
      (pss_cons (ps_for PassesOwn.never rfl (pi_list (pe_call GP hr (by rfl) mP FP.kp bP .nil pass0 (pa_cons (pv 0) pa_nil))) (pg_tup rfl (pgs_cons (pg_name (i := 1) scRight.nd rfl (.inl rfl)) (pgs_cons (pg_name (i := 2) scRight.nd rfl (.inl rfl)) (pgs_cons (pg_name (i := 3) scRight.nd rfl (.inl rfl)) pgs_nil)))) (pss_cons (ps_if (PW.pt (pw_or (pt_cmpR (op_neD hr.units) (pe_call GK hr1 (by rfl) mK FK.kp bK .nil pass0 (pa_cons (pv 1) pa_nil)) (pe_lst (pa_cons (pv 3) (pa_cons pe_str (pa_cons pe_str pa_nil)))) (nomark _)) (pw_or1 (pt_cmpR (op_neD hr.units) (pe_call GK hr1 (by rfl) mK FK.kp bK .nil pass0 (pa_cons (pv 2) pa_nil)) (pe_lst (pa_cons (pv 3) (pa_cons pe_str (pa_cons pe_str pa_nil)))) (nomark _))))) (pss_one (ps_ret pe_bl)) pss_nil) (pss_one (ps_if (PW.pt (pw_or (pt_cmpR (op_neD hr.units) (pe_xfld (pv 1)) (pv 0) (nomark _)) (pw_or1 (pt_cmpR (op_neD hr.units) (pe_xfld (pv 2)) (pv 0) (nomark _))))) (pss_one (ps_ret pe_bl)) pss_nil))))
      (pss_cons (ps_for PassesOwn.never rfl (pi_tup (pe_tup (pa_cons (pe_x1 (T.xc 19 (by decide)) M19 G19 hr2 (by rfl) (T.mgC 19 (by decide)) pass0 (pv 0)) (pa_cons (pe_xk (T.xc 19 (by decide)) M19 G19 hr2 (by rfl) (T.mgC 19 (by decide)) pass0 (pv 0)) pa_nil)))) (pg_name (i := 1) scRight.nd rfl (.inl rfl)) (pss_one (ps_if (PW.pt (pw_or (pt_cmpR (op_neD hr.units) (pe_call GK hr1 (by rfl) mK FK.kp bK .nil pass0 (pa_cons (pv 1) pa_nil)) (pe_lst (pa_cons pe_str (pa_cons pe_str pa_nil))) (nomark _)) (pw_or1 (pt_cmpR (op_neD hr.units) (pe_xfld (pv 1)) (pv 0) (nomark _))))) (pss_one (ps_ret pe_bl)) pss_nil)))
      (pss_cons (ps_for PassesOwn.never rfl (pi_tup (pe_tup (pa_cons (pe_x1 (T.xc 20 (by decide)) M20 G20 hr2 (by rfl) (T.mgC 20 (by decide)) pass0 (pv 0)) (pa_cons (pe_xk (T.xc 20 (by decide)) M20 G20 hr2 (by rfl) (T.mgC 20 (by decide)) pass0 (pv 0)) pa_nil)))) (pg_name (i := 1) scRight.nd rfl (.inl rfl)) (pss_one (ps_if (PW.pt (pw_or (pt_cmpR (op_neD hr.units) (pe_call GK hr1 (by rfl) mK FK.kp bK .nil pass0 (pa_cons (pv 1) pa_nil)) (pe_lst (pa_cons pe_str (pa_cons pe_str pa_nil))) (nomark _)) (pw_or1 (pt_cmpR (op_neD hr.units) (pe_xfld (pv 1)) (pv 0) (nomark _))))) (pss_one (ps_ret pe_bl)) pss_nil)))
      (pss_one (ps_ret pe_bl)))))), ?_⟩
    refine ⟨thing, rfl, thing, rfl, fun p0 A0 xs0 n0 s0 e0 r0 => ?_⟩
    have zA0 : Same H A0 := s0
    refine ⟨p0, rfl, ⟨_, SqL.of e0⟩, for_list (K := K) (a := p0) (xs := xs0) (fun j σ H' => ∃ y1 y2 y3, σ = [some thing, y1, y2, y3] ∧ Same A0 H') ⟨_, _, _, rfl, Same.refl _⟩ (fun j σ H' _ h => by obtain ⟨_, _, _, _, sm⟩ := h; exact SqL.of (sm _ _ e0)) ?_ ?_⟩
    · rintro j v σ H' hj ⟨y1, y2, y3, rfl, sm⟩
      obtain ⟨i, hi, t, a, b, rfl, ht, xa, xb⟩ := r0.get j v hj
      have key : ∀ i ∈ ([9, 8, 4] : List Nat), i < 19 ∧ fl i = "value" := by decide +kernel
      obtain ⟨i19, hfl⟩ := key i (List.mem_of_getElem? hi)
      refine ⟨t, _, rfl, .inl (.inl (sm _ _ ht)), rfl, _, _, rfl, _, _, rfl, _, _, rfl, rfl, ?_⟩
      refine rd_kinds3 (X := T) (i := i) i19 rfl rfl (xa.same sm) fun H1 s1 => iteF ?_
      refine rd_kinds3 (X := T) (i := i) i19 rfl rfl ((xb.same sm).same s1) fun H2 s2 => iteF ?_
      have s12 : Same A0 H2 := (Same.trans sm s1).trans s2
      have hd2 := dp_same ((Same.trans zA0 s12)) d thing hd
      refine rd_fld (X := T) (i := i) (by omega) hfl (ids_ve i i19) rfl rfl (xa.same s12) hd2 hs (iteF ?_)
      exact rd_fld (X := T) (i := i) (by omega) hfl (ids_ve i i19) rfl rfl (xb.same s12) hd2 hs (iteF ⟨_, _, _, rfl, s12⟩)
    rintro σ0 H0 ⟨y1_0, y2_0, y3_0, rfl, s0B⟩
    have z0 : Same H H0 := Same.trans zA0 s0B
    refine ⟨thing, rfl, thing, rfl, fun p1 A1 xs1 n1 s1 e1 r1 => ?_⟩
    have zA1 : Same H A1 := Same.trans z0 s1
    refine ⟨p1, rfl, ⟨_, SqL.of e1⟩, for_list (K := K) (a := p1) (xs := xs1) (fun j σ H' => ∃ y1 y2 y3, σ = [some thing, y1, y2, y3] ∧ Same A1 H') ⟨_, _, _, rfl, Same.refl _⟩ (fun j σ H' _ h => by obtain ⟨_, _, _, _, sm⟩ := h; exact SqL.of (sm _ _ e1)) ?_ ?_⟩
    · rintro j v σ H' hj ⟨y1, y2, y3, rfl, sm⟩
      obtain ⟨i, hi, t, a, b, rfl, ht, xa, xb⟩ := r1.get j v hj
      have key : ∀ i ∈ ([3, 13, 17, 12, 18, 10, 6, 14, 0, 15, 1, 11, 5, 16, 7, 2] : List Nat), i < 19 ∧ fl i = "place" := by decide +kernel
      obtain ⟨i19, hfl⟩ := key i (List.mem_of_getElem? hi)
      refine ⟨t, _, rfl, .inl (.inl (sm _ _ ht)), rfl, _, _, rfl, _, _, rfl, _, _, rfl, rfl, ?_⟩
      refine rd_kinds3 (X := T) (i := i) i19 rfl rfl (xa.same sm) fun H1 s1 => iteF ?_
      refine rd_kinds3 (X := T) (i := i) i19 rfl rfl ((xb.same sm).same s1) fun H2 s2 => iteF ?_
      have s12 : Same A1 H2 := (Same.trans sm s1).trans s2
      have hd2 := dp_same ((Same.trans zA1 s12)) d thing hd
      refine rd_fld (X := T) (i := i) (by omega) hfl (ids_ve i i19) rfl rfl (xa.same s12) hd2 hs (iteF ?_)
      exact rd_fld (X := T) (i := i) (by omega) hfl (ids_ve i i19) rfl rfl (xb.same s12) hd2 hs (iteF ⟨_, _, _, rfl, s12⟩)
    rintro σ1 H1 ⟨y1_1, y2_1, y3_1, rfl, s1B⟩
    have z1 : Same H H1 := Same.trans zA1 s1B
    refine ⟨thing, rfl, fun a2 A2 na2 xa2 sa2 => ⟨thing, rfl, fun b2 B2 nb2 xb2 sb2 => ⟨(by show 2 ≤ sizeLine; decide), fun t2 ht2 => ?_⟩⟩⟩
    have st2 := same_new (o := .tup [.ref a2, .ref b2]) ht2
    have zt2 : Same H (upd B2 t2 (.tup [.ref a2, .ref b2])) := Same.trans z1 (Same.trans (Same.trans sa2 sb2) st2)
    refine ⟨t2, rfl, ⟨_, .inl (.inl upd_same)⟩, for_tup (K := K) (a := t2) (xs := [.ref a2, .ref b2]) (fun j σ H' => ∃ y1 y2 y3, σ = [some thing, y1, y2, y3] ∧ Same (upd B2 t2 (.tup [.ref a2, .ref b2])) H') ⟨_, _, _, rfl, Same.refl _⟩ (fun j σ H' _ h => by obtain ⟨_, _, _, _, sm⟩ := h; exact .inl (.inl (sm _ _ upd_same))) ?_ ?_⟩
    · rintro j v σ H' hj ⟨y1, y2, y3, rfl, sm⟩
      obtain ⟨c, rfl, xc⟩ : ∃ c, v = .ref c ∧ XAt H' c (C 19) (ms 19) (fl 19) thing := by
        match j, hj with
        | 0, hj =>
          have e := Option.some.inj hj
          exact ⟨a2, e.symm, ((xa2.same sb2).same st2).same sm⟩
        | 1, hj =>
          have e := Option.some.inj hj
          exact ⟨b2, e.symm, (xb2.same st2).same sm⟩
        | j + 2, hj => simp at hj
      refine rd_kinds2 (X := T) (i := 19) (by decide) words19 (by decide +kernel) (by decide +kernel) rfl xc fun H1 s1 => iteF ?_
      have s12 := Same.trans sm s1
      exact rd_fld (X := T) (i := 19) (by decide) rfl rfl rfl rfl (xc.same s1) (dp_same (Same.trans zt2 s12) d thing hd) hs (iteF ⟨_, _, _, rfl, s12⟩)
    rintro σ2 H2 ⟨y1_2, y2_2, y3_2, rfl, s2B⟩
    have z2 : Same H H2 := Same.trans zt2 s2B
    refine ⟨thing, rfl, fun a3 A3 na3 xa3 sa3 => ⟨thing, rfl, fun b3 B3 nb3 xb3 sb3 => ⟨(by show 2 ≤ sizeLine; decide), fun t3 ht3 => ?_⟩⟩⟩
    have st3 := same_new (o := .tup [.ref a3, .ref b3]) ht3
    have zt3 : Same H (upd B3 t3 (.tup [.ref a3, .ref b3])) := Same.trans z2 (Same.trans (Same.trans sa3 sb3) st3)
    refine ⟨t3, rfl, ⟨_, .inl (.inl upd_same)⟩, for_tup (K := K) (a := t3) (xs := [.ref a3, .ref b3]) (fun j σ H' => ∃ y1 y2 y3, σ = [some thing, y1, y2, y3] ∧ Same (upd B3 t3 (.tup [.ref a3, .ref b3])) H') ⟨_, _, _, rfl, Same.refl _⟩ (fun j σ H' _ h => by obtain ⟨_, _, _, _, sm⟩ := h; exact .inl (.inl (sm _ _ upd_same))) ?_ ?_⟩
    · rintro j v σ H' hj ⟨y1, y2, y3, rfl, sm⟩
      obtain ⟨c, rfl, xc⟩ : ∃ c, v = .ref c ∧ XAt H' c (C 20) (ms 20) (fl 20) thing := by
        match j, hj with
        | 0, hj =>
          have e := Option.some.inj hj
          exact ⟨a3, e.symm, ((xa3.same sb3).same st3).same sm⟩
        | 1, hj =>
          have e := Option.some.inj hj
          exact ⟨b3, e.symm, (xb3.same st3).same sm⟩
        | j + 2, hj => simp at hj
      refine rd_kinds2 (X := T) (i := 20) (by decide) words20 (by decide +kernel) (by decide +kernel) rfl xc fun H1 s1 => iteF ?_
      have s12 := Same.trans sm s1
      exact rd_fld (X := T) (i := 20) (by decide) rfl rfl rfl rfl (xc.same s1) (dp_same (Same.trans zt3 s12) d thing hd) hs (iteF ⟨_, _, _, rfl, s12⟩)
    rintro σ3 H3 ⟨y1_3, y2_3, y3_3, rfl, s3B⟩
    have z3 : Same H H3 := Same.trans zt3 s3B
    exact q _ z3
end
end K99

namespace K99
open PySem PySem.Spec PyProof.Rows L2 XV
abbrev sLaw : Stmt := topS 31
abbrev nLaw : List Str := ["script", "k", "cell", "state", "number", "some", "others", "rows", "thing", "made", "e", "one", "other", "name"]
theorem scLaw : FnScope nLaw ["script"] (defScope sLaw) := ⟨rfl, rfl, rfl, by decide +kernel, rfl, by decide +kernel, by decide +kernel⟩
/-- an error of the i-th class that keeps v -/
def ErrAt (C : Nat → Addr) (v : V) (H : Hp) (x : V) (i : Nat) : Prop := ∃ a, x = .ref a ∧ XAt H a (C i) (ms i) (fl i) v
theorem ErrAt.same {C : Nat → Addr} {v : V} {H H' : Hp} (s : Same H H') {x : V} {i : Nat} (h : ErrAt C v H x i) : ErrAt C v H' x i := let ⟨a, b, c⟩ := h; ⟨a, b, c.same s⟩
/-- the texts of all of them, as law asks for them -/
def texts : List Str := (([9, 8, 4] ++ [3, 13, 17, 12, 18, 10, 6, 14, 0, 15, 1, 11, 5, 16, 7, 2] ++ [19, 20] : List Nat)).map ms
def spLaw (K : PySem.W.Frag) : Sp := fun vs H Q _ => ∃ (a : Addr) (ns : List Int), vs = [.ref a] ∧ SqL K H a (ns.map V.int) ∧ ns.length ≤ 63 ∧ ∀ H', Q (.bl true) H'
theorem tYes_at {σ : L2.St} {H : Hp} {Q : Bool → Hp → Prop} (h : Q true H) : tYes σ H Q := h
theorem sh_int (i : Int) : SeqAt.shaped (.int i) = true := by simp [SeqAt.shaped, PyData.canLay0, PyData.depth]
theorem sh_none : SeqAt.shaped .none = true := by simp [SeqAt.shaped, PyData.canLay0, PyData.depth]
theorem sh_str {x : Str} (h : PyData.strOk x = true) : SeqAt.shaped (.str x) = true := by simp [SeqAt.shaped, PyData.canLay0, PyData.depth, h]
theorem dp_nons {K : PySem.W.Frag} {H : Hp} : ∀ n : Nat, DpAll K H (List.replicate n V.non) (List.replicate n PyData.none)
  | 0 => .nil
  | n + 1 => .cons .non (dp_nons n)
mutual
theorem dp_mono {K : PySem.W.Frag} {H H' : Hp} (hl : ∀ a xs, SqL K H a xs → SqL K H' a xs) (ht : ∀ a xs, SqT K H a xs → SqT K H' a xs) : ∀ (d : PyData) (v : V), Dp K H v d → Dp K H' v d
  | .none, _, h => by cases h; exact .non
  | .bool b, _, h => by cases h; exact .bl b
  | .int i, _, h => by cases h; exact .int i
  | .str x, _, h => by cases h; exact .str x
  | .list ds, _, h => by
    cases h with
    | lst hs ha => exact .lst (hl _ _ hs) (dpAll_mono hl ht ds _ ha)
  | .tuple ds, _, h => by
    cases h with
    | tup hs ha => exact .tup (ht _ _ hs) (dpAll_mono hl ht ds _ ha)
  | .dict _, _, h => by cases h
theorem dpAll_mono {K : PySem.W.Frag} {H H' : Hp} (hl : ∀ a xs, SqL K H a xs → SqL K H' a xs) (ht : ∀ a xs, SqT K H a xs → SqT K H' a xs) : ∀ (ds : List PyData) (vs : List V), DpAll K H vs ds → DpAll K H' vs ds
  | [], _, h => by cases h; exact .nil
  | d :: ds, _, h => by
    cases h with
    | cons h1 h2 => exact .cons (dp_mono hl ht d _ h1) (dpAll_mono hl ht ds _ h2)
end
/-- all but a dict stays: data stays -/
theorem dp_but {K : PySem.W.Frag} {H H' : Hp} {p : Addr} {kvs : List (Key × V)} (hp : H p = some (.dK kvs)) (k : ∀ a o, a ≠ p → H a = some o → H' a = some o) {d : PyData} {v : V} (h : Dp K H v d) : Dp K H' v d := by
  have st : ∀ a o, H a = some o → o ≠ .dK kvs → H' a = some o := fun a o e n => k a o (fun z => n (by rw [z, hp] at e; exact (Option.some.inj e).symm)) e
  refine dp_mono (fun a xs h => ?_) (fun a xs h => ?_) d v h
  · rcases h with (h | ⟨o, h⟩) | h
    · exact .inl (.inl (st _ _ h (by intro z; cases z)))
    · exact .inl (.inr ⟨o, st _ _ h (by intro z; cases z)⟩)
    · exact .inr h
  · rcases h with (h | ⟨o, h⟩) | h
    · exact .inl (.inl (st _ _ h (by intro z; cases z)))
    · exact .inl (.inr ⟨o, st _ _ h (by intro z; cases z)⟩)
    · exact .inr h
section
variable {P : Program} {w : World} {K : PySem.W.Frag} {mg : Str → Option Value} {base : Heap} {C : Nat → Addr} {S : Addr}
theorem atI7 {r : Int} (h0 : 0 ≤ r) (h1 : r < 7) : ∃ j : Nat, j < 7 ∧ r = j := ⟨r.toNat, by omega, by omega⟩
theorem rd_x0 (i : Nat) {σ : L2.St} {H : Hp} {Q : VK} (q : ∀ x H', Same H H' → ErrAt C .non H' x i → Q x H') : tX0 (C i) (ms i) (fl i) σ H Q := fun a H1 _ xa s => q _ _ s ⟨a, rfl, xa⟩
/-- [e.f for e in l]: as many None -/
theorem rd_fields {T : Txt P w K mg base C S} {σ : L2.St} {j : Nat} {H : Hp} {l : Addr} {xs : List V} {is : List Nat} {f : Str} {Q : VK} (hj : σ[j]? = some (some (.ref l))) (hlen : σ.length = 14) (hl : H l = some (.lst xs)) (hx : All2 (ErrAt C .non H) xs is) (hi : ∀ i ∈ is, i < 21 ∧ fl i = f) (hn : xs.length ≤ 100)
    (q : ∀ D H', H D = none → Same H H' → H' D = some (.lst (List.replicate xs.length .non)) → Q (.ref D) H') : tLc (iList K (tVar j)) (gName 10) tYes (tXfld K f (tVar 10)) [10] σ H Q := by
  refine ⟨.ref l, hj, l, rfl, ⟨_, SqL.of hl⟩, fun D hD => ?_⟩
  refine lc_list (K := K) (a := l) (xs := xs) (fun j H' => Same H H' ∧ H' D = some (.lst (List.replicate j .non))) ⟨same_new hD, upd_same⟩ (fun j H' _ h => SqL.of (h.1 _ _ hl)) (fun j y H' hy h => ?_) (fun H' h => q D H' hD h.1 h.2)
  obtain ⟨sm, eD⟩ := h
  obtain ⟨i, hij, a, rfl, xa⟩ := hx.get j y hy
  obtain ⟨h21, hf⟩ := hi i (List.mem_of_getElem? hij)
  subst hf
  have hs10 : ((wipe σ [10]).set 10 (some (.ref a)))[10]? = some (some (.ref a)) := by
    rw [List.getElem?_set_self (by rw [wipe_length, hlen]; decide)]
  have hw : wipe ((wipe σ [10]).set 10 (some (.ref a))) [10] = wipe σ [10] := by
    show (((σ.set 10 none).set 10 (some (.ref a))).set 10 none) = σ.set 10 none
    rw [List.set_set, List.set_set]
  refine ⟨hw, tYes_at (iteT ?_)⟩
  refine ⟨.ref a, hs10, a, C i, ms i, .non, ids i, rfl, T.xc i h21, T.noF i h21, xa.same sm, _, eD, ?_, fun b o e => ?_, ?_⟩
  · have h1 : j < xs.length := (List.getElem?_eq_some_iff.mp hy).1
    rw [List.length_replicate, sizeLine_eq]; omega
  · by_cases hb : b = D
    · rw [hb, hD] at e; cases e
    · rw [upd_ne hb]; exact sm _ _ e
  · rw [upd_same, List.replicate_succ']
/-- [..] != [None] * n -/
theorem rd_nones {T : Txt P w K mg base C S} {σ : L2.St} {j : Nat} {H : Hp} {l : Addr} {xs : List V} {is : List Nat} {f : Str} {n : Int} {Q : Bool → Hp → Prop} (hj : σ[j]? = some (some (.ref l))) (hlen : σ.length = 14) (hl : H l = some (.lst xs)) (hx : All2 (ErrAt C .non H) xs is) (hi : ∀ i ∈ is, i < 21 ∧ fl i = f)
    (hn : xs.length ≤ 100) (hc : (xs.length : Int) = n) (hsh : SeqAt.shaped (.list (List.replicate xs.length .none)) = true) (q : ∀ H', Same H H' → Q false H') : tTest (tOp (rNeD K) (tLc (iList K (tVar j)) (gName 10) tYes (tXfld K f (tVar 10)) [10]) (tOp rRep (tLst (tCons (tC .non) tNil)) (tC (.int n)))) σ H Q := by
  have z : tLc (iList K (tVar j)) (gName 10) tYes (tXfld K f (tVar 10)) [10] σ H (fun x H1 => tOp rRep (tLst (tCons (tC .non) tNil)) (tC (.int n)) σ H1 fun y H2 => rNeD K x y H2 fun z H3 => ∃ k, z = .bl k ∧ Q k H3) := ?_
  exact z
  refine rd_fields (T := T) hj hlen hl hx hi hn fun D H1 _ s1 e1 => ?_
  refine ⟨(by show 1 ≤ sizeLine; decide), fun m hm => ?_⟩
  have s2 := same_new (o := .lst [.non]) hm
  refine ⟨m, n, [.non], rfl, rfl, upd_same, by omega, by omega, by rw [sizeLine_eq]; show 1 * n.toNat ≤ _; omega, fun r hr => ?_⟩
  have s3 := same_new (o := .lst (List.replicate n.toNat [V.non]).flatten) hr
  have ef : (List.replicate n.toNat [V.non]).flatten = List.replicate xs.length V.non := by
    rw [show n.toNat = xs.length by omega]
    generalize xs.length = m
    induction m with
    | zero => rfl
    | succ m ih => rw [List.replicate_succ, List.flatten_cons, ih]; rfl
  refine ⟨.list (List.replicate xs.length .none), .list (List.replicate xs.length .none), .lst (.inl (.inl (s3 _ _ (s2 _ _ e1)))) (dp_nons _), .lst (.inl (.inl upd_same)) (by rw [ef]; exact dp_nons _), hsh, hsh, false, congrArg V.bl (eq_self hsh), q _ ((Same.trans s1 s2).trans s3)⟩
theorem ok_law {f fM fD fI fK fV fP fR : Addr} {fd fdM fdD fdI fdK fdV fdP fdR : FuncData} (F : Fun K "law" "law" sLaw f fd) (T : Txt P w K mg base C S)
    (FM : Fun K "_law_mixed" "_law_mixed" sMixed fM fdM) (bM : Binds K fdM ["cell", "k"] []) (mM : mg "_law_mixed" = some (.ref fM)) (FD : Fun K "_law_draw" "_law_draw" sDraw fD fdD) (bD : Binds K fdD ["cell", "k"] []) (mD : mg "_law_draw" = some (.ref fD))
    (FI : Fun K "_law_digit" "_law_digit" sDigit fI fdI) (bI : Binds K fdI ["state", "below"] []) (mI : mg "_law_digit" = some (.ref fI)) (FK : Fun K "_law_kinds" "_law_kinds" sKinds fK fdK) (bK : Binds K fdK ["e"] []) (mK : mg "_law_kinds" = some (.ref fK))
    (FV : Fun K "_law_valued" "_law_valued" sValued fV fdV) (bV : Binds K fdV ["thing"] []) (mV : mg "_law_valued" = some (.ref fV)) (FP : Fun K "_law_placed" "_law_placed" sPlaced fP fdP) (bP : Binds K fdP ["thing"] []) (mP : mg "_law_placed" = some (.ref fP))
    (FR : Fun K "_law_right" "_law_right" sRight fR fdR) (bR : Binds K fdR ["thing"] []) (mR : mg "_law_right" = some (.ref fR)) (mRange : mg "range" = none) (mE : mg "enumerate" = none) (mSum : mg "sum" = none) (mStr : mg "str" = none) : FnOk P w K mg base CX0 5 f fd ["script"] (spLaw K) := by
  have GD : FnOk P w K mg base CX0 1 fD fdD ["cell", "k"] spDraw := ok_draw FD
  have GI : FnOk P w K mg base CX0 2 fI fdI ["state", "below"] spDigit := ok_digit FI FM bM mM mRange
  have GV := ok_valued (k := 0) FV T
  have GP := ok_placed (k := 0) FP T
  have GR : FnOk P w K mg base CX0 4 fR fdR ["thing"] (spRight K) := ok_right FR T FK bK mK FV bV mV FP bP mP
  obtain ⟨fI0, fd0, M0, G0, D0⟩ := T.mkE 0 (by decide)
  obtain ⟨fI1, fd1, M1, G1, D1⟩ := T.mkE 1 (by decide)
  obtain ⟨fI2, fd2, M2, G2, D2⟩ := T.mkE 2 (by decide)
  obtain ⟨fI3, fd3, M3, G3, D3⟩ := T.mkE 3 (by decide)
  obtain ⟨fI4, fd4, M4, G4, D4⟩ := T.mkE 4 (by decide)
  obtain ⟨fI5, fd5, M5, G5, D5⟩ := T.mkE 5 (by decide)
  obtain ⟨fI6, fd6, M6, G6, D6⟩ := T.mkE 6 (by decide)
  obtain ⟨fI7, fd7, M7, G7, D7⟩ := T.mkE 7 (by decide)
  obtain ⟨fI8, fd8, M8, G8, D8⟩ := T.mkE 8 (by decide)
  obtain ⟨fI9, fd9, M9, G9, D9⟩ := T.mkE 9 (by decide)
  obtain ⟨fI10, fd10, M10, G10, D10⟩ := T.mkE 10 (by decide)
  obtain ⟨fI11, fd11, M11, G11, D11⟩ := T.mkE 11 (by decide)
  obtain ⟨fI12, fd12, M12, G12, D12⟩ := T.mkE 12 (by decide)
  obtain ⟨fI13, fd13, M13, G13, D13⟩ := T.mkE 13 (by decide)
  obtain ⟨fI14, fd14, M14, G14, D14⟩ := T.mkE 14 (by decide)
  obtain ⟨fI15, fd15, M15, G15, D15⟩ := T.mkE 15 (by decide)
  obtain ⟨fI16, fd16, M16, G16, D16⟩ := T.mkE 16 (by decide)
  obtain ⟨fI17, fd17, M17, G17, D17⟩ := T.mkE 17 (by decide)
  obtain ⟨fI18, fd18, M18, G18, D18⟩ := T.mkE 18 (by decide)
  obtain ⟨fI19, fd19, M19, G19, D19⟩ := T.mkE 19 (by decide)
  obtain ⟨fI20, fd20, M20, G20, D20⟩ := T.mkE 20 (by decide)
  refine F.ok scLaw (fun vs H Q E h => ?_) (fun cdv A outer s H vs Q E hr h => ?_)
  · obtain ⟨a, ns, rfl, _⟩ := h
    rfl
  · obtain ⟨a, ns, rfl, hS, hlen, q⟩ := h
    have hr1 : Room 1 _ := hr.mono (by decide)
    have hr2 : Room 2 _ := hr.mono (by decide)
    have hr3 : Room 3 _ := hr.mono (by decide)
    have hu2 : (A.deeper (envOfC "law" (defScope sLaw) s.heap.objs.size f cdv)).units + 2 < cLine := by
      have := hr.units
      omega
    refine ⟨_, (pss_cons (ps_for PassesOwn.never rfl (pi_enum (by rfl) mE (pa_cons (pe_op op_cat (pe_slice sl_list (pv 0) po_none (po_some pe_int)) (pe_lst (pa_cons (pe_callB (cr_sum rfl) (by rfl) mSum boot_sum (pa_cons (pv 0) pa_nil)) pa_nil))) pa_nil)) (pg_tup rfl (pgs_cons (pg_name (i := 1) scLaw.nd rfl (.inl rfl)) (pgs_cons (pg_name (i := 2) scLaw.nd rfl (.inl rfl)) pgs_nil)))
      (pss_cons (ps_set (i := 3) scLaw.nd rfl (.inl rfl) (pe_call GD hr1 (by rfl) mD FD.kp bD .nil pass0 (pa_cons (pv 2) (pa_cons (pv 1) pa_nil))))
        (pss_cons (ps_set (i := 4) scLaw.nd rfl (.inl rfl) (pe_call GI hr2 (by rfl) mI FI.kp bI .nil pass0 (pa_cons (pv 3) (pa_cons pe_int pa_nil))))
        (pss_cons (ps_set (i := 5) scLaw.nd rfl (.inl rfl) (pe_lst (pa_cons (pv 4) (pa_cons (pe_op op_sub pe_int (pv 4)) (pa_cons (pe_op op_mulS pe_str (pe_op op_mod (pv 4) pe_int)) (pa_cons (pe_tup (pa_cons pe_str (pa_cons (pe_tup (pa_cons pe_int (pa_cons (pv 4) pa_nil))) pa_nil))) (pa_cons pe_non (pa_cons (pe_tup (pa_cons (pe_op op_pow pe_int pe_int) (pa_cons (pe_tup pa_nil) pa_nil))) (pa_cons (pe_op op_repT (pe_tup (pa_cons (pv 4) pa_nil)) pe_int) pa_nil)))))))))
        (pss_one (ps_if (PW.pt (pw_or (pt_not (pt_val (pe_call GR hr (by rfl) mR FR.kp bR .nil pass0 (pa_cons (pe_ix ix_list (pv 5) (pe_call GI hr2 (by rfl) mI FI.kp bI .nil pass0 (pa_cons (pv 3) (pa_cons pe_int pa_nil))) (fun _ _ => rfl)) pa_nil)))) (pw_or1 (pt_not (pt_val (pe_call GR hr (by rfl) mR FR.kp bR .nil pass0 (pa_cons (pe_op op_powW (pe_op op_powW (pe_op op_pow pe_int pe_int) pe_int) pe_int) pa_nil))))))) (pss_one (ps_ret pe_bl)) pss_nil))))))
      (pss_cons (ps_set (i := 5) scLaw.nd rfl (.inl rfl) (pe_lst (pa_cons (pe_x0 (T.xc 9 (by decide)) M9 (D9 (by decide)) G9 hr2 (by rfl) (T.mgC 9 (by decide)) pass0) (pa_cons (pe_x0 (T.xc 8 (by decide)) M8 (D8 (by decide)) G8 hr2 (by rfl) (T.mgC 8 (by decide)) pass0) (pa_cons (pe_x0 (T.xc 4 (by decide)) M4 (D4 (by decide)) G4 hr2 (by rfl) (T.mgC 4 (by decide)) pass0) (pa_cons (pe_x0 (T.xc 19 (by decide)) M19 (D19 (by decide)) G19 hr2 (by rfl) (T.mgC 19 (by decide)) pass0) pa_nil))))))
      (pss_cons (ps_set (i := 6) scLaw.nd rfl (.inl rfl) (pe_lst (pa_cons (pe_x0 (T.xc 3 (by decide)) M3 (D3 (by decide)) G3 hr2 (by rfl) (T.mgC 3 (by decide)) pass0) (pa_cons (pe_x0 (T.xc 13 (by decide)) M13 (D13 (by decide)) G13 hr2 (by rfl) (T.mgC 13 (by decide)) pass0) (pa_cons (pe_x0 (T.xc 17 (by decide)) M17 (D17 (by decide)) G17 hr2 (by rfl) (T.mgC 17 (by decide)) pass0) (pa_cons (pe_x0 (T.xc 12 (by decide)) M12 (D12 (by decide)) G12 hr2 (by rfl) (T.mgC 12 (by decide)) pass0) (pa_cons (pe_x0 (T.xc 18 (by decide)) M18 (D18 (by decide)) G18 hr2 (by rfl) (T.mgC 18 (by decide)) pass0) (pa_cons (pe_x0 (T.xc 10 (by decide)) M10 (D10 (by decide)) G10 hr2 (by rfl) (T.mgC 10 (by decide)) pass0) (pa_cons (pe_x0 (T.xc 6 (by decide)) M6 (D6 (by decide)) G6 hr2 (by rfl) (T.mgC 6 (by decide)) pass0) pa_nil)))))))))
      (pss_cons (ps_set (i := 6) scLaw.nd rfl (.inl rfl) (pe_op op_cat (pv 6) (pe_lst (pa_cons (pe_x0 (T.xc 14 (by decide)) M14 (D14 (by decide)) G14 hr2 (by rfl) (T.mgC 14 (by decide)) pass0) (pa_cons (pe_x0 (T.xc 0 (by decide)) M0 (D0 (by decide)) G0 hr2 (by rfl) (T.mgC 0 (by decide)) pass0) (pa_cons (pe_x0 (T.xc 15 (by decide)) M15 (D15 (by decide)) G15 hr2 (by rfl) (T.mgC 15 (by decide)) pass0) (pa_cons (pe_x0 (T.xc 1 (by decide)) M1 (D1 (by decide)) G1 hr2 (by rfl) (T.mgC 1 (by decide)) pass0) (pa_cons (pe_x0 (T.xc 11 (by decide)) M11 (D11 (by decide)) G11 hr2 (by rfl) (T.mgC 11 (by decide)) pass0) (pa_cons (pe_x0 (T.xc 5 (by decide)) M5 (D5 (by decide)) G5 hr2 (by rfl) (T.mgC 5 (by decide)) pass0) (pa_cons (pe_x0 (T.xc 16 (by decide)) M16 (D16 (by decide)) G16 hr2 (by rfl) (T.mgC 16 (by decide)) pass0) (pa_cons (pe_x0 (T.xc 7 (by decide)) M7 (D7 (by decide)) G7 hr2 (by rfl) (T.mgC 7 (by decide)) pass0) (pa_cons (pe_x0 (T.xc 2 (by decide)) M2 (D2 (by decide)) G2 hr2 (by rfl) (T.mgC 2 (by decide)) pass0) pa_nil))))))))))))
      (pss_cons (ps_if (PW.pt (pw_or (pt_cmpR (op_neD hr.units) (pe_lc (te := tXfld K "value" (tVar 10)) (own := [("e", 10)]) (g := gName 10) (tt := tYes) rfl scLaw.nd (pi_list (pv 5)) (blkOk_by (own := [("e", 10)]) (N := nLaw) (sc := defScope sLaw) (by decide +kernel)) (fun _ _ _ _ _ => (pg_name (i := 10) scLaw.nd rfl (.inl rfl))) (fun _ _ _ _ _ => pts_nil) (fun _ _ _ _ _ => by exact pe_xfld (pv 10))) (pe_op op_rep (pe_lst (pa_cons pe_non pa_nil)) pe_int) (nomark _)) (pw_or1 (pt_cmpR (op_neD hr.units) (pe_lc (te := tXfld K "place" (tVar 10)) (own := [("e", 10)]) (g := gName 10) (tt := tYes) rfl scLaw.nd (pi_list (pv 6)) (blkOk_by (own := [("e", 10)]) (N := nLaw) (sc := defScope sLaw) (by decide +kernel)) (fun _ _ _ _ _ => (pg_name (i := 10) scLaw.nd rfl (.inl rfl))) (fun _ _ _ _ _ => pts_nil) (fun _ _ _ _ _ => by exact pe_xfld (pv 10))) (pe_op op_rep (pe_lst (pa_cons pe_non pa_nil)) pe_int) (nomark _))))) (pss_one (ps_ret pe_bl)) pss_nil)
      (pss_cons (ps_set (i := 7) scLaw.nd rfl (.inl rfl) (pe_lst pa_nil))
      (pss_cons (ps_for PassesOwn.never rfl (pi_tup (pe_tup (pa_cons pe_str (pa_cons (pe_op op_pow pe_int pe_int) (pa_cons pe_int (pa_cons pe_str (pa_cons pe_str pa_nil))))))) (pg_name (i := 8) scLaw.nd rfl (.inl rfl))
      (pss_cons (ps_set (i := 9) scLaw.nd rfl (.inl rfl) (pe_op op_cat (pe_lc (own := [("one", 11), ("other", 12), ("name", 13)]) (g := gTup K 3 (gCons (gName 11) (gCons (gName 12) (gCons (gName 13) gNil)))) (tt := tYes) rfl scLaw.nd (pi_list (pe_op op_cat (pe_call GV hr3 (by rfl) mV FV.kp bV .nil pass0 (pa_cons (pv 8) pa_nil)) (pe_call GP hr3 (by rfl) mP FP.kp bP .nil pass0 (pa_cons (pv 8) pa_nil)))) (blkOk_by (own := [("one", 11), ("other", 12), ("name", 13)]) (N := nLaw) (sc := defScope sLaw) (by decide +kernel)) (fun _ _ _ _ _ => pg_tup rfl (pgs_cons (pg_name (i := 11) scLaw.nd rfl (.inl rfl)) (pgs_cons (pg_name (i := 12) scLaw.nd rfl (.inl rfl)) (pgs_cons (pg_name (i := 13) scLaw.nd rfl (.inl rfl)) pgs_nil)))) (fun _ _ _ _ _ => pts_nil) (fun _ _ _ _ _ => pv 11)) (pe_lst (pa_cons (pe_x1 (T.xc 19 (by decide)) M19 G19 hr2 (by rfl) (T.mgC 19 (by decide)) pass0 (pv 8)) (pa_cons (pe_x1 (T.xc 20 (by decide)) M20 G20 hr2 (by rfl) (T.mgC 20 (by decide)) pass0 (pv 8)) pa_nil)))))
      (pss_one (ps_expr (pe_bm PySem.F.plainAttrs_list PySem.F.slot_list_append PySem.F.type_list_append mt_append (pv 7) (pa_cons (pe_lc (te := tCB (rXstr K) (tCons (tVar 10) tNil)) (own := [("e", 10)]) (g := gName 10) (tt := tYes) rfl scLaw.nd (pi_list (pv 9)) (blkOk_by (own := [("e", 10)]) (N := nLaw) (sc := defScope sLaw) (by decide +kernel)) (fun _ _ _ _ _ => (pg_name (i := 10) scLaw.nd rfl (.inl rfl))) (fun _ _ _ _ _ => pts_nil) (fun _ _ _ _ _ => by exact pe_callTy (call_xstr (by exact hu2)) (by rfl) mStr PyProof.Rows.boot_str (pa_cons (pv 10) pa_nil))) pa_nil))))))
      (pss_one (ps_ret (pe_cmpR (op_eqD hr.units) (pv 7) (pe_op op_rep (pe_lst (pa_cons (pe_ix ix_list (pv 7) pe_int (fun _ _ => rfl)) pa_nil)) pe_int) (nomark _))))))))))), ?_⟩
    -- the loop over the cells
    refine ⟨_, rfl, 4, rfl, a, _, rfl, hS, fun p0 hp0 => ?_⟩
    have s0 := same_new (o := .lst (cutV (ns.map V.int) none (some 4))) hp0
    refine ⟨_, rfl, a, ns, rfl, s0.seq hS, (by show 1 ≤ sizeLine; decide), fun p1 hp1 => ?_⟩
    have s1 := same_new (o := .lst [.int ns.sum]) hp1
    have hcl : (cutV (ns.map V.int) none (some 4)).length ≤ 63 := Nat.le_trans (cutV_length _ _ _) (by rw [List.length_map]; exact hlen)
    refine ⟨p0, p1, _, _, rfl, rfl, s1 _ _ upd_same, upd_same, (by rw [sizeLine_eq]; show _ + 1 ≤ _; omega), fun c hc => ?_⟩
    have hcells : ∀ x ∈ cutV (ns.map V.int) none (some 4) ++ [V.int ns.sum], ∃ z, x = V.int z := by
      intro x hx
      rcases List.mem_append.mp hx with hx | hx
      · have h1 : x ∈ ns.map V.int := List.mem_of_mem_drop (List.mem_of_mem_take hx)
        obtain ⟨z, _, e⟩ := List.mem_map.mp h1
        exact ⟨z, e.symm⟩
      · exact ⟨ns.sum, by simpa using hx⟩
    have hcn : (cutV (ns.map V.int) none (some 4) ++ [V.int ns.sum]).length ≤ 64 := by rw [List.length_append]; show _ + 1 ≤ _; omega
    have ec0 : upd (upd (upd H p0 (.lst (cutV (ns.map V.int) none (some 4)))) p1 (.lst [.int ns.sum])) c (.lst (cutV (ns.map V.int) none (some 4) ++ [V.int ns.sum])) c = some (.lst (cutV (ns.map V.int) none (some 4) ++ [V.int ns.sum])) := upd_same
    revert ec0
    generalize upd (upd (upd H p0 (.lst (cutV (ns.map V.int) none (some 4)))) p1 (.lst [.int ns.sum])) c (.lst (cutV (ns.map V.int) none (some 4) ++ [V.int ns.sum])) = Hc
    revert hcells hcn
    generalize cutV (ns.map V.int) none (some 4) ++ [V.int ns.sum] = cells
    intro hcells hcn ec0
    refine ⟨c, cells, rfl, SqL.of ec0, for_enum (K := K) (a := c) (xs := cells) (fun i σ H' => ∃ y1 y2 y3 y4 y5, σ = [some (.ref a), y1, y2, y3, y4, y5, none, none, none, none, none, none, none, none] ∧ H' c = some (.lst cells))
      ⟨none, none, none, none, none, rfl, ec0⟩ (fun i σ H' _ h => by obtain ⟨_, _, _, _, _, _, e⟩ := h; exact SqL.of e) ?_ ?_⟩
    · rintro i x σ H' T hi ⟨y1, y2, y3, y4, y5, rfl, ec⟩ hT
      obtain ⟨cell, rfl⟩ := hcells x (List.mem_of_getElem? hi)
      have hi64 : i < 64 := Nat.lt_of_lt_of_le (List.getElem?_eq_some_iff.mp hi).1 hcn
      have ecT : upd H' T (.tup [.int (i : Nat), .int cell]) c = some (.lst cells) := by rw [upd_ne (ne_of_none ec hT)]; exact ec
      refine ⟨T, _, rfl, .inl (.inl upd_same), rfl, _, _, rfl, _, _, rfl, rfl, ?_⟩
      refine ⟨_, rfl, _, rfl, cell, i, rfl, by omega, by omega, fun l p H1 np sm e1 => ?_⟩
      have ec1 := sm _ _ ecT
      have ncp : c ≠ p := ne_of_none ecT np
      refine ⟨_, rfl, p, l, cell, 1000 * i, 100000, rfl, e1, by omega, by omega, by decide, by decide, fun r l' t' H2 r0 r1 t0 t1 e2 k2 => ?_⟩
      have ec2 := k2 _ _ ncp ec1
      -- some = [..]
      obtain ⟨n, hn50, hne⟩ : ∃ n : Nat, n < 50 ∧ r % 50 = n := ⟨(r % 50).toNat, by omega, by omega⟩
      obtain ⟨ok1, ok2⟩ := mulOk_ab n hn50
      refine ⟨_, rfl, _, rfl, 0, r, rfl, rfl, _, rfl, r, 50, rfl, rfl, (by show (0 : Int) < 50; decide), "ab", r % 50, rfl, rfl, by rw [hne]; exact ok1, ?_⟩
      refine ⟨_, rfl, (by show 2 ≤ sizeLine; decide), fun q1 hq1 => ⟨(by show 2 ≤ sizeLine; decide), fun q2 hq2 => ?_⟩⟩
      refine ⟨10, 30, rfl, rfl, ⟨by decide, by decide, by decide⟩, (Nat.zero_le _), fun q3 hq3 => ⟨(by show 2 ≤ sizeLine; decide), fun q4 hq4 => ?_⟩⟩
      refine ⟨_, rfl, (by show 1 ≤ sizeLine; decide), fun q5 hq5 => ?_⟩
      refine ⟨q5, 9, [.int r], rfl, rfl, .inl (.inl upd_same), (by simp), by decide, by decide, (by show 1 ≤ 1000; decide), fun q6 hq6 => ?_⟩
      refine ⟨(by show 7 ≤ sizeLine; decide), fun L hL => ?_⟩
      have z1 := same_new (o := .tup [.int 0, .int r]) hq1
      have z2 := same_new (o := .tup [.str "atom", .ref q1]) hq2
      have z3 := same_new (o := .tup []) hq3
      have z4 := same_new (o := .tup [.int ((10 : Int) ^ (30 : Int).toNat), .ref q3]) hq4
      have z5 := same_new (o := .tup [.int r]) hq5
      have z6 := same_new (o := .tup (List.replicate (9 : Int).toNat [V.int r]).flatten) hq6
      have z7 := same_new (o := .lst [.int r, .int (0 - r), .str (Txt.mul "ab" (r % 50)), .ref q2, .non, .ref q4, .ref q6]) hL
      have zz := (((((z1.trans z2).trans z3).trans z4).trans z5).trans z6).trans z7
      have e3 := zz _ _ e2
      have ec3 := zz _ _ ec2
      have eL : upd (upd (upd (upd (upd (upd (upd H2 q1 (.tup [.int 0, .int r])) q2 (.tup [.str "atom", .ref q1])) q3 (.tup [])) q4 (.tup [.int ((10 : Int) ^ (30 : Int).toNat), .ref q3])) q5 (.tup [.int r])) q6 (.tup (List.replicate (9 : Int).toNat [V.int r]).flatten)) L (.lst [.int r, .int (0 - r), .str (Txt.mul "ab" (r % 50)), .ref q2, .non, .ref q4, .ref q6]) L = some (.lst [.int r, .int (0 - r), .str (Txt.mul "ab" (r % 50)), .ref q2, .non, .ref q4, .ref q6]) := upd_same
      have eq1 := z7 _ _ (z6 _ _ (z5 _ _ (z4 _ _ (z3 _ _ (z2 _ _ (upd_same (H := H2) (a := q1) (o := .tup [.int 0, .int r])))))))
      have eq2 := z7 _ _ (z6 _ _ (z5 _ _ (z4 _ _ (z3 _ _ (upd_same (a := q2) (o := .tup [.str "atom", .ref q1]))))))
      have eq3 := z7 _ _ (z6 _ _ (z5 _ _ (z4 _ _ (upd_same (a := q3) (o := .tup [])))))
      have eq4 := z7 _ _ (z6 _ _ (z5 _ _ (upd_same (a := q4) (o := .tup [.int ((10 : Int) ^ (30 : Int).toNat), .ref q3]))))
      have eq6 := z7 _ _ (upd_same (a := q6) (o := .tup (List.replicate (9 : Int).toNat [V.int r]).flatten))
      revert e3 ec3 eL eq1 eq2 eq3 eq4 eq6
      generalize upd (upd (upd (upd (upd (upd (upd H2 q1 (.tup [.int 0, .int r])) q2 (.tup [.str "atom", .ref q1])) q3 (.tup [])) q4 (.tup [.int ((10 : Int) ^ (30 : Int).toNat), .ref q3])) q5 (.tup [.int r])) q6 (.tup (List.replicate (9 : Int).toNat [V.int r]).flatten)) L (.lst [.int r, .int (0 - r), .str (Txt.mul "ab" (r % 50)), .ref q2, .non, .ref q4, .ref q6]) = H3
      intro e3 ec3 eL eq1 eq2 eq3 eq4 eq6
      have nLp : L ≠ p := ne_of eL e3 (by intro z; cases z)
      refine ⟨_, rfl, _, rfl, p, l', cell, t', 7, rfl, e3, by omega, by omega, by decide, by decide, fun r2 l2 t2 H4 r20 r21 t20 t21 e4 k4 => ?_⟩
      have ec4 := k4 _ _ ncp ec3
      have eL4 := k4 _ _ nLp eL
      obtain ⟨j, hj, rfl⟩ := atI7 r20 r21
      obtain ⟨v, d, hv, hd, hsh⟩ : ∃ v d, ([.int r, .int (0 - r), .str (Txt.mul "ab" (r % 50)), .ref q2, .non, .ref q4, .ref q6] : List V)[j]? = some v ∧ Dp K H3 v d ∧ SeqAt.shaped d = true := by
        match j, hj with
        | 0, _ => exact ⟨_, _, rfl, .int r, sh_int r⟩
        | 1, _ => exact ⟨_, _, rfl, .int _, sh_int _⟩
        | 2, _ => exact ⟨_, _, rfl, .str _, sh_str (by rw [hne]; exact ok2)⟩
        | 3, _ => exact ⟨_, .tuple [.str "atom", .tuple [.int 0, .int r]], rfl, .tup (.inl (.inl eq2)) (.cons (.str _) (.cons (.tup (.inl (.inl eq1)) (.cons (.int _) (.cons (.int _) .nil))) .nil)), by
            have : PyData.strOk "atom" = true := by decide +kernel
            simp [SeqAt.shaped, PyData.canLay0, PyData.canLayAll0, PyData.depth, PyData.depthAll, this]⟩
        | 4, _ => exact ⟨_, _, rfl, .non, sh_none⟩
        | 5, _ => exact ⟨_, .tuple [.int ((10 : Int) ^ (30 : Int).toNat), .tuple []], rfl, .tup (.inl (.inl eq4)) (.cons (.int _) (.cons (.tup (.inl (.inl eq3)) .nil) .nil)), by simp [SeqAt.shaped, PyData.canLay0, PyData.canLayAll0, PyData.depth, PyData.depthAll]⟩
        | 6, _ => exact ⟨_, .tuple [.int r, .int r, .int r, .int r, .int r, .int r, .int r, .int r, .int r], rfl, .tup (.inl (.inl eq6)) (.cons (.int _) (.cons (.int _) (.cons (.int _) (.cons (.int _) (.cons (.int _) (.cons (.int _) (.cons (.int _) (.cons (.int _) (.cons (.int _) .nil))))))))), by simp [SeqAt.shaped, PyData.canLay0, PyData.canLayAll0, PyData.depth, PyData.depthAll]⟩
        | j + 7, h => exact absurd h (by omega)
      refine ⟨L, _, (j : Int), v, rfl, rfl, SqL.of eL4, atI_nat hv, ?_⟩
      refine ⟨v, d, rfl, dp_but e3 k4 hd, hsh, fun H5 s5 => ⟨true, rfl, iteF ?_⟩⟩
      refine ⟨10, 50, rfl, rfl, ⟨by decide, by decide, by decide⟩, (10 : Int) ^ (50 : Int).toNat, 50, rfl, rfl, by decide +kernel, ((10 : Int) ^ (50 : Int).toNat) ^ (50 : Int).toNat, 2, rfl, rfl, by decide +kernel, ?_⟩
      refine ⟨_, .int _, rfl, .int _, sh_int _, fun H6 s6 => ⟨true, rfl, iteF ?_⟩⟩
      exact ⟨_, _, _, _, _, rfl, s6 _ _ (s5 _ _ ec4)⟩
    rintro σ0 H0 ⟨y1, y2, y3, y4, y5, rfl, _⟩
    -- the errors made of nothing
    intro aS0 A0 nS0 xS0 uS0 aS1 A1 nS1 xS1 uS1 aS2 A2 nS2 xS2 uS2 aS3 A3 nS3 xS3 uS3
    refine ⟨(by show 4 ≤ sizeLine; decide), fun lS hlS => ?_⟩
    have uS4 := same_new (o := .lst [.ref aS0, .ref aS1, .ref aS2, .ref aS3]) hlS
    have eS : upd A3 lS (.lst [.ref aS0, .ref aS1, .ref aS2, .ref aS3]) lS = some (.lst [.ref aS0, .ref aS1, .ref aS2, .ref aS3]) := upd_same
    have rS : All2 (ErrAt C .non (upd A3 lS (.lst [.ref aS0, .ref aS1, .ref aS2, .ref aS3]))) [.ref aS0, .ref aS1, .ref aS2, .ref aS3] [9, 8, 4, 19] :=
      .cons ⟨_, rfl, (((xS0.same uS1).same uS2).same uS3).same uS4⟩ (.cons ⟨_, rfl, ((xS1.same uS2).same uS3).same uS4⟩ (.cons ⟨_, rfl, (xS2.same uS3).same uS4⟩ (.cons ⟨_, rfl, xS3.same uS4⟩ .nil)))
    revert eS rS
    generalize upd A3 lS (.lst [.ref aS0, .ref aS1, .ref aS2, .ref aS3]) = HS
    intro eS rS
    intro aT0 AT0 nT0 xT0 uT0 aT1 AT1 nT1 xT1 uT1 aT2 AT2 nT2 xT2 uT2 aT3 AT3 nT3 xT3 uT3 aT4 AT4 nT4 xT4 uT4 aT5 AT5 nT5 xT5 uT5 aT6 AT6 nT6 xT6 uT6
    refine ⟨(by show 7 ≤ sizeLine; decide), fun lT hlT => ?_⟩
    have uT7 := same_new (o := .lst [.ref aT0, .ref aT1, .ref aT2, .ref aT3, .ref aT4, .ref aT5, .ref aT6]) hlT
    have rT : All2 (ErrAt C .non (upd AT6 lT (.lst [.ref aT0, .ref aT1, .ref aT2, .ref aT3, .ref aT4, .ref aT5, .ref aT6]))) [.ref aT0, .ref aT1, .ref aT2, .ref aT3, .ref aT4, .ref aT5, .ref aT6] [3, 13, 17, 12, 18, 10, 6] := (.cons ⟨_, rfl, (((((((xT0.same uT1).same uT2).same uT3).same uT4).same uT5).same uT6).same uT7)⟩ (.cons ⟨_, rfl, ((((((xT1.same uT2).same uT3).same uT4).same uT5).same uT6).same uT7)⟩ (.cons ⟨_, rfl, (((((xT2.same uT3).same uT4).same uT5).same uT6).same uT7)⟩ (.cons ⟨_, rfl, ((((xT3.same uT4).same uT5).same uT6).same uT7)⟩ (.cons ⟨_, rfl, (((xT4.same uT5).same uT6).same uT7)⟩ (.cons ⟨_, rfl, ((xT5.same uT6).same uT7)⟩ (.cons ⟨_, rfl, (xT6.same uT7)⟩ .nil)))))))
    have sT : Same HS (upd AT6 lT (.lst [.ref aT0, .ref aT1, .ref aT2, .ref aT3, .ref aT4, .ref aT5, .ref aT6])) := (Same.trans (Same.trans (Same.trans (Same.trans (Same.trans (Same.trans (Same.trans uT0 uT1) uT2) uT3) uT4) uT5) uT6) uT7)
    have eT : upd AT6 lT (.lst [.ref aT0, .ref aT1, .ref aT2, .ref aT3, .ref aT4, .ref aT5, .ref aT6]) lT = some (.lst [.ref aT0, .ref aT1, .ref aT2, .ref aT3, .ref aT4, .ref aT5, .ref aT6]) := upd_same
    have eS1 := sT _ _ eS
    have rS1 := rS.imp fun _ _ z => z.same sT
    revert rT eT eS1 rS1
    generalize upd AT6 lT (.lst [.ref aT0, .ref aT1, .ref aT2, .ref aT3, .ref aT4, .ref aT5, .ref aT6]) = HT
    intro rT eT eS1 rS1
    refine ⟨_, rfl, ?_⟩
    intro aU0 AU0 nU0 xU0 uU0 aU1 AU1 nU1 xU1 uU1 aU2 AU2 nU2 xU2 uU2 aU3 AU3 nU3 xU3 uU3 aU4 AU4 nU4 xU4 uU4 aU5 AU5 nU5 xU5 uU5 aU6 AU6 nU6 xU6 uU6 aU7 AU7 nU7 xU7 uU7 aU8 AU8 nU8 xU8 uU8
    refine ⟨(by show 9 ≤ sizeLine; decide), fun lU hlU => ?_⟩
    have uU9 := same_new (o := .lst [.ref aU0, .ref aU1, .ref aU2, .ref aU3, .ref aU4, .ref aU5, .ref aU6, .ref aU7, .ref aU8]) hlU
    have sU : Same HT (upd AU8 lU (.lst [.ref aU0, .ref aU1, .ref aU2, .ref aU3, .ref aU4, .ref aU5, .ref aU6, .ref aU7, .ref aU8])) := (Same.trans (Same.trans (Same.trans (Same.trans (Same.trans (Same.trans (Same.trans (Same.trans (Same.trans uU0 uU1) uU2) uU3) uU4) uU5) uU6) uU7) uU8) uU9)
    refine ⟨lT, lU, _, _, rfl, rfl, sU _ _ eT, upd_same, (by show 16 ≤ sizeLine; decide), fun lW hlW => ?_⟩
    have uU10 := same_new (o := .lst ([.ref aT0, .ref aT1, .ref aT2, .ref aT3, .ref aT4, .ref aT5, .ref aT6] ++ [.ref aU0, .ref aU1, .ref aU2, .ref aU3, .ref aU4, .ref aU5, .ref aU6, .ref aU7, .ref aU8])) hlW
    have sW := Same.trans sU uU10
    have rW := (rT.imp fun _ _ z => z.same sW).app (show All2 (ErrAt C .non _) [.ref aU0, .ref aU1, .ref aU2, .ref aU3, .ref aU4, .ref aU5, .ref aU6, .ref aU7, .ref aU8] [14, 0, 15, 1, 11, 5, 16, 7, 2] from (.cons ⟨_, rfl, ((((((((((xU0.same uU1).same uU2).same uU3).same uU4).same uU5).same uU6).same uU7).same uU8).same uU9).same uU10)⟩ (.cons ⟨_, rfl, (((((((((xU1.same uU2).same uU3).same uU4).same uU5).same uU6).same uU7).same uU8).same uU9).same uU10)⟩ (.cons ⟨_, rfl, ((((((((xU2.same uU3).same uU4).same uU5).same uU6).same uU7).same uU8).same uU9).same uU10)⟩ (.cons ⟨_, rfl, (((((((xU3.same uU4).same uU5).same uU6).same uU7).same uU8).same uU9).same uU10)⟩ (.cons ⟨_, rfl, ((((((xU4.same uU5).same uU6).same uU7).same uU8).same uU9).same uU10)⟩ (.cons ⟨_, rfl, (((((xU5.same uU6).same uU7).same uU8).same uU9).same uU10)⟩ (.cons ⟨_, rfl, ((((xU6.same uU7).same uU8).same uU9).same uU10)⟩ (.cons ⟨_, rfl, (((xU7.same uU8).same uU9).same uU10)⟩ (.cons ⟨_, rfl, ((xU8.same uU9).same uU10)⟩ .nil))))))))))
    have eW : upd (upd AU8 lU (.lst [.ref aU0, .ref aU1, .ref aU2, .ref aU3, .ref aU4, .ref aU5, .ref aU6, .ref aU7, .ref aU8])) lW (.lst ([.ref aT0, .ref aT1, .ref aT2, .ref aT3, .ref aT4, .ref aT5, .ref aT6] ++ [.ref aU0, .ref aU1, .ref aU2, .ref aU3, .ref aU4, .ref aU5, .ref aU6, .ref aU7, .ref aU8])) lW = some (.lst ([.ref aT0, .ref aT1, .ref aT2, .ref aT3, .ref aT4, .ref aT5, .ref aT6] ++ [.ref aU0, .ref aU1, .ref aU2, .ref aU3, .ref aU4, .ref aU5, .ref aU6, .ref aU7, .ref aU8])) := upd_same
    have eS2 := sW _ _ eS1
    have rS2 := rS1.imp fun _ _ z => z.same sW
    refine rd_nones (T := T) (j := 5) (is := [9, 8, 4, 19]) rfl rfl eS2 rS2 (by decide +kernel) (by show 4 ≤ 100; decide) rfl (by show SeqAt.shaped (.list (List.replicate 4 .none)) = true; decide +kernel) fun H1 s1 => iteF ?_
    refine rd_nones (T := T) (j := 6) (is := [3, 13, 17, 12, 18, 10, 6, 14, 0, 15, 1, 11, 5, 16, 7, 2]) rfl rfl (s1 _ _ eW) (rW.imp fun _ _ z => z.same s1) (by decide +kernel) (by show 16 ≤ 100; decide) rfl (by show SeqAt.shaped (.list (List.replicate 16 .none)) = true; decide +kernel) fun H2 s2 => iteF ?_
    -- the texts
    refine ⟨(Nat.zero_le _), fun r hr0 => ?_⟩
    have s3 := same_new (o := .lst []) hr0
    refine ⟨10, 30, rfl, rfl, ⟨by decide, by decide, by decide⟩, (by show 5 ≤ sizeLine; decide), fun tt htt => ?_⟩
    have s4 := same_new (o := .tup [.str "zqzq", .int ((10 : Int) ^ (30 : Int).toNat), .int 70707, .str "", .str "deed"]) htt
    refine ⟨tt, rfl, ⟨_, .inl (.inl upd_same)⟩, for_tup (K := K) (a := tt) (xs := [.str "zqzq", .int ((10 : Int) ^ (30 : Int).toNat), .int 70707, .str "", .str "deed"])
      (fun j σ H' => ∃ y1 y2 y3 y4 y5 y6 y8 y9 ps, σ = [some (.ref a), y1, y2, y3, y4, y5, y6, some (.ref r), y8, y9, none, none, none, none] ∧ H' tt = some (.tup [.str "zqzq", .int ((10 : Int) ^ (30 : Int).toNat), .int 70707, .str "", .str "deed"]) ∧
        ps.length = j ∧ H' r = some (.lst (ps.map V.ref)) ∧ ∀ p ∈ ps, H' p = some (.lst (texts.map V.str)))
      ⟨_, _, _, _, _, _, _, _, [], rfl, upd_same, rfl, s4 _ _ upd_same, fun p hp => by cases hp⟩ (fun j σ H' _ h => by obtain ⟨_, _, _, _, _, _, _, _, _, _, e, _⟩ := h; exact .inl (.inl e)) ?_ ?_⟩
    · rintro j x σ H' hj ⟨y1, y2, y3, y4, y5, y6, y8, y9, ps, rfl, et, hpl, er, hps⟩
      have hj5 : j < 5 := (List.getElem?_eq_some_iff.mp hj).1
      refine ⟨_, rfl, x, rfl, fun p1 B1 xs1 n1 t1 e1 r1 => ?_⟩
      refine ⟨_, rfl, x, rfl, fun p2 B2 xs2 n2 t2 e2 r2 => ?_⟩
      have hz : xs1.length + xs2.length ≤ sizeLine := by rw [r1.len, r2.len]; decide
      refine ⟨p1, p2, xs1, xs2, rfl, rfl, t2 _ _ e1, e2, hz, fun p3 hp3 => ?_⟩
      have t3 := same_new (o := .lst (xs1 ++ xs2)) hp3
      have r12 := (r1.imp fun _ _ z => z.same (Same.trans t2 t3)).app (r2.imp fun _ _ z => z.same t3)
      have tB : Same H' (upd B2 p3 (.lst (xs1 ++ xs2))) := Same.trans (Same.trans t1 t2) t3
      have e3 : upd B2 p3 (.lst (xs1 ++ xs2)) p3 = some (.lst (xs1 ++ xs2)) := upd_same
      revert r12 tB e3
      generalize upd B2 p3 (.lst (xs1 ++ xs2)) = B3
      intro r12 tB e3
      refine ⟨p3, rfl, ⟨_, SqL.of e3⟩, fun D hD => ?_⟩
      refine lc_list (K := K) (a := p3) (xs := xs1 ++ xs2) (fun m G => Same B3 G ∧ ∃ ys, G D = some (.lst ys) ∧ All2 (ErrAt C x G) ys (([9, 8, 4] ++ [3, 13, 17, 12, 18, 10, 6, 14, 0, 15, 1, 11, 5, 16, 7, 2]).take m)) ⟨same_new hD, [], upd_same, .nil⟩ (fun m G _ h => SqL.of (h.1 _ _ e3)) (fun m y G hy h => ?_) (fun G h => ?_)
      · obtain ⟨sm, ys, eD, ra⟩ := h
        obtain ⟨i, hi, t, b1, b2, rfl, ht, xa, xb⟩ := r12.get m y hy
        refine ⟨t, _, rfl, .inl (.inl (sm _ _ ht)), rfl, _, _, rfl, _, _, rfl, _, _, rfl, rfl, rfl, tYes_at (iteT ⟨_, rfl, ys, eD, ?_, ?_, ys ++ [.ref b1], upd_same, ?_⟩)⟩
        · rw [ra.len, List.length_take]
          exact Nat.lt_of_le_of_lt (Nat.min_le_right _ _) (by decide)
        · intro b o e
          by_cases hb : b = D
          · rw [hb, hD] at e; cases e
          · rw [upd_ne hb]; exact sm _ _ e
        · have smD : Same G (upd G D (.lst (ys ++ [.ref b1]))) → True := fun _ => trivial
          have lift : ∀ (v : V) (q : Nat), ErrAt C x G v q → ErrAt C x (upd G D (.lst (ys ++ [.ref b1]))) v q := by
            rintro v q ⟨c, rfl, tq, dq, g1, g2, g3⟩
            have nd : ∀ {o : HO} {b : Addr}, G b = some o → (∀ z, o ≠ .lst z) → b ≠ D := fun e n z => by rw [z, eD] at e; exact n _ (Option.some.inj e).symm
            refine ⟨c, rfl, tq, dq, ?_, ?_, ?_⟩
            · rw [upd_ne (nd g1 (fun z => by intro w'; have w2 : HO.ext _ = HO.lst z := w'; cases w2))]; exact g1
            · rw [upd_ne (nd g2 (fun z => by intro w'; cases w'))]; exact g2
            · rw [upd_ne (nd g3 (fun z => by intro w'; have w2 : HO.ext _ = HO.lst z := w'; cases w2))]; exact g3
          rw [List.take_add_one, hi]
          exact (ra.imp lift).app (.cons (lift _ _ ⟨b1, rfl, xa.same sm⟩) .nil)
      obtain ⟨sG, ys, eD, ra⟩ := h
      rw [List.take_of_length_le (by rw [r12.len]; exact Nat.le_refl _)] at ra
      refine ⟨_, rfl, fun c1 G1 m1 x1 v1 => ⟨_, rfl, fun c2 G2 m2 x2 v2 => ⟨(by show 2 ≤ sizeLine; decide), fun l4 hl4 => ?_⟩⟩⟩
      have v3 := same_new (o := .lst [.ref c1, .ref c2]) hl4
      have v13 := Same.trans (Same.trans v1 v2) v3
      refine ⟨D, l4, ys, _, rfl, rfl, v13 _ _ eD, upd_same, (by rw [ra.len]; show 19 + 2 ≤ sizeLine; decide), fun l5 hl5 => ?_⟩
      have v4 := same_new (o := .lst (ys ++ [.ref c1, .ref c2])) hl5
      have v14 := Same.trans v13 v4
      have rb := (ra.imp fun _ _ z => z.same v14).app (.cons ⟨c1, rfl, ((x1.same v2).same v3).same v4⟩ (.cons ⟨c2, rfl, (x2.same v3).same v4⟩ .nil) : All2 (ErrAt C x (upd (upd G2 l4 (.lst [.ref c1, .ref c2])) l5 (.lst (ys ++ [.ref c1, .ref c2])))) [.ref c1, .ref c2] [19, 20])
      have e5 : upd (upd G2 l4 (.lst [.ref c1, .ref c2])) l5 (.lst (ys ++ [.ref c1, .ref c2])) l5 = some (.lst (ys ++ [.ref c1, .ref c2])) := upd_same
      have sK : Same H' (upd (upd G2 l4 (.lst [.ref c1, .ref c2])) l5 (.lst (ys ++ [.ref c1, .ref c2]))) := Same.trans (Same.trans tB sG) v14
      revert rb e5 sK
      generalize upd (upd G2 l4 (.lst [.ref c1, .ref c2])) l5 (.lst (ys ++ [.ref c1, .ref c2])) = H5
      generalize ys ++ [V.ref c1, V.ref c2] = es
      intro rb e5 sK
      -- rows.append([str(e) for e in made])
      refine ⟨_, rfl, .inl ⟨rfl, _, SqL.of (sK _ _ er)⟩, ?_⟩
      refine ⟨_, rfl, l5, rfl, ⟨_, SqL.of e5⟩, fun D2 hD2 => ?_⟩
      refine lc_list (K := K) (a := l5) (xs := es) (fun m G => Same H5 G ∧ G D2 = some (.lst ((texts.take m).map V.str))) ⟨same_new hD2, upd_same⟩ (fun m G _ h => SqL.of (h.1 _ _ e5)) (fun m y G hy h => ?_) (fun G h => ?_)
      · obtain ⟨sm, eD2⟩ := h
        obtain ⟨i, hi, b1, rfl, xa⟩ := rb.get m y hy
        have h21 : i < 21 := by
          have key : ∀ i ∈ ([9, 8, 4] ++ [3, 13, 17, 12, 18, 10, 6, 14, 0, 15, 1, 11, 5, 16, 7, 2] ++ [19, 20] : List Nat), i < 21 := by decide
          exact key i (List.mem_of_getElem? hi)
        refine ⟨rfl, tYes_at (iteT ⟨_, rfl, b1, C i, ms i, fl i, x, ids i, rfl, T.xc i h21, xa.same sm, _, eD2, ?_, ?_, ?_⟩)⟩
        · rw [List.length_map, List.length_take]
          exact Nat.lt_of_le_of_lt (Nat.min_le_right _ _) (by decide +kernel)
        · intro b o e
          by_cases hb : b = D2
          · rw [hb, hD2] at e; cases e
          · rw [upd_ne hb]; exact sm _ _ e
        · rw [upd_same, List.take_add_one, show texts[m]? = some (ms i) by unfold texts; rw [List.getElem?_map, hi]; rfl, List.map_append]
          rfl
      obtain ⟨sG2, eD2⟩ := h
      have hel : es.length = 21 := rb.len
      rw [hel, show texts.take 21 = texts by decide +kernel] at eD2
      have er2 := sG2 _ _ (sK _ _ er)
      have nrD : r ≠ D2 := ne_of_none (sK _ _ er) hD2
      refine ⟨r, _, _, rfl, rfl, er2, (by rw [List.length_map, hpl, sizeLine_eq]; omega), ?_⟩
      have hpr : ∀ p ∈ ps, p ≠ r := fun p hp z => by
        have e1 := hps p hp
        rw [z, er] at e1
        have e2 := HO.lst.inj (Option.some.inj e1)
        cases ps with
        | nil => cases hp
        | cons p0 pr =>
          have := congrArg List.head? e2
          cases this
      refine ⟨_, _, _, _, _, _, _, _, ps ++ [D2], rfl, ?_, by rw [List.length_append, hpl]; rfl, by rw [upd_same, List.map_append]; rfl, fun p hp => ?_⟩
      · rw [upd_ne (ne_of et er (by intro z; cases z))]
        exact sG2 _ _ (sK _ _ et)
      · rcases List.mem_append.mp hp with hp | hp
        · rw [upd_ne (hpr p hp)]
          exact sG2 _ _ (sK _ _ (hps p hp))
        · have e : p = D2 := by simpa using hp
          rw [e, upd_ne nrD.symm]
          exact eD2
    rintro σ5 H5 ⟨y1, y2, y3, y4, y5, y6, y8, y9, ps, rfl, et, hpl, er, hps⟩
    -- rows == [rows[0]] * 5
    match ps, hpl, er, hps with
    | [p0, p1, p2, p3, p4], _, er, hps =>
      refine ⟨_, rfl, _, rfl, r, _, 0, .ref p0, rfl, rfl, SqL.of er, atI_nat (j := 0) rfl, (by show 1 ≤ sizeLine; decide), fun m hm => ?_⟩
      have w1 := same_new (o := .lst [.ref p0]) hm
      refine ⟨m, 5, [.ref p0], rfl, rfl, upd_same, by decide, by decide, (by show 5 ≤ sizeLine; decide), fun m2 hm2 => ?_⟩
      have w2 := same_new (o := .lst (List.replicate (5 : Int).toNat [V.ref p0]).flatten) hm2
      have w12 := Same.trans w1 w2
      have dr : ∀ p ∈ [p0, p1, p2, p3, p4], Dp K (upd (upd H5 m (.lst [.ref p0])) m2 (.lst (List.replicate (5 : Int).toNat [V.ref p0]).flatten)) (.ref p) (.list (texts.map PyData.str)) := fun p hp => .lst (.inl (.inl (w12 _ _ (hps p hp)))) (dp_strs _)
      have hsh : SeqAt.shaped (.list [.list (texts.map PyData.str), .list (texts.map PyData.str), .list (texts.map PyData.str), .list (texts.map PyData.str), .list (texts.map PyData.str)]) = true := by decide +kernel
      refine ⟨_, _, .lst (.inl (.inl (w12 _ _ er))) (.cons (dr p0 (by simp)) (.cons (dr p1 (by simp)) (.cons (dr p2 (by simp)) (.cons (dr p3 (by simp)) (.cons (dr p4 (by simp)) .nil))))),
        .lst (.inl (.inl upd_same)) (.cons (dr p0 (by simp)) (.cons (dr p0 (by simp)) (.cons (dr p0 (by simp)) (.cons (dr p0 (by simp)) (.cons (dr p0 (by simp)) .nil))))), hsh, hsh, ?_⟩
      rw [SeqAt.eqv_refl _ (SeqAt.canLay_of_shaped hsh)]
      exact q _

end
end K99

namespace K99
open PySem PySem.Spec PyProof.Rows L2 XV
def tl (i : Nat) : List Value := if i < 19 then PySem.HandSPX.veTail else if i = 19 then luTail else ofTail
def bss (i : Nat) : String := if i < 19 then "ValueError" else if i = 19 then "LookupError" else "OverflowError"
def nws (i : Nat) : String := if i < 19 then "ValueError.__new__" else if i = 19 then "LookupError.__new__" else "OverflowError.__new__"
def csOf (S : Addr) (i : Nat) : List Addr := if i < 19 then [S] else []
theorem base_of : ∀ i, i < 21 → Base (bss i) (nws i) (ids i) (tl i) := by
  intro i hi
  by_cases h : i < 19
  · rw [ids_ve i h]; unfold bss nws tl; rw [if_pos h, if_pos h, if_pos h]; exact base_VE
  · by_cases h2 : i = 19
    · subst h2; exact base_LU
    · have : i = 20 := by omega
      subst this; exact base_OF
/-- the class object as it stands -/
def IsX (K : PySem.W.Frag) (S C : Addr) (i : Nat) : Prop := ∃ (nm q : Str) (N : Addr) (bs : List Value) (sn : List Str) (sub : List Value) (ab : Bool) (col : Option Bool) (dd : Option Addr) (k0 k1 k2 k3 k5 : Option Value),
  K.lookup C = some (excClassObj nm q C N bs ((csOf S i).map Value.ref ++ tl i) true sn sub ab col dd k0 k1 k2 k3 k5 (nws i))
theorem cls_x {K : PySem.W.Frag} {C N : Addr} {nm q : Str} {bs bm : List Value} {sn : List Str} {sub : List Value} {ab : Bool} {col : Option Bool} {dd : Option Addr} {k0 k1 k2 k3 k5 : Option Value} {n : String} (h : K.lookup C = some (excClassObj nm q C N bs bm true sn sub ab col dd k0 k1 k2 k3 k5 n)) :
    ∃ cd, PySem.W.clsIn K C = some cd ∧ cd.mro = .ref C :: bm ∧ cd.hasDict = true ∧ PySem.W.typeIn K (.ref C) = some (.type "type") := by
  refine ⟨_, (by unfold PySem.W.clsIn; rw [h] <;> rfl), rfl, rfl, ?_⟩
  show (K.lookup C).map (·.cls) = _
  rw [h]; rfl
theorem sub_x {K : PySem.W.Frag} {C : Addr} {cd : ClassData} {bm : List Value} (h : PySem.W.clsIn K C = some cd) (hm : cd.mro = .ref C :: bm) (b : Value) : PySem.W.subIn K (.ref C) b = some ((Value.ref C :: bm).contains b) := by
  show PySem.W.mroIn K C b = _
  unfold PySem.W.mroIn
  rw [h, Option.bind_some, hm]
  rfl
theorem one_xc {K : PySem.W.Frag} {S C : Addr} {i : Nat} (hi : i < 21) (x : IsX K S C i) (sa : PySem.W.findIn K (.ref C) "__setattr__" = some (some (.builtin "object.__setattr__"))) (ga : PySem.W.findIn K (.ref C) "__getattribute__" = some (some (.builtin "BaseException.__getattribute__")))
    (gg : PySem.W.findIn K (.ref C) "__getattr__" = some none) (st : PySem.W.findIn K (.ref C) "__str__" = some (some (.builtin "BaseException.__str__"))) (ca : PySem.W.findIn K (.ref C) "__class__" = some (some (.builtin "object.__class__"))) (kC : PySem.W.keepIn K (.ref C) = true) : XCls K C (ids i) := by
  obtain ⟨nm, q, N, bs, sn, sub, ab, col, dd, k0, k1, k2, k3, k5, h⟩ := x
  obtain ⟨cd, h1, h2, h3, h4⟩ := cls_x h
  have hb := base_of i hi
  refine ⟨⟨bss i, nws i, tl i, nm, q, N, bs, csOf S i, sn, sub, ab, col, dd, k0, k1, k2, k3, k5, hb, h⟩, sa, ga, gg, st, ca, ?_, kC, ?_, ?_⟩
  · rw [sub_x h1 h2]
    exact congrArg some ((refs_contains "BaseException" (tl i) (C :: csOf S i)).trans hb.ex)
  · unfold PySem.W.hasDictIn
    rw [h1]; exact h3
  · have z := sub_x h1 h2 (.type "object")
    exact z.trans (congrArg some ((refs_contains "object" (tl i) (C :: csOf S i)).trans hb.ob))
theorem kit_own {K : PySem.W.Frag} {S C D : Addr} {i j : Nat} (x : IsX K S C i) (y : IsX K S D j) (hd : i = j → C = D) (hn : i ≠ j → C ≠ D) (hS : D ≠ S) : PySem.W.kitOne K (.ref C) (.ref D) = some (decide (i = j)) := by
  by_cases e : i = j
  · have e2 := hd e
    subst e2
    unfold PySem.W.kitOne
    rw [if_pos (by simp), decide_eq_true e]
  · have e2 := hn e
    obtain ⟨nm, q, N, bs, sn, sub, ab, col, dd, k0, k1, k2, k3, k5, h⟩ := x
    obtain ⟨cd, h1, h2, h3, h4⟩ := cls_x h
    obtain ⟨nm', q', N', bs', sn', sub', ab', col', dd', k0', k1', k2', k3', k5', h'⟩ := y
    obtain ⟨cd', h1', h2', h3', h4'⟩ := cls_x h'
    unfold PySem.W.kitOne
    rw [if_neg (by simp [e2])]
    show (if ((PySem.W.clsIn K D).isSome && PySem.W.typeIn K (.ref D) == some (.type "type")) = true then PySem.W.subIn K (.ref C) (.ref D) else none) = _
    rw [h1', h4', if_pos (by rfl), sub_x h1 h2, decide_eq_false e]
    have : (Value.ref C :: ((csOf S i).map Value.ref ++ tl i)).contains (.ref D) = false := by
      unfold csOf tl
      by_cases a : i < 19
      · rw [if_pos a, if_pos a]
        simp [PySem.HandSPX.veTail, e2.symm, hS]
      · rw [if_neg a, if_neg a]
        by_cases b : i = 19
        · rw [if_pos b]; simp [luTail, e2.symm]
        · rw [if_neg b]; simp [ofTail, e2.symm]
    rw [this]
theorem kit_base {K : PySem.W.Frag} {S C : Addr} {i : Nat} (x : IsX K S C i) (hS : (PySem.W.isClsIn K S) = true) (tS : PySem.W.typeIn K (.ref S) = some (.type "type")) (hn : C ≠ S) : PySem.W.kitOne K (.ref C) (.ref S) = some (decide (i < 19)) := by
  obtain ⟨nm, q, N, bs, sn, sub, ab, col, dd, k0, k1, k2, k3, k5, h⟩ := x
  obtain ⟨cd, h1, h2, h3, h4⟩ := cls_x h
  unfold PySem.W.kitOne
  rw [if_neg (by simp [hn])]
  show (if ((PySem.W.clsIn K S).isSome && PySem.W.typeIn K (.ref S) == some (.type "type")) = true then PySem.W.subIn K (.ref C) (.ref S) else none) = _
  have hS' : (PySem.W.clsIn K S).isSome = true := hS
  rw [hS', tS, if_pos (by rfl), sub_x h1 h2]
  unfold csOf tl
  by_cases a : i < 19
  · rw [if_pos a, if_pos a, decide_eq_true a]
    simp [PySem.HandSPX.veTail, hn.symm]
  · rw [if_neg a, if_neg a, decide_eq_false a]
    by_cases b : i = 19
    · rw [if_pos b]; simp [luTail, hn.symm]
    · rw [if_neg b]; simp [ofTail, hn.symm]
theorem kit_type {K : PySem.W.Frag} {S C : Addr} {i : Nat} (x : IsX K S C i) {T : String} {b : Bool} (hm : PySem.W.kitMeta T = true) (ht : (tl i).contains (.type T) = b) : PySem.W.kitOne K (.ref C) (.type T) = some b := by
  obtain ⟨nm, q, N, bs, sn, sub, ab, col, dd, k0, k1, k2, k3, k5, h⟩ := x
  obtain ⟨cd, h1, h2, h3, h4⟩ := cls_x h
  unfold PySem.W.kitOne
  rw [if_neg (by simp)]
  show (if PySem.W.kitMeta T = true then PySem.W.subIn K (.ref C) (.type T) else none) = _
  rw [if_pos hm, sub_x h1 h2]
  exact congrArg some ((refs_contains T (tl i) (C :: csOf S i)).trans ht)
theorem tl_V : ∀ i, i < 21 → (tl i).contains (.type "ValueError") = decide (i < 19) := by decide +kernel
theorem tl_L : ∀ i, i < 21 → (tl i).contains (.type "LookupError") = decide (i = 19) := by decide +kernel
theorem tl_O : ∀ i, i < 21 → (tl i).contains (.type "OverflowError") = decide (i = 20) := by decide +kernel
/-- one class as the top has written it -/
structure One (K : PySem.W.Frag) (mg : Str → Option Value) (S C : Addr) (i : Nat) : Prop where
  mgC : mg (nm i) = some (.ref C)
  isx : IsX K S C i
  xc : XCls K C (ids i)
  noF : PySem.W.findIn K (.ref C) (fl i) = some none
  mkE : ∃ fI fd, XMk K C fI fd (fl i) ∧ (∀ (P : Program) (w : World) (base : Heap), FnOk P w K mg base CX0 1 fI fd ["self", fl i] (spXI C (ms i) (fl i))) ∧ (i ≠ 20 → ∀ (s : Shared) (u : Value), K.In s.heap → BindsTo s fd ⟨[u], []⟩ [("self", u), (fl i, .none)])
section
variable {K : PySem.W.Frag} {mg : Str → Option Value} {h : Heap}
theorem one_BadNumber {C S fI TT N0 : Addr} {nm0 q0 : Str} {bs0 : List Value} {sn0 : List Str} {sub0 : List Value} {ab0 : Bool} {col0 : Option Bool} {dd0 : Option Addr} {m0 m1 m2 m3 m5 : Option Value} {oc kV dc pm cd ct oT : Value} {od an dT : Option Addr} {sl slT : Array (Option Value)} {nT : Nat} (X : K.In h) (G : h.Ns mainGlobals mg)
    (hm : mg "SlopeError" = some (.ref S)) (hga : PySem.W.specialIn K (.ref S) "__getattribute__" = some (some (.builtin "type.__getattribute__"))) (hrd : PySem.W.readsIn K S (.type "type") = true) (hf : PySem.W.findCls K (.ref S) (.type "type") "__init__" = some (.val (.builtin "ValueError.__init__")))
    (aC : PySem.W.nsIn K mainGlobals "BadNumber" = some (some (.ref C)))
    (xL : K.lookup C = some (excClassObj nm0 q0 C N0 bs0 [.ref S, .type "ValueError", .type "Exception", .type "BaseException", .type "object"] true sn0 sub0 ab0 col0 dd0 m0 m1 m2 m3 m5 "ValueError.__new__"))
    (sa : PySem.W.findIn K (.ref C) "__setattr__" = some (some (.builtin "object.__setattr__"))) (ga : PySem.W.findIn K (.ref C) "__getattribute__" = some (some (.builtin "BaseException.__getattribute__"))) (gg : PySem.W.findIn K (.ref C) "__getattr__" = some none)
    (st : PySem.W.findIn K (.ref C) "__str__" = some (some (.builtin "BaseException.__str__"))) (ca : PySem.W.findIn K (.ref C) "__class__" = some (some (.builtin "object.__class__"))) (kC : PySem.W.keepIn K (.ref C) = true) (nf : PySem.W.findIn K (.ref C) "value" = some none)
    (iI : PySem.W.findIn K (.ref C) "__init__" = some (some (.ref fI))) (tI : PySem.W.typeIn K (.ref fI) = some (.type "function"))
    (lI : K.lookup fI = some ⟨oc, od, .func (PySem.W.fnOf "__init__" "BadNumber.__init__" (defArgs sBadNumber) (defBody sBadNumber) (defScope sBadNumber) (.ref TT) kV dc pm an cd ct), sl⟩) (cI : PySem.W.codeIn K cd "BadNumber.__init__" = true) (kI : PySem.W.keepIn K (.ref fI) = true)
    (lT : K.lookup TT = some ⟨oT, dT, .seq [Value.none].toArray nT, slT⟩) : One K mg S C 9 := by
  have xx : IsX K S C 9 := ⟨_, _, _, _, _, _, _, _, _, _, _, _, _, _, xL⟩
  have xc : XCls K C "ValueError.__init__" := one_xc (i := 9) (by decide) xx sa ga gg st ca kC
  have F : FunD K "__init__" "BadNumber.__init__" (defArgs sBadNumber) (defBody sBadNumber) (defScope sBadNumber) [.non] [] fI _ := ⟨⟨_, _, _, _, _, _, _, _, _, _, rfl, lI, cI, .inr ⟨by simp, TT, _, _, _, rfl, lT, rfl, .cons rfl .nil⟩, .inl rfl⟩, kI⟩
  have bp : ∃ ds, Vals [] ds ∧ Binds K _ ["self", "value"] ds := F.binds1 (ps := ["self", "value"]) 2 1 (by simp) rfl (fun _ _ _ _ _ _ _ us its hl hi => match us, hl, its, hi with | [_, _], _, [_], _ => ⟨_, rfl, rfl⟩)
  have b0 : ∃ ds, Vals [.non] ds ∧ Binds K _ ["self", "value"] ds := F.binds1 (ps := ["self", "value"]) 1 0 (by simp) rfl (fun _ _ _ _ _ _ _ us its hl hi => match us, hl, its, hi with | [_], _, [_], _ => ⟨_, rfl, rfl⟩)
  obtain ⟨its, bk⟩ := F.kbindsD (ps := ["self", "value"]) 1 ["value"] (fun us _ ws => us ++ ws) (by simp) (fun r1 _ r3 => r1.append r3) (fun _ _ _ _ _ _ _ us its ws hl hi hw => match us, hl, its, hi, ws, hw with | [_], _, [_], _, [_], _ => ⟨_, rfl, rfl⟩)
  obtain ⟨ds1, v1, bp⟩ := bp
  obtain ⟨ds0, v0, b0⟩ := b0
  cases v1
  match ds0, v0, b0 with
  | [u0], .cons r0 .nil, b0 =>
    cases r0
    exact ⟨PySem.W.mg_of X G aC, xx, xc, nf, fI, _, ⟨iI, tI, fun s u v k => bp s [u, v] k rfl, fun s u v k => bk.to s [u] [v] k rfl rfl⟩, fun _ _ _ => ok_BadNumber F xc nf hm hga hrd hf, fun _ s u k => b0 s [u] k rfl⟩
theorem one_BadName {C S fI TT N0 : Addr} {nm0 q0 : Str} {bs0 : List Value} {sn0 : List Str} {sub0 : List Value} {ab0 : Bool} {col0 : Option Bool} {dd0 : Option Addr} {m0 m1 m2 m3 m5 : Option Value} {oc kV dc pm cd ct oT : Value} {od an dT : Option Addr} {sl slT : Array (Option Value)} {nT : Nat} (X : K.In h) (G : h.Ns mainGlobals mg)
    (hm : mg "SlopeError" = some (.ref S)) (hga : PySem.W.specialIn K (.ref S) "__getattribute__" = some (some (.builtin "type.__getattribute__"))) (hrd : PySem.W.readsIn K S (.type "type") = true) (hf : PySem.W.findCls K (.ref S) (.type "type") "__init__" = some (.val (.builtin "ValueError.__init__")))
    (aC : PySem.W.nsIn K mainGlobals "BadName" = some (some (.ref C)))
    (xL : K.lookup C = some (excClassObj nm0 q0 C N0 bs0 [.ref S, .type "ValueError", .type "Exception", .type "BaseException", .type "object"] true sn0 sub0 ab0 col0 dd0 m0 m1 m2 m3 m5 "ValueError.__new__"))
    (sa : PySem.W.findIn K (.ref C) "__setattr__" = some (some (.builtin "object.__setattr__"))) (ga : PySem.W.findIn K (.ref C) "__getattribute__" = some (some (.builtin "BaseException.__getattribute__"))) (gg : PySem.W.findIn K (.ref C) "__getattr__" = some none)
    (st : PySem.W.findIn K (.ref C) "__str__" = some (some (.builtin "BaseException.__str__"))) (ca : PySem.W.findIn K (.ref C) "__class__" = some (some (.builtin "object.__class__"))) (kC : PySem.W.keepIn K (.ref C) = true) (nf : PySem.W.findIn K (.ref C) "value" = some none)
    (iI : PySem.W.findIn K (.ref C) "__init__" = some (some (.ref fI))) (tI : PySem.W.typeIn K (.ref fI) = some (.type "function"))
    (lI : K.lookup fI = some ⟨oc, od, .func (PySem.W.fnOf "__init__" "BadName.__init__" (defArgs sBadName) (defBody sBadName) (defScope sBadName) (.ref TT) kV dc pm an cd ct), sl⟩) (cI : PySem.W.codeIn K cd "BadName.__init__" = true) (kI : PySem.W.keepIn K (.ref fI) = true)
    (lT : K.lookup TT = some ⟨oT, dT, .seq [Value.none].toArray nT, slT⟩) : One K mg S C 8 := by
  have xx : IsX K S C 8 := ⟨_, _, _, _, _, _, _, _, _, _, _, _, _, _, xL⟩
  have xc : XCls K C "ValueError.__init__" := one_xc (i := 8) (by decide) xx sa ga gg st ca kC
  have F : FunD K "__init__" "BadName.__init__" (defArgs sBadName) (defBody sBadName) (defScope sBadName) [.non] [] fI _ := ⟨⟨_, _, _, _, _, _, _, _, _, _, rfl, lI, cI, .inr ⟨by simp, TT, _, _, _, rfl, lT, rfl, .cons rfl .nil⟩, .inl rfl⟩, kI⟩
  have bp : ∃ ds, Vals [] ds ∧ Binds K _ ["self", "value"] ds := F.binds1 (ps := ["self", "value"]) 2 1 (by simp) rfl (fun _ _ _ _ _ _ _ us its hl hi => match us, hl, its, hi with | [_, _], _, [_], _ => ⟨_, rfl, rfl⟩)
  have b0 : ∃ ds, Vals [.non] ds ∧ Binds K _ ["self", "value"] ds := F.binds1 (ps := ["self", "value"]) 1 0 (by simp) rfl (fun _ _ _ _ _ _ _ us its hl hi => match us, hl, its, hi with | [_], _, [_], _ => ⟨_, rfl, rfl⟩)
  obtain ⟨its, bk⟩ := F.kbindsD (ps := ["self", "value"]) 1 ["value"] (fun us _ ws => us ++ ws) (by simp) (fun r1 _ r3 => r1.append r3) (fun _ _ _ _ _ _ _ us its ws hl hi hw => match us, hl, its, hi, ws, hw with | [_], _, [_], _, [_], _ => ⟨_, rfl, rfl⟩)
  obtain ⟨ds1, v1, bp⟩ := bp
  obtain ⟨ds0, v0, b0⟩ := b0
  cases v1
  match ds0, v0, b0 with
  | [u0], .cons r0 .nil, b0 =>
    cases r0
    exact ⟨PySem.W.mg_of X G aC, xx, xc, nf, fI, _, ⟨iI, tI, fun s u v k => bp s [u, v] k rfl, fun s u v k => bk.to s [u] [v] k rfl rfl⟩, fun _ _ _ => ok_BadName F xc nf hm hga hrd hf, fun _ s u k => b0 s [u] k rfl⟩
theorem one_BadFraction {C S fI TT N0 : Addr} {nm0 q0 : Str} {bs0 : List Value} {sn0 : List Str} {sub0 : List Value} {ab0 : Bool} {col0 : Option Bool} {dd0 : Option Addr} {m0 m1 m2 m3 m5 : Option Value} {oc kV dc pm cd ct oT : Value} {od an dT : Option Addr} {sl slT : Array (Option Value)} {nT : Nat} (X : K.In h) (G : h.Ns mainGlobals mg)
    (hm : mg "SlopeError" = some (.ref S)) (hga : PySem.W.specialIn K (.ref S) "__getattribute__" = some (some (.builtin "type.__getattribute__"))) (hrd : PySem.W.readsIn K S (.type "type") = true) (hf : PySem.W.findCls K (.ref S) (.type "type") "__init__" = some (.val (.builtin "ValueError.__init__")))
    (aC : PySem.W.nsIn K mainGlobals "BadFraction" = some (some (.ref C)))
    (xL : K.lookup C = some (excClassObj nm0 q0 C N0 bs0 [.ref S, .type "ValueError", .type "Exception", .type "BaseException", .type "object"] true sn0 sub0 ab0 col0 dd0 m0 m1 m2 m3 m5 "ValueError.__new__"))
    (sa : PySem.W.findIn K (.ref C) "__setattr__" = some (some (.builtin "object.__setattr__"))) (ga : PySem.W.findIn K (.ref C) "__getattribute__" = some (some (.builtin "BaseException.__getattribute__"))) (gg : PySem.W.findIn K (.ref C) "__getattr__" = some none)
    (st : PySem.W.findIn K (.ref C) "__str__" = some (some (.builtin "BaseException.__str__"))) (ca : PySem.W.findIn K (.ref C) "__class__" = some (some (.builtin "object.__class__"))) (kC : PySem.W.keepIn K (.ref C) = true) (nf : PySem.W.findIn K (.ref C) "value" = some none)
    (iI : PySem.W.findIn K (.ref C) "__init__" = some (some (.ref fI))) (tI : PySem.W.typeIn K (.ref fI) = some (.type "function"))
    (lI : K.lookup fI = some ⟨oc, od, .func (PySem.W.fnOf "__init__" "BadFraction.__init__" (defArgs sBadFraction) (defBody sBadFraction) (defScope sBadFraction) (.ref TT) kV dc pm an cd ct), sl⟩) (cI : PySem.W.codeIn K cd "BadFraction.__init__" = true) (kI : PySem.W.keepIn K (.ref fI) = true)
    (lT : K.lookup TT = some ⟨oT, dT, .seq [Value.none].toArray nT, slT⟩) : One K mg S C 4 := by
  have xx : IsX K S C 4 := ⟨_, _, _, _, _, _, _, _, _, _, _, _, _, _, xL⟩
  have xc : XCls K C "ValueError.__init__" := one_xc (i := 4) (by decide) xx sa ga gg st ca kC
  have F : FunD K "__init__" "BadFraction.__init__" (defArgs sBadFraction) (defBody sBadFraction) (defScope sBadFraction) [.non] [] fI _ := ⟨⟨_, _, _, _, _, _, _, _, _, _, rfl, lI, cI, .inr ⟨by simp, TT, _, _, _, rfl, lT, rfl, .cons rfl .nil⟩, .inl rfl⟩, kI⟩
  have bp : ∃ ds, Vals [] ds ∧ Binds K _ ["self", "value"] ds := F.binds1 (ps := ["self", "value"]) 2 1 (by simp) rfl (fun _ _ _ _ _ _ _ us its hl hi => match us, hl, its, hi with | [_, _], _, [_], _ => ⟨_, rfl, rfl⟩)
  have b0 : ∃ ds, Vals [.non] ds ∧ Binds K _ ["self", "value"] ds := F.binds1 (ps := ["self", "value"]) 1 0 (by simp) rfl (fun _ _ _ _ _ _ _ us its hl hi => match us, hl, its, hi with | [_], _, [_], _ => ⟨_, rfl, rfl⟩)
  obtain ⟨its, bk⟩ := F.kbindsD (ps := ["self", "value"]) 1 ["value"] (fun us _ ws => us ++ ws) (by simp) (fun r1 _ r3 => r1.append r3) (fun _ _ _ _ _ _ _ us its ws hl hi hw => match us, hl, its, hi, ws, hw with | [_], _, [_], _, [_], _ => ⟨_, rfl, rfl⟩)
  obtain ⟨ds1, v1, bp⟩ := bp
  obtain ⟨ds0, v0, b0⟩ := b0
  cases v1
  match ds0, v0, b0 with
  | [u0], .cons r0 .nil, b0 =>
    cases r0
    exact ⟨PySem.W.mg_of X G aC, xx, xc, nf, fI, _, ⟨iI, tI, fun s u v k => bp s [u, v] k rfl, fun s u v k => bk.to s [u] [v] k rfl rfl⟩, fun _ _ _ => ok_BadFraction F xc nf hm hga hrd hf, fun _ s u k => b0 s [u] k rfl⟩
theorem one_BadExpression {C S fI TT N0 : Addr} {nm0 q0 : Str} {bs0 : List Value} {sn0 : List Str} {sub0 : List Value} {ab0 : Bool} {col0 : Option Bool} {dd0 : Option Addr} {m0 m1 m2 m3 m5 : Option Value} {oc kV dc pm cd ct oT : Value} {od an dT : Option Addr} {sl slT : Array (Option Value)} {nT : Nat} (X : K.In h) (G : h.Ns mainGlobals mg)
    (hm : mg "SlopeError" = some (.ref S)) (hga : PySem.W.specialIn K (.ref S) "__getattribute__" = some (some (.builtin "type.__getattribute__"))) (hrd : PySem.W.readsIn K S (.type "type") = true) (hf : PySem.W.findCls K (.ref S) (.type "type") "__init__" = some (.val (.builtin "ValueError.__init__")))
    (aC : PySem.W.nsIn K mainGlobals "BadExpression" = some (some (.ref C)))
    (xL : K.lookup C = some (excClassObj nm0 q0 C N0 bs0 [.ref S, .type "ValueError", .type "Exception", .type "BaseException", .type "object"] true sn0 sub0 ab0 col0 dd0 m0 m1 m2 m3 m5 "ValueError.__new__"))
    (sa : PySem.W.findIn K (.ref C) "__setattr__" = some (some (.builtin "object.__setattr__"))) (ga : PySem.W.findIn K (.ref C) "__getattribute__" = some (some (.builtin "BaseException.__getattribute__"))) (gg : PySem.W.findIn K (.ref C) "__getattr__" = some none)
    (st : PySem.W.findIn K (.ref C) "__str__" = some (some (.builtin "BaseException.__str__"))) (ca : PySem.W.findIn K (.ref C) "__class__" = some (some (.builtin "object.__class__"))) (kC : PySem.W.keepIn K (.ref C) = true) (nf : PySem.W.findIn K (.ref C) "place" = some none)
    (iI : PySem.W.findIn K (.ref C) "__init__" = some (some (.ref fI))) (tI : PySem.W.typeIn K (.ref fI) = some (.type "function"))
    (lI : K.lookup fI = some ⟨oc, od, .func (PySem.W.fnOf "__init__" "BadExpression.__init__" (defArgs sBadExpression) (defBody sBadExpression) (defScope sBadExpression) (.ref TT) kV dc pm an cd ct), sl⟩) (cI : PySem.W.codeIn K cd "BadExpression.__init__" = true) (kI : PySem.W.keepIn K (.ref fI) = true)
    (lT : K.lookup TT = some ⟨oT, dT, .seq [Value.none].toArray nT, slT⟩) : One K mg S C 3 := by
  have xx : IsX K S C 3 := ⟨_, _, _, _, _, _, _, _, _, _, _, _, _, _, xL⟩
  have xc : XCls K C "ValueError.__init__" := one_xc (i := 3) (by decide) xx sa ga gg st ca kC
  have F : FunD K "__init__" "BadExpression.__init__" (defArgs sBadExpression) (defBody sBadExpression) (defScope sBadExpression) [.non] [] fI _ := ⟨⟨_, _, _, _, _, _, _, _, _, _, rfl, lI, cI, .inr ⟨by simp, TT, _, _, _, rfl, lT, rfl, .cons rfl .nil⟩, .inl rfl⟩, kI⟩
  have bp : ∃ ds, Vals [] ds ∧ Binds K _ ["self", "place"] ds := F.binds1 (ps := ["self", "place"]) 2 1 (by simp) rfl (fun _ _ _ _ _ _ _ us its hl hi => match us, hl, its, hi with | [_, _], _, [_], _ => ⟨_, rfl, rfl⟩)
  have b0 : ∃ ds, Vals [.non] ds ∧ Binds K _ ["self", "place"] ds := F.binds1 (ps := ["self", "place"]) 1 0 (by simp) rfl (fun _ _ _ _ _ _ _ us its hl hi => match us, hl, its, hi with | [_], _, [_], _ => ⟨_, rfl, rfl⟩)
  obtain ⟨its, bk⟩ := F.kbindsD (ps := ["self", "place"]) 1 ["place"] (fun us _ ws => us ++ ws) (by simp) (fun r1 _ r3 => r1.append r3) (fun _ _ _ _ _ _ _ us its ws hl hi hw => match us, hl, its, hi, ws, hw with | [_], _, [_], _, [_], _ => ⟨_, rfl, rfl⟩)
  obtain ⟨ds1, v1, bp⟩ := bp
  obtain ⟨ds0, v0, b0⟩ := b0
  cases v1
  match ds0, v0, b0 with
  | [u0], .cons r0 .nil, b0 =>
    cases r0
    exact ⟨PySem.W.mg_of X G aC, xx, xc, nf, fI, _, ⟨iI, tI, fun s u v k => bp s [u, v] k rfl, fun s u v k => bk.to s [u] [v] k rfl rfl⟩, fun _ _ _ => ok_BadExpression F xc nf hm hga hrd hf, fun _ s u k => b0 s [u] k rfl⟩
theorem one_BadProgram {C S fI TT N0 : Addr} {nm0 q0 : Str} {bs0 : List Value} {sn0 : List Str} {sub0 : List Value} {ab0 : Bool} {col0 : Option Bool} {dd0 : Option Addr} {m0 m1 m2 m3 m5 : Option Value} {oc kV dc pm cd ct oT : Value} {od an dT : Option Addr} {sl slT : Array (Option Value)} {nT : Nat} (X : K.In h) (G : h.Ns mainGlobals mg)
    (hm : mg "SlopeError" = some (.ref S)) (hga : PySem.W.specialIn K (.ref S) "__getattribute__" = some (some (.builtin "type.__getattribute__"))) (hrd : PySem.W.readsIn K S (.type "type") = true) (hf : PySem.W.findCls K (.ref S) (.type "type") "__init__" = some (.val (.builtin "ValueError.__init__")))
    (aC : PySem.W.nsIn K mainGlobals "BadProgram" = some (some (.ref C)))
    (xL : K.lookup C = some (excClassObj nm0 q0 C N0 bs0 [.ref S, .type "ValueError", .type "Exception", .type "BaseException", .type "object"] true sn0 sub0 ab0 col0 dd0 m0 m1 m2 m3 m5 "ValueError.__new__"))
    (sa : PySem.W.findIn K (.ref C) "__setattr__" = some (some (.builtin "object.__setattr__"))) (ga : PySem.W.findIn K (.ref C) "__getattribute__" = some (some (.builtin "BaseException.__getattribute__"))) (gg : PySem.W.findIn K (.ref C) "__getattr__" = some none)
    (st : PySem.W.findIn K (.ref C) "__str__" = some (some (.builtin "BaseException.__str__"))) (ca : PySem.W.findIn K (.ref C) "__class__" = some (some (.builtin "object.__class__"))) (kC : PySem.W.keepIn K (.ref C) = true) (nf : PySem.W.findIn K (.ref C) "place" = some none)
    (iI : PySem.W.findIn K (.ref C) "__init__" = some (some (.ref fI))) (tI : PySem.W.typeIn K (.ref fI) = some (.type "function"))
    (lI : K.lookup fI = some ⟨oc, od, .func (PySem.W.fnOf "__init__" "BadProgram.__init__" (defArgs sBadProgram) (defBody sBadProgram) (defScope sBadProgram) (.ref TT) kV dc pm an cd ct), sl⟩) (cI : PySem.W.codeIn K cd "BadProgram.__init__" = true) (kI : PySem.W.keepIn K (.ref fI) = true)
    (lT : K.lookup TT = some ⟨oT, dT, .seq [Value.none].toArray nT, slT⟩) : One K mg S C 13 := by
  have xx : IsX K S C 13 := ⟨_, _, _, _, _, _, _, _, _, _, _, _, _, _, xL⟩
  have xc : XCls K C "ValueError.__init__" := one_xc (i := 13) (by decide) xx sa ga gg st ca kC
  have F : FunD K "__init__" "BadProgram.__init__" (defArgs sBadProgram) (defBody sBadProgram) (defScope sBadProgram) [.non] [] fI _ := ⟨⟨_, _, _, _, _, _, _, _, _, _, rfl, lI, cI, .inr ⟨by simp, TT, _, _, _, rfl, lT, rfl, .cons rfl .nil⟩, .inl rfl⟩, kI⟩
  have bp : ∃ ds, Vals [] ds ∧ Binds K _ ["self", "place"] ds := F.binds1 (ps := ["self", "place"]) 2 1 (by simp) rfl (fun _ _ _ _ _ _ _ us its hl hi => match us, hl, its, hi with | [_, _], _, [_], _ => ⟨_, rfl, rfl⟩)
  have b0 : ∃ ds, Vals [.non] ds ∧ Binds K _ ["self", "place"] ds := F.binds1 (ps := ["self", "place"]) 1 0 (by simp) rfl (fun _ _ _ _ _ _ _ us its hl hi => match us, hl, its, hi with | [_], _, [_], _ => ⟨_, rfl, rfl⟩)
  obtain ⟨its, bk⟩ := F.kbindsD (ps := ["self", "place"]) 1 ["place"] (fun us _ ws => us ++ ws) (by simp) (fun r1 _ r3 => r1.append r3) (fun _ _ _ _ _ _ _ us its ws hl hi hw => match us, hl, its, hi, ws, hw with | [_], _, [_], _, [_], _ => ⟨_, rfl, rfl⟩)
  obtain ⟨ds1, v1, bp⟩ := bp
  obtain ⟨ds0, v0, b0⟩ := b0
  cases v1
  match ds0, v0, b0 with
  | [u0], .cons r0 .nil, b0 =>
    cases r0
    exact ⟨PySem.W.mg_of X G aC, xx, xc, nf, fI, _, ⟨iI, tI, fun s u v k => bp s [u, v] k rfl, fun s u v k => bk.to s [u] [v] k rfl rfl⟩, fun _ _ _ => ok_BadProgram F xc nf hm hga hrd hf, fun _ s u k => b0 s [u] k rfl⟩
theorem one_BadTape {C S fI TT N0 : Addr} {nm0 q0 : Str} {bs0 : List Value} {sn0 : List Str} {sub0 : List Value} {ab0 : Bool} {col0 : Option Bool} {dd0 : Option Addr} {m0 m1 m2 m3 m5 : Option Value} {oc kV dc pm cd ct oT : Value} {od an dT : Option Addr} {sl slT : Array (Option Value)} {nT : Nat} (X : K.In h) (G : h.Ns mainGlobals mg)
    (hm : mg "SlopeError" = some (.ref S)) (hga : PySem.W.specialIn K (.ref S) "__getattribute__" = some (some (.builtin "type.__getattribute__"))) (hrd : PySem.W.readsIn K S (.type "type") = true) (hf : PySem.W.findCls K (.ref S) (.type "type") "__init__" = some (.val (.builtin "ValueError.__init__")))
    (aC : PySem.W.nsIn K mainGlobals "BadTape" = some (some (.ref C)))
    (xL : K.lookup C = some (excClassObj nm0 q0 C N0 bs0 [.ref S, .type "ValueError", .type "Exception", .type "BaseException", .type "object"] true sn0 sub0 ab0 col0 dd0 m0 m1 m2 m3 m5 "ValueError.__new__"))
    (sa : PySem.W.findIn K (.ref C) "__setattr__" = some (some (.builtin "object.__setattr__"))) (ga : PySem.W.findIn K (.ref C) "__getattribute__" = some (some (.builtin "BaseException.__getattribute__"))) (gg : PySem.W.findIn K (.ref C) "__getattr__" = some none)
    (st : PySem.W.findIn K (.ref C) "__str__" = some (some (.builtin "BaseException.__str__"))) (ca : PySem.W.findIn K (.ref C) "__class__" = some (some (.builtin "object.__class__"))) (kC : PySem.W.keepIn K (.ref C) = true) (nf : PySem.W.findIn K (.ref C) "place" = some none)
    (iI : PySem.W.findIn K (.ref C) "__init__" = some (some (.ref fI))) (tI : PySem.W.typeIn K (.ref fI) = some (.type "function"))
    (lI : K.lookup fI = some ⟨oc, od, .func (PySem.W.fnOf "__init__" "BadTape.__init__" (defArgs sBadTape) (defBody sBadTape) (defScope sBadTape) (.ref TT) kV dc pm an cd ct), sl⟩) (cI : PySem.W.codeIn K cd "BadTape.__init__" = true) (kI : PySem.W.keepIn K (.ref fI) = true)
    (lT : K.lookup TT = some ⟨oT, dT, .seq [Value.none].toArray nT, slT⟩) : One K mg S C 17 := by
  have xx : IsX K S C 17 := ⟨_, _, _, _, _, _, _, _, _, _, _, _, _, _, xL⟩
  have xc : XCls K C "ValueError.__init__" := one_xc (i := 17) (by decide) xx sa ga gg st ca kC
  have F : FunD K "__init__" "BadTape.__init__" (defArgs sBadTape) (defBody sBadTape) (defScope sBadTape) [.non] [] fI _ := ⟨⟨_, _, _, _, _, _, _, _, _, _, rfl, lI, cI, .inr ⟨by simp, TT, _, _, _, rfl, lT, rfl, .cons rfl .nil⟩, .inl rfl⟩, kI⟩
  have bp : ∃ ds, Vals [] ds ∧ Binds K _ ["self", "place"] ds := F.binds1 (ps := ["self", "place"]) 2 1 (by simp) rfl (fun _ _ _ _ _ _ _ us its hl hi => match us, hl, its, hi with | [_, _], _, [_], _ => ⟨_, rfl, rfl⟩)
  have b0 : ∃ ds, Vals [.non] ds ∧ Binds K _ ["self", "place"] ds := F.binds1 (ps := ["self", "place"]) 1 0 (by simp) rfl (fun _ _ _ _ _ _ _ us its hl hi => match us, hl, its, hi with | [_], _, [_], _ => ⟨_, rfl, rfl⟩)
  obtain ⟨its, bk⟩ := F.kbindsD (ps := ["self", "place"]) 1 ["place"] (fun us _ ws => us ++ ws) (by simp) (fun r1 _ r3 => r1.append r3) (fun _ _ _ _ _ _ _ us its ws hl hi hw => match us, hl, its, hi, ws, hw with | [_], _, [_], _, [_], _ => ⟨_, rfl, rfl⟩)
  obtain ⟨ds1, v1, bp⟩ := bp
  obtain ⟨ds0, v0, b0⟩ := b0
  cases v1
  match ds0, v0, b0 with
  | [u0], .cons r0 .nil, b0 =>
    cases r0
    exact ⟨PySem.W.mg_of X G aC, xx, xc, nf, fI, _, ⟨iI, tI, fun s u v k => bp s [u, v] k rfl, fun s u v k => bk.to s [u] [v] k rfl rfl⟩, fun _ _ _ => ok_BadTape F xc nf hm hga hrd hf, fun _ s u k => b0 s [u] k rfl⟩
theorem one_BadPoint {C S fI TT N0 : Addr} {nm0 q0 : Str} {bs0 : List Value} {sn0 : List Str} {sub0 : List Value} {ab0 : Bool} {col0 : Option Bool} {dd0 : Option Addr} {m0 m1 m2 m3 m5 : Option Value} {oc kV dc pm cd ct oT : Value} {od an dT : Option Addr} {sl slT : Array (Option Value)} {nT : Nat} (X : K.In h) (G : h.Ns mainGlobals mg)
    (hm : mg "SlopeError" = some (.ref S)) (hga : PySem.W.specialIn K (.ref S) "__getattribute__" = some (some (.builtin "type.__getattribute__"))) (hrd : PySem.W.readsIn K S (.type "type") = true) (hf : PySem.W.findCls K (.ref S) (.type "type") "__init__" = some (.val (.builtin "ValueError.__init__")))
    (aC : PySem.W.nsIn K mainGlobals "BadPoint" = some (some (.ref C)))
    (xL : K.lookup C = some (excClassObj nm0 q0 C N0 bs0 [.ref S, .type "ValueError", .type "Exception", .type "BaseException", .type "object"] true sn0 sub0 ab0 col0 dd0 m0 m1 m2 m3 m5 "ValueError.__new__"))
    (sa : PySem.W.findIn K (.ref C) "__setattr__" = some (some (.builtin "object.__setattr__"))) (ga : PySem.W.findIn K (.ref C) "__getattribute__" = some (some (.builtin "BaseException.__getattribute__"))) (gg : PySem.W.findIn K (.ref C) "__getattr__" = some none)
    (st : PySem.W.findIn K (.ref C) "__str__" = some (some (.builtin "BaseException.__str__"))) (ca : PySem.W.findIn K (.ref C) "__class__" = some (some (.builtin "object.__class__"))) (kC : PySem.W.keepIn K (.ref C) = true) (nf : PySem.W.findIn K (.ref C) "place" = some none)
    (iI : PySem.W.findIn K (.ref C) "__init__" = some (some (.ref fI))) (tI : PySem.W.typeIn K (.ref fI) = some (.type "function"))
    (lI : K.lookup fI = some ⟨oc, od, .func (PySem.W.fnOf "__init__" "BadPoint.__init__" (defArgs sBadPoint) (defBody sBadPoint) (defScope sBadPoint) (.ref TT) kV dc pm an cd ct), sl⟩) (cI : PySem.W.codeIn K cd "BadPoint.__init__" = true) (kI : PySem.W.keepIn K (.ref fI) = true)
    (lT : K.lookup TT = some ⟨oT, dT, .seq [Value.none].toArray nT, slT⟩) : One K mg S C 12 := by
  have xx : IsX K S C 12 := ⟨_, _, _, _, _, _, _, _, _, _, _, _, _, _, xL⟩
  have xc : XCls K C "ValueError.__init__" := one_xc (i := 12) (by decide) xx sa ga gg st ca kC
  have F : FunD K "__init__" "BadPoint.__init__" (defArgs sBadPoint) (defBody sBadPoint) (defScope sBadPoint) [.non] [] fI _ := ⟨⟨_, _, _, _, _, _, _, _, _, _, rfl, lI, cI, .inr ⟨by simp, TT, _, _, _, rfl, lT, rfl, .cons rfl .nil⟩, .inl rfl⟩, kI⟩
  have bp : ∃ ds, Vals [] ds ∧ Binds K _ ["self", "place"] ds := F.binds1 (ps := ["self", "place"]) 2 1 (by simp) rfl (fun _ _ _ _ _ _ _ us its hl hi => match us, hl, its, hi with | [_, _], _, [_], _ => ⟨_, rfl, rfl⟩)
  have b0 : ∃ ds, Vals [.non] ds ∧ Binds K _ ["self", "place"] ds := F.binds1 (ps := ["self", "place"]) 1 0 (by simp) rfl (fun _ _ _ _ _ _ _ us its hl hi => match us, hl, its, hi with | [_], _, [_], _ => ⟨_, rfl, rfl⟩)
  obtain ⟨its, bk⟩ := F.kbindsD (ps := ["self", "place"]) 1 ["place"] (fun us _ ws => us ++ ws) (by simp) (fun r1 _ r3 => r1.append r3) (fun _ _ _ _ _ _ _ us its ws hl hi hw => match us, hl, its, hi, ws, hw with | [_], _, [_], _, [_], _ => ⟨_, rfl, rfl⟩)
  obtain ⟨ds1, v1, bp⟩ := bp
  obtain ⟨ds0, v0, b0⟩ := b0
  cases v1
  match ds0, v0, b0 with
  | [u0], .cons r0 .nil, b0 =>
    cases r0
    exact ⟨PySem.W.mg_of X G aC, xx, xc, nf, fI, _, ⟨iI, tI, fun s u v k => bp s [u, v] k rfl, fun s u v k => bk.to s [u] [v] k rfl rfl⟩, fun _ _ _ => ok_BadPoint F xc nf hm hga hrd hf, fun _ s u k => b0 s [u] k rfl⟩
theorem one_BadText {C S fI TT N0 : Addr} {nm0 q0 : Str} {bs0 : List Value} {sn0 : List Str} {sub0 : List Value} {ab0 : Bool} {col0 : Option Bool} {dd0 : Option Addr} {m0 m1 m2 m3 m5 : Option Value} {oc kV dc pm cd ct oT : Value} {od an dT : Option Addr} {sl slT : Array (Option Value)} {nT : Nat} (X : K.In h) (G : h.Ns mainGlobals mg)
    (hm : mg "SlopeError" = some (.ref S)) (hga : PySem.W.specialIn K (.ref S) "__getattribute__" = some (some (.builtin "type.__getattribute__"))) (hrd : PySem.W.readsIn K S (.type "type") = true) (hf : PySem.W.findCls K (.ref S) (.type "type") "__init__" = some (.val (.builtin "ValueError.__init__")))
    (aC : PySem.W.nsIn K mainGlobals "BadText" = some (some (.ref C)))
    (xL : K.lookup C = some (excClassObj nm0 q0 C N0 bs0 [.ref S, .type "ValueError", .type "Exception", .type "BaseException", .type "object"] true sn0 sub0 ab0 col0 dd0 m0 m1 m2 m3 m5 "ValueError.__new__"))
    (sa : PySem.W.findIn K (.ref C) "__setattr__" = some (some (.builtin "object.__setattr__"))) (ga : PySem.W.findIn K (.ref C) "__getattribute__" = some (some (.builtin "BaseException.__getattribute__"))) (gg : PySem.W.findIn K (.ref C) "__getattr__" = some none)
    (st : PySem.W.findIn K (.ref C) "__str__" = some (some (.builtin "BaseException.__str__"))) (ca : PySem.W.findIn K (.ref C) "__class__" = some (some (.builtin "object.__class__"))) (kC : PySem.W.keepIn K (.ref C) = true) (nf : PySem.W.findIn K (.ref C) "place" = some none)
    (iI : PySem.W.findIn K (.ref C) "__init__" = some (some (.ref fI))) (tI : PySem.W.typeIn K (.ref fI) = some (.type "function"))
    (lI : K.lookup fI = some ⟨oc, od, .func (PySem.W.fnOf "__init__" "BadText.__init__" (defArgs sBadText) (defBody sBadText) (defScope sBadText) (.ref TT) kV dc pm an cd ct), sl⟩) (cI : PySem.W.codeIn K cd "BadText.__init__" = true) (kI : PySem.W.keepIn K (.ref fI) = true)
    (lT : K.lookup TT = some ⟨oT, dT, .seq [Value.none].toArray nT, slT⟩) : One K mg S C 18 := by
  have xx : IsX K S C 18 := ⟨_, _, _, _, _, _, _, _, _, _, _, _, _, _, xL⟩
  have xc : XCls K C "ValueError.__init__" := one_xc (i := 18) (by decide) xx sa ga gg st ca kC
  have F : FunD K "__init__" "BadText.__init__" (defArgs sBadText) (defBody sBadText) (defScope sBadText) [.non] [] fI _ := ⟨⟨_, _, _, _, _, _, _, _, _, _, rfl, lI, cI, .inr ⟨by simp, TT, _, _, _, rfl, lT, rfl, .cons rfl .nil⟩, .inl rfl⟩, kI⟩
  have bp : ∃ ds, Vals [] ds ∧ Binds K _ ["self", "place"] ds := F.binds1 (ps := ["self", "place"]) 2 1 (by simp) rfl (fun _ _ _ _ _ _ _ us its hl hi => match us, hl, its, hi with | [_, _], _, [_], _ => ⟨_, rfl, rfl⟩)
  have b0 : ∃ ds, Vals [.non] ds ∧ Binds K _ ["self", "place"] ds := F.binds1 (ps := ["self", "place"]) 1 0 (by simp) rfl (fun _ _ _ _ _ _ _ us its hl hi => match us, hl, its, hi with | [_], _, [_], _ => ⟨_, rfl, rfl⟩)
  obtain ⟨its, bk⟩ := F.kbindsD (ps := ["self", "place"]) 1 ["place"] (fun us _ ws => us ++ ws) (by simp) (fun r1 _ r3 => r1.append r3) (fun _ _ _ _ _ _ _ us its ws hl hi hw => match us, hl, its, hi, ws, hw with | [_], _, [_], _, [_], _ => ⟨_, rfl, rfl⟩)
  obtain ⟨ds1, v1, bp⟩ := bp
  obtain ⟨ds0, v0, b0⟩ := b0
  cases v1
  match ds0, v0, b0 with
  | [u0], .cons r0 .nil, b0 =>
    cases r0
    exact ⟨PySem.W.mg_of X G aC, xx, xc, nf, fI, _, ⟨iI, tI, fun s u v k => bp s [u, v] k rfl, fun s u v k => bk.to s [u] [v] k rfl rfl⟩, fun _ _ _ => ok_BadText F xc nf hm hga hrd hf, fun _ s u k => b0 s [u] k rfl⟩
theorem one_BadPaper {C S fI TT N0 : Addr} {nm0 q0 : Str} {bs0 : List Value} {sn0 : List Str} {sub0 : List Value} {ab0 : Bool} {col0 : Option Bool} {dd0 : Option Addr} {m0 m1 m2 m3 m5 : Option Value} {oc kV dc pm cd ct oT : Value} {od an dT : Option Addr} {sl slT : Array (Option Value)} {nT : Nat} (X : K.In h) (G : h.Ns mainGlobals mg)
    (hm : mg "SlopeError" = some (.ref S)) (hga : PySem.W.specialIn K (.ref S) "__getattribute__" = some (some (.builtin "type.__getattribute__"))) (hrd : PySem.W.readsIn K S (.type "type") = true) (hf : PySem.W.findCls K (.ref S) (.type "type") "__init__" = some (.val (.builtin "ValueError.__init__")))
    (aC : PySem.W.nsIn K mainGlobals "BadPaper" = some (some (.ref C)))
    (xL : K.lookup C = some (excClassObj nm0 q0 C N0 bs0 [.ref S, .type "ValueError", .type "Exception", .type "BaseException", .type "object"] true sn0 sub0 ab0 col0 dd0 m0 m1 m2 m3 m5 "ValueError.__new__"))
    (sa : PySem.W.findIn K (.ref C) "__setattr__" = some (some (.builtin "object.__setattr__"))) (ga : PySem.W.findIn K (.ref C) "__getattribute__" = some (some (.builtin "BaseException.__getattribute__"))) (gg : PySem.W.findIn K (.ref C) "__getattr__" = some none)
    (st : PySem.W.findIn K (.ref C) "__str__" = some (some (.builtin "BaseException.__str__"))) (ca : PySem.W.findIn K (.ref C) "__class__" = some (some (.builtin "object.__class__"))) (kC : PySem.W.keepIn K (.ref C) = true) (nf : PySem.W.findIn K (.ref C) "place" = some none)
    (iI : PySem.W.findIn K (.ref C) "__init__" = some (some (.ref fI))) (tI : PySem.W.typeIn K (.ref fI) = some (.type "function"))
    (lI : K.lookup fI = some ⟨oc, od, .func (PySem.W.fnOf "__init__" "BadPaper.__init__" (defArgs sBadPaper) (defBody sBadPaper) (defScope sBadPaper) (.ref TT) kV dc pm an cd ct), sl⟩) (cI : PySem.W.codeIn K cd "BadPaper.__init__" = true) (kI : PySem.W.keepIn K (.ref fI) = true)
    (lT : K.lookup TT = some ⟨oT, dT, .seq [Value.none].toArray nT, slT⟩) : One K mg S C 10 := by
  have xx : IsX K S C 10 := ⟨_, _, _, _, _, _, _, _, _, _, _, _, _, _, xL⟩
  have xc : XCls K C "ValueError.__init__" := one_xc (i := 10) (by decide) xx sa ga gg st ca kC
  have F : FunD K "__init__" "BadPaper.__init__" (defArgs sBadPaper) (defBody sBadPaper) (defScope sBadPaper) [.non] [] fI _ := ⟨⟨_, _, _, _, _, _, _, _, _, _, rfl, lI, cI, .inr ⟨by simp, TT, _, _, _, rfl, lT, rfl, .cons rfl .nil⟩, .inl rfl⟩, kI⟩
  have bp : ∃ ds, Vals [] ds ∧ Binds K _ ["self", "place"] ds := F.binds1 (ps := ["self", "place"]) 2 1 (by simp) rfl (fun _ _ _ _ _ _ _ us its hl hi => match us, hl, its, hi with | [_, _], _, [_], _ => ⟨_, rfl, rfl⟩)
  have b0 : ∃ ds, Vals [.non] ds ∧ Binds K _ ["self", "place"] ds := F.binds1 (ps := ["self", "place"]) 1 0 (by simp) rfl (fun _ _ _ _ _ _ _ us its hl hi => match us, hl, its, hi with | [_], _, [_], _ => ⟨_, rfl, rfl⟩)
  obtain ⟨its, bk⟩ := F.kbindsD (ps := ["self", "place"]) 1 ["place"] (fun us _ ws => us ++ ws) (by simp) (fun r1 _ r3 => r1.append r3) (fun _ _ _ _ _ _ _ us its ws hl hi hw => match us, hl, its, hi, ws, hw with | [_], _, [_], _, [_], _ => ⟨_, rfl, rfl⟩)
  obtain ⟨ds1, v1, bp⟩ := bp
  obtain ⟨ds0, v0, b0⟩ := b0
  cases v1
  match ds0, v0, b0 with
  | [u0], .cons r0 .nil, b0 =>
    cases r0
    exact ⟨PySem.W.mg_of X G aC, xx, xc, nf, fI, _, ⟨iI, tI, fun s u v k => bp s [u, v] k rfl, fun s u v k => bk.to s [u] [v] k rfl rfl⟩, fun _ _ _ => ok_BadPaper F xc nf hm hga hrd hf, fun _ s u k => b0 s [u] k rfl⟩
theorem one_BadLinear {C S fI TT N0 : Addr} {nm0 q0 : Str} {bs0 : List Value} {sn0 : List Str} {sub0 : List Value} {ab0 : Bool} {col0 : Option Bool} {dd0 : Option Addr} {m0 m1 m2 m3 m5 : Option Value} {oc kV dc pm cd ct oT : Value} {od an dT : Option Addr} {sl slT : Array (Option Value)} {nT : Nat} (X : K.In h) (G : h.Ns mainGlobals mg)
    (hm : mg "SlopeError" = some (.ref S)) (hga : PySem.W.specialIn K (.ref S) "__getattribute__" = some (some (.builtin "type.__getattribute__"))) (hrd : PySem.W.readsIn K S (.type "type") = true) (hf : PySem.W.findCls K (.ref S) (.type "type") "__init__" = some (.val (.builtin "ValueError.__init__")))
    (aC : PySem.W.nsIn K mainGlobals "BadLinear" = some (some (.ref C)))
    (xL : K.lookup C = some (excClassObj nm0 q0 C N0 bs0 [.ref S, .type "ValueError", .type "Exception", .type "BaseException", .type "object"] true sn0 sub0 ab0 col0 dd0 m0 m1 m2 m3 m5 "ValueError.__new__"))
    (sa : PySem.W.findIn K (.ref C) "__setattr__" = some (some (.builtin "object.__setattr__"))) (ga : PySem.W.findIn K (.ref C) "__getattribute__" = some (some (.builtin "BaseException.__getattribute__"))) (gg : PySem.W.findIn K (.ref C) "__getattr__" = some none)
    (st : PySem.W.findIn K (.ref C) "__str__" = some (some (.builtin "BaseException.__str__"))) (ca : PySem.W.findIn K (.ref C) "__class__" = some (some (.builtin "object.__class__"))) (kC : PySem.W.keepIn K (.ref C) = true) (nf : PySem.W.findIn K (.ref C) "place" = some none)
    (iI : PySem.W.findIn K (.ref C) "__init__" = some (some (.ref fI))) (tI : PySem.W.typeIn K (.ref fI) = some (.type "function"))
    (lI : K.lookup fI = some ⟨oc, od, .func (PySem.W.fnOf "__init__" "BadLinear.__init__" (defArgs sBadLinear) (defBody sBadLinear) (defScope sBadLinear) (.ref TT) kV dc pm an cd ct), sl⟩) (cI : PySem.W.codeIn K cd "BadLinear.__init__" = true) (kI : PySem.W.keepIn K (.ref fI) = true)
    (lT : K.lookup TT = some ⟨oT, dT, .seq [Value.none].toArray nT, slT⟩) : One K mg S C 6 := by
  have xx : IsX K S C 6 := ⟨_, _, _, _, _, _, _, _, _, _, _, _, _, _, xL⟩
  have xc : XCls K C "ValueError.__init__" := one_xc (i := 6) (by decide) xx sa ga gg st ca kC
  have F : FunD K "__init__" "BadLinear.__init__" (defArgs sBadLinear) (defBody sBadLinear) (defScope sBadLinear) [.non] [] fI _ := ⟨⟨_, _, _, _, _, _, _, _, _, _, rfl, lI, cI, .inr ⟨by simp, TT, _, _, _, rfl, lT, rfl, .cons rfl .nil⟩, .inl rfl⟩, kI⟩
  have bp : ∃ ds, Vals [] ds ∧ Binds K _ ["self", "place"] ds := F.binds1 (ps := ["self", "place"]) 2 1 (by simp) rfl (fun _ _ _ _ _ _ _ us its hl hi => match us, hl, its, hi with | [_, _], _, [_], _ => ⟨_, rfl, rfl⟩)
  have b0 : ∃ ds, Vals [.non] ds ∧ Binds K _ ["self", "place"] ds := F.binds1 (ps := ["self", "place"]) 1 0 (by simp) rfl (fun _ _ _ _ _ _ _ us its hl hi => match us, hl, its, hi with | [_], _, [_], _ => ⟨_, rfl, rfl⟩)
  obtain ⟨its, bk⟩ := F.kbindsD (ps := ["self", "place"]) 1 ["place"] (fun us _ ws => us ++ ws) (by simp) (fun r1 _ r3 => r1.append r3) (fun _ _ _ _ _ _ _ us its ws hl hi hw => match us, hl, its, hi, ws, hw with | [_], _, [_], _, [_], _ => ⟨_, rfl, rfl⟩)
  obtain ⟨ds1, v1, bp⟩ := bp
  obtain ⟨ds0, v0, b0⟩ := b0
  cases v1
  match ds0, v0, b0 with
  | [u0], .cons r0 .nil, b0 =>
    cases r0
    exact ⟨PySem.W.mg_of X G aC, xx, xc, nf, fI, _, ⟨iI, tI, fun s u v k => bp s [u, v] k rfl, fun s u v k => bk.to s [u] [v] k rfl rfl⟩, fun _ _ _ => ok_BadLinear F xc nf hm hga hrd hf, fun _ s u k => b0 s [u] k rfl⟩
theorem one_BadRule {C S fI TT N0 : Addr} {nm0 q0 : Str} {bs0 : List Value} {sn0 : List Str} {sub0 : List Value} {ab0 : Bool} {col0 : Option Bool} {dd0 : Option Addr} {m0 m1 m2 m3 m5 : Option Value} {oc kV dc pm cd ct oT : Value} {od an dT : Option Addr} {sl slT : Array (Option Value)} {nT : Nat} (X : K.In h) (G : h.Ns mainGlobals mg)
    (hm : mg "SlopeError" = some (.ref S)) (hga : PySem.W.specialIn K (.ref S) "__getattribute__" = some (some (.builtin "type.__getattribute__"))) (hrd : PySem.W.readsIn K S (.type "type") = true) (hf : PySem.W.findCls K (.ref S) (.type "type") "__init__" = some (.val (.builtin "ValueError.__init__")))
    (aC : PySem.W.nsIn K mainGlobals "BadRule" = some (some (.ref C)))
    (xL : K.lookup C = some (excClassObj nm0 q0 C N0 bs0 [.ref S, .type "ValueError", .type "Exception", .type "BaseException", .type "object"] true sn0 sub0 ab0 col0 dd0 m0 m1 m2 m3 m5 "ValueError.__new__"))
    (sa : PySem.W.findIn K (.ref C) "__setattr__" = some (some (.builtin "object.__setattr__"))) (ga : PySem.W.findIn K (.ref C) "__getattribute__" = some (some (.builtin "BaseException.__getattribute__"))) (gg : PySem.W.findIn K (.ref C) "__getattr__" = some none)
    (st : PySem.W.findIn K (.ref C) "__str__" = some (some (.builtin "BaseException.__str__"))) (ca : PySem.W.findIn K (.ref C) "__class__" = some (some (.builtin "object.__class__"))) (kC : PySem.W.keepIn K (.ref C) = true) (nf : PySem.W.findIn K (.ref C) "place" = some none)
    (iI : PySem.W.findIn K (.ref C) "__init__" = some (some (.ref fI))) (tI : PySem.W.typeIn K (.ref fI) = some (.type "function"))
    (lI : K.lookup fI = some ⟨oc, od, .func (PySem.W.fnOf "__init__" "BadRule.__init__" (defArgs sBadRule) (defBody sBadRule) (defScope sBadRule) (.ref TT) kV dc pm an cd ct), sl⟩) (cI : PySem.W.codeIn K cd "BadRule.__init__" = true) (kI : PySem.W.keepIn K (.ref fI) = true)
    (lT : K.lookup TT = some ⟨oT, dT, .seq [Value.none].toArray nT, slT⟩) : One K mg S C 14 := by
  have xx : IsX K S C 14 := ⟨_, _, _, _, _, _, _, _, _, _, _, _, _, _, xL⟩
  have xc : XCls K C "ValueError.__init__" := one_xc (i := 14) (by decide) xx sa ga gg st ca kC
  have F : FunD K "__init__" "BadRule.__init__" (defArgs sBadRule) (defBody sBadRule) (defScope sBadRule) [.non] [] fI _ := ⟨⟨_, _, _, _, _, _, _, _, _, _, rfl, lI, cI, .inr ⟨by simp, TT, _, _, _, rfl, lT, rfl, .cons rfl .nil⟩, .inl rfl⟩, kI⟩
  have bp : ∃ ds, Vals [] ds ∧ Binds K _ ["self", "place"] ds := F.binds1 (ps := ["self", "place"]) 2 1 (by simp) rfl (fun _ _ _ _ _ _ _ us its hl hi => match us, hl, its, hi with | [_, _], _, [_], _ => ⟨_, rfl, rfl⟩)
  have b0 : ∃ ds, Vals [.non] ds ∧ Binds K _ ["self", "place"] ds := F.binds1 (ps := ["self", "place"]) 1 0 (by simp) rfl (fun _ _ _ _ _ _ _ us its hl hi => match us, hl, its, hi with | [_], _, [_], _ => ⟨_, rfl, rfl⟩)
  obtain ⟨its, bk⟩ := F.kbindsD (ps := ["self", "place"]) 1 ["place"] (fun us _ ws => us ++ ws) (by simp) (fun r1 _ r3 => r1.append r3) (fun _ _ _ _ _ _ _ us its ws hl hi hw => match us, hl, its, hi, ws, hw with | [_], _, [_], _, [_], _ => ⟨_, rfl, rfl⟩)
  obtain ⟨ds1, v1, bp⟩ := bp
  obtain ⟨ds0, v0, b0⟩ := b0
  cases v1
  match ds0, v0, b0 with
  | [u0], .cons r0 .nil, b0 =>
    cases r0
    exact ⟨PySem.W.mg_of X G aC, xx, xc, nf, fI, _, ⟨iI, tI, fun s u v k => bp s [u, v] k rfl, fun s u v k => bk.to s [u] [v] k rfl rfl⟩, fun _ _ _ => ok_BadRule F xc nf hm hga hrd hf, fun _ s u k => b0 s [u] k rfl⟩
theorem one_BadChain {C S fI TT N0 : Addr} {nm0 q0 : Str} {bs0 : List Value} {sn0 : List Str} {sub0 : List Value} {ab0 : Bool} {col0 : Option Bool} {dd0 : Option Addr} {m0 m1 m2 m3 m5 : Option Value} {oc kV dc pm cd ct oT : Value} {od an dT : Option Addr} {sl slT : Array (Option Value)} {nT : Nat} (X : K.In h) (G : h.Ns mainGlobals mg)
    (hm : mg "SlopeError" = some (.ref S)) (hga : PySem.W.specialIn K (.ref S) "__getattribute__" = some (some (.builtin "type.__getattribute__"))) (hrd : PySem.W.readsIn K S (.type "type") = true) (hf : PySem.W.findCls K (.ref S) (.type "type") "__init__" = some (.val (.builtin "ValueError.__init__")))
    (aC : PySem.W.nsIn K mainGlobals "BadChain" = some (some (.ref C)))
    (xL : K.lookup C = some (excClassObj nm0 q0 C N0 bs0 [.ref S, .type "ValueError", .type "Exception", .type "BaseException", .type "object"] true sn0 sub0 ab0 col0 dd0 m0 m1 m2 m3 m5 "ValueError.__new__"))
    (sa : PySem.W.findIn K (.ref C) "__setattr__" = some (some (.builtin "object.__setattr__"))) (ga : PySem.W.findIn K (.ref C) "__getattribute__" = some (some (.builtin "BaseException.__getattribute__"))) (gg : PySem.W.findIn K (.ref C) "__getattr__" = some none)
    (st : PySem.W.findIn K (.ref C) "__str__" = some (some (.builtin "BaseException.__str__"))) (ca : PySem.W.findIn K (.ref C) "__class__" = some (some (.builtin "object.__class__"))) (kC : PySem.W.keepIn K (.ref C) = true) (nf : PySem.W.findIn K (.ref C) "place" = some none)
    (iI : PySem.W.findIn K (.ref C) "__init__" = some (some (.ref fI))) (tI : PySem.W.typeIn K (.ref fI) = some (.type "function"))
    (lI : K.lookup fI = some ⟨oc, od, .func (PySem.W.fnOf "__init__" "BadChain.__init__" (defArgs sBadChain) (defBody sBadChain) (defScope sBadChain) (.ref TT) kV dc pm an cd ct), sl⟩) (cI : PySem.W.codeIn K cd "BadChain.__init__" = true) (kI : PySem.W.keepIn K (.ref fI) = true)
    (lT : K.lookup TT = some ⟨oT, dT, .seq [Value.none].toArray nT, slT⟩) : One K mg S C 0 := by
  have xx : IsX K S C 0 := ⟨_, _, _, _, _, _, _, _, _, _, _, _, _, _, xL⟩
  have xc : XCls K C "ValueError.__init__" := one_xc (i := 0) (by decide) xx sa ga gg st ca kC
  have F : FunD K "__init__" "BadChain.__init__" (defArgs sBadChain) (defBody sBadChain) (defScope sBadChain) [.non] [] fI _ := ⟨⟨_, _, _, _, _, _, _, _, _, _, rfl, lI, cI, .inr ⟨by simp, TT, _, _, _, rfl, lT, rfl, .cons rfl .nil⟩, .inl rfl⟩, kI⟩
  have bp : ∃ ds, Vals [] ds ∧ Binds K _ ["self", "place"] ds := F.binds1 (ps := ["self", "place"]) 2 1 (by simp) rfl (fun _ _ _ _ _ _ _ us its hl hi => match us, hl, its, hi with | [_, _], _, [_], _ => ⟨_, rfl, rfl⟩)
  have b0 : ∃ ds, Vals [.non] ds ∧ Binds K _ ["self", "place"] ds := F.binds1 (ps := ["self", "place"]) 1 0 (by simp) rfl (fun _ _ _ _ _ _ _ us its hl hi => match us, hl, its, hi with | [_], _, [_], _ => ⟨_, rfl, rfl⟩)
  obtain ⟨its, bk⟩ := F.kbindsD (ps := ["self", "place"]) 1 ["place"] (fun us _ ws => us ++ ws) (by simp) (fun r1 _ r3 => r1.append r3) (fun _ _ _ _ _ _ _ us its ws hl hi hw => match us, hl, its, hi, ws, hw with | [_], _, [_], _, [_], _ => ⟨_, rfl, rfl⟩)
  obtain ⟨ds1, v1, bp⟩ := bp
  obtain ⟨ds0, v0, b0⟩ := b0
  cases v1
  match ds0, v0, b0 with
  | [u0], .cons r0 .nil, b0 =>
    cases r0
    exact ⟨PySem.W.mg_of X G aC, xx, xc, nf, fI, _, ⟨iI, tI, fun s u v k => bp s [u, v] k rfl, fun s u v k => bk.to s [u] [v] k rfl rfl⟩, fun _ _ _ => ok_BadChain F xc nf hm hga hrd hf, fun _ s u k => b0 s [u] k rfl⟩
theorem one_BadSchedule {C S fI TT N0 : Addr} {nm0 q0 : Str} {bs0 : List Value} {sn0 : List Str} {sub0 : List Value} {ab0 : Bool} {col0 : Option Bool} {dd0 : Option Addr} {m0 m1 m2 m3 m5 : Option Value} {oc kV dc pm cd ct oT : Value} {od an dT : Option Addr} {sl slT : Array (Option Value)} {nT : Nat} (X : K.In h) (G : h.Ns mainGlobals mg)
    (hm : mg "SlopeError" = some (.ref S)) (hga : PySem.W.specialIn K (.ref S) "__getattribute__" = some (some (.builtin "type.__getattribute__"))) (hrd : PySem.W.readsIn K S (.type "type") = true) (hf : PySem.W.findCls K (.ref S) (.type "type") "__init__" = some (.val (.builtin "ValueError.__init__")))
    (aC : PySem.W.nsIn K mainGlobals "BadSchedule" = some (some (.ref C)))
    (xL : K.lookup C = some (excClassObj nm0 q0 C N0 bs0 [.ref S, .type "ValueError", .type "Exception", .type "BaseException", .type "object"] true sn0 sub0 ab0 col0 dd0 m0 m1 m2 m3 m5 "ValueError.__new__"))
    (sa : PySem.W.findIn K (.ref C) "__setattr__" = some (some (.builtin "object.__setattr__"))) (ga : PySem.W.findIn K (.ref C) "__getattribute__" = some (some (.builtin "BaseException.__getattribute__"))) (gg : PySem.W.findIn K (.ref C) "__getattr__" = some none)
    (st : PySem.W.findIn K (.ref C) "__str__" = some (some (.builtin "BaseException.__str__"))) (ca : PySem.W.findIn K (.ref C) "__class__" = some (some (.builtin "object.__class__"))) (kC : PySem.W.keepIn K (.ref C) = true) (nf : PySem.W.findIn K (.ref C) "place" = some none)
    (iI : PySem.W.findIn K (.ref C) "__init__" = some (some (.ref fI))) (tI : PySem.W.typeIn K (.ref fI) = some (.type "function"))
    (lI : K.lookup fI = some ⟨oc, od, .func (PySem.W.fnOf "__init__" "BadSchedule.__init__" (defArgs sBadSchedule) (defBody sBadSchedule) (defScope sBadSchedule) (.ref TT) kV dc pm an cd ct), sl⟩) (cI : PySem.W.codeIn K cd "BadSchedule.__init__" = true) (kI : PySem.W.keepIn K (.ref fI) = true)
    (lT : K.lookup TT = some ⟨oT, dT, .seq [Value.none].toArray nT, slT⟩) : One K mg S C 15 := by
  have xx : IsX K S C 15 := ⟨_, _, _, _, _, _, _, _, _, _, _, _, _, _, xL⟩
  have xc : XCls K C "ValueError.__init__" := one_xc (i := 15) (by decide) xx sa ga gg st ca kC
  have F : FunD K "__init__" "BadSchedule.__init__" (defArgs sBadSchedule) (defBody sBadSchedule) (defScope sBadSchedule) [.non] [] fI _ := ⟨⟨_, _, _, _, _, _, _, _, _, _, rfl, lI, cI, .inr ⟨by simp, TT, _, _, _, rfl, lT, rfl, .cons rfl .nil⟩, .inl rfl⟩, kI⟩
  have bp : ∃ ds, Vals [] ds ∧ Binds K _ ["self", "place"] ds := F.binds1 (ps := ["self", "place"]) 2 1 (by simp) rfl (fun _ _ _ _ _ _ _ us its hl hi => match us, hl, its, hi with | [_, _], _, [_], _ => ⟨_, rfl, rfl⟩)
  have b0 : ∃ ds, Vals [.non] ds ∧ Binds K _ ["self", "place"] ds := F.binds1 (ps := ["self", "place"]) 1 0 (by simp) rfl (fun _ _ _ _ _ _ _ us its hl hi => match us, hl, its, hi with | [_], _, [_], _ => ⟨_, rfl, rfl⟩)
  obtain ⟨its, bk⟩ := F.kbindsD (ps := ["self", "place"]) 1 ["place"] (fun us _ ws => us ++ ws) (by simp) (fun r1 _ r3 => r1.append r3) (fun _ _ _ _ _ _ _ us its ws hl hi hw => match us, hl, its, hi, ws, hw with | [_], _, [_], _, [_], _ => ⟨_, rfl, rfl⟩)
  obtain ⟨ds1, v1, bp⟩ := bp
  obtain ⟨ds0, v0, b0⟩ := b0
  cases v1
  match ds0, v0, b0 with
  | [u0], .cons r0 .nil, b0 =>
    cases r0
    exact ⟨PySem.W.mg_of X G aC, xx, xc, nf, fI, _, ⟨iI, tI, fun s u v k => bp s [u, v] k rfl, fun s u v k => bk.to s [u] [v] k rfl rfl⟩, fun _ _ _ => ok_BadSchedule F xc nf hm hga hrd hf, fun _ s u k => b0 s [u] k rfl⟩
theorem one_BadCode {C S fI TT N0 : Addr} {nm0 q0 : Str} {bs0 : List Value} {sn0 : List Str} {sub0 : List Value} {ab0 : Bool} {col0 : Option Bool} {dd0 : Option Addr} {m0 m1 m2 m3 m5 : Option Value} {oc kV dc pm cd ct oT : Value} {od an dT : Option Addr} {sl slT : Array (Option Value)} {nT : Nat} (X : K.In h) (G : h.Ns mainGlobals mg)
    (hm : mg "SlopeError" = some (.ref S)) (hga : PySem.W.specialIn K (.ref S) "__getattribute__" = some (some (.builtin "type.__getattribute__"))) (hrd : PySem.W.readsIn K S (.type "type") = true) (hf : PySem.W.findCls K (.ref S) (.type "type") "__init__" = some (.val (.builtin "ValueError.__init__")))
    (aC : PySem.W.nsIn K mainGlobals "BadCode" = some (some (.ref C)))
    (xL : K.lookup C = some (excClassObj nm0 q0 C N0 bs0 [.ref S, .type "ValueError", .type "Exception", .type "BaseException", .type "object"] true sn0 sub0 ab0 col0 dd0 m0 m1 m2 m3 m5 "ValueError.__new__"))
    (sa : PySem.W.findIn K (.ref C) "__setattr__" = some (some (.builtin "object.__setattr__"))) (ga : PySem.W.findIn K (.ref C) "__getattribute__" = some (some (.builtin "BaseException.__getattribute__"))) (gg : PySem.W.findIn K (.ref C) "__getattr__" = some none)
    (st : PySem.W.findIn K (.ref C) "__str__" = some (some (.builtin "BaseException.__str__"))) (ca : PySem.W.findIn K (.ref C) "__class__" = some (some (.builtin "object.__class__"))) (kC : PySem.W.keepIn K (.ref C) = true) (nf : PySem.W.findIn K (.ref C) "place" = some none)
    (iI : PySem.W.findIn K (.ref C) "__init__" = some (some (.ref fI))) (tI : PySem.W.typeIn K (.ref fI) = some (.type "function"))
    (lI : K.lookup fI = some ⟨oc, od, .func (PySem.W.fnOf "__init__" "BadCode.__init__" (defArgs sBadCode) (defBody sBadCode) (defScope sBadCode) (.ref TT) kV dc pm an cd ct), sl⟩) (cI : PySem.W.codeIn K cd "BadCode.__init__" = true) (kI : PySem.W.keepIn K (.ref fI) = true)
    (lT : K.lookup TT = some ⟨oT, dT, .seq [Value.none].toArray nT, slT⟩) : One K mg S C 1 := by
  have xx : IsX K S C 1 := ⟨_, _, _, _, _, _, _, _, _, _, _, _, _, _, xL⟩
  have xc : XCls K C "ValueError.__init__" := one_xc (i := 1) (by decide) xx sa ga gg st ca kC
  have F : FunD K "__init__" "BadCode.__init__" (defArgs sBadCode) (defBody sBadCode) (defScope sBadCode) [.non] [] fI _ := ⟨⟨_, _, _, _, _, _, _, _, _, _, rfl, lI, cI, .inr ⟨by simp, TT, _, _, _, rfl, lT, rfl, .cons rfl .nil⟩, .inl rfl⟩, kI⟩
  have bp : ∃ ds, Vals [] ds ∧ Binds K _ ["self", "place"] ds := F.binds1 (ps := ["self", "place"]) 2 1 (by simp) rfl (fun _ _ _ _ _ _ _ us its hl hi => match us, hl, its, hi with | [_, _], _, [_], _ => ⟨_, rfl, rfl⟩)
  have b0 : ∃ ds, Vals [.non] ds ∧ Binds K _ ["self", "place"] ds := F.binds1 (ps := ["self", "place"]) 1 0 (by simp) rfl (fun _ _ _ _ _ _ _ us its hl hi => match us, hl, its, hi with | [_], _, [_], _ => ⟨_, rfl, rfl⟩)
  obtain ⟨its, bk⟩ := F.kbindsD (ps := ["self", "place"]) 1 ["place"] (fun us _ ws => us ++ ws) (by simp) (fun r1 _ r3 => r1.append r3) (fun _ _ _ _ _ _ _ us its ws hl hi hw => match us, hl, its, hi, ws, hw with | [_], _, [_], _, [_], _ => ⟨_, rfl, rfl⟩)
  obtain ⟨ds1, v1, bp⟩ := bp
  obtain ⟨ds0, v0, b0⟩ := b0
  cases v1
  match ds0, v0, b0 with
  | [u0], .cons r0 .nil, b0 =>
    cases r0
    exact ⟨PySem.W.mg_of X G aC, xx, xc, nf, fI, _, ⟨iI, tI, fun s u v k => bp s [u, v] k rfl, fun s u v k => bk.to s [u] [v] k rfl rfl⟩, fun _ _ _ => ok_BadCode F xc nf hm hga hrd hf, fun _ s u k => b0 s [u] k rfl⟩
theorem one_BadPattern {C S fI TT N0 : Addr} {nm0 q0 : Str} {bs0 : List Value} {sn0 : List Str} {sub0 : List Value} {ab0 : Bool} {col0 : Option Bool} {dd0 : Option Addr} {m0 m1 m2 m3 m5 : Option Value} {oc kV dc pm cd ct oT : Value} {od an dT : Option Addr} {sl slT : Array (Option Value)} {nT : Nat} (X : K.In h) (G : h.Ns mainGlobals mg)
    (hm : mg "SlopeError" = some (.ref S)) (hga : PySem.W.specialIn K (.ref S) "__getattribute__" = some (some (.builtin "type.__getattribute__"))) (hrd : PySem.W.readsIn K S (.type "type") = true) (hf : PySem.W.findCls K (.ref S) (.type "type") "__init__" = some (.val (.builtin "ValueError.__init__")))
    (aC : PySem.W.nsIn K mainGlobals "BadPattern" = some (some (.ref C)))
    (xL : K.lookup C = some (excClassObj nm0 q0 C N0 bs0 [.ref S, .type "ValueError", .type "Exception", .type "BaseException", .type "object"] true sn0 sub0 ab0 col0 dd0 m0 m1 m2 m3 m5 "ValueError.__new__"))
    (sa : PySem.W.findIn K (.ref C) "__setattr__" = some (some (.builtin "object.__setattr__"))) (ga : PySem.W.findIn K (.ref C) "__getattribute__" = some (some (.builtin "BaseException.__getattribute__"))) (gg : PySem.W.findIn K (.ref C) "__getattr__" = some none)
    (st : PySem.W.findIn K (.ref C) "__str__" = some (some (.builtin "BaseException.__str__"))) (ca : PySem.W.findIn K (.ref C) "__class__" = some (some (.builtin "object.__class__"))) (kC : PySem.W.keepIn K (.ref C) = true) (nf : PySem.W.findIn K (.ref C) "place" = some none)
    (iI : PySem.W.findIn K (.ref C) "__init__" = some (some (.ref fI))) (tI : PySem.W.typeIn K (.ref fI) = some (.type "function"))
    (lI : K.lookup fI = some ⟨oc, od, .func (PySem.W.fnOf "__init__" "BadPattern.__init__" (defArgs sBadPattern) (defBody sBadPattern) (defScope sBadPattern) (.ref TT) kV dc pm an cd ct), sl⟩) (cI : PySem.W.codeIn K cd "BadPattern.__init__" = true) (kI : PySem.W.keepIn K (.ref fI) = true)
    (lT : K.lookup TT = some ⟨oT, dT, .seq [Value.none].toArray nT, slT⟩) : One K mg S C 11 := by
  have xx : IsX K S C 11 := ⟨_, _, _, _, _, _, _, _, _, _, _, _, _, _, xL⟩
  have xc : XCls K C "ValueError.__init__" := one_xc (i := 11) (by decide) xx sa ga gg st ca kC
  have F : FunD K "__init__" "BadPattern.__init__" (defArgs sBadPattern) (defBody sBadPattern) (defScope sBadPattern) [.non] [] fI _ := ⟨⟨_, _, _, _, _, _, _, _, _, _, rfl, lI, cI, .inr ⟨by simp, TT, _, _, _, rfl, lT, rfl, .cons rfl .nil⟩, .inl rfl⟩, kI⟩
  have bp : ∃ ds, Vals [] ds ∧ Binds K _ ["self", "place"] ds := F.binds1 (ps := ["self", "place"]) 2 1 (by simp) rfl (fun _ _ _ _ _ _ _ us its hl hi => match us, hl, its, hi with | [_, _], _, [_], _ => ⟨_, rfl, rfl⟩)
  have b0 : ∃ ds, Vals [.non] ds ∧ Binds K _ ["self", "place"] ds := F.binds1 (ps := ["self", "place"]) 1 0 (by simp) rfl (fun _ _ _ _ _ _ _ us its hl hi => match us, hl, its, hi with | [_], _, [_], _ => ⟨_, rfl, rfl⟩)
  obtain ⟨its, bk⟩ := F.kbindsD (ps := ["self", "place"]) 1 ["place"] (fun us _ ws => us ++ ws) (by simp) (fun r1 _ r3 => r1.append r3) (fun _ _ _ _ _ _ _ us its ws hl hi hw => match us, hl, its, hi, ws, hw with | [_], _, [_], _, [_], _ => ⟨_, rfl, rfl⟩)
  obtain ⟨ds1, v1, bp⟩ := bp
  obtain ⟨ds0, v0, b0⟩ := b0
  cases v1
  match ds0, v0, b0 with
  | [u0], .cons r0 .nil, b0 =>
    cases r0
    exact ⟨PySem.W.mg_of X G aC, xx, xc, nf, fI, _, ⟨iI, tI, fun s u v k => bp s [u, v] k rfl, fun s u v k => bk.to s [u] [v] k rfl rfl⟩, fun _ _ _ => ok_BadPattern F xc nf hm hga hrd hf, fun _ s u k => b0 s [u] k rfl⟩
theorem one_BadGroups {C S fI TT N0 : Addr} {nm0 q0 : Str} {bs0 : List Value} {sn0 : List Str} {sub0 : List Value} {ab0 : Bool} {col0 : Option Bool} {dd0 : Option Addr} {m0 m1 m2 m3 m5 : Option Value} {oc kV dc pm cd ct oT : Value} {od an dT : Option Addr} {sl slT : Array (Option Value)} {nT : Nat} (X : K.In h) (G : h.Ns mainGlobals mg)
    (hm : mg "SlopeError" = some (.ref S)) (hga : PySem.W.specialIn K (.ref S) "__getattribute__" = some (some (.builtin "type.__getattribute__"))) (hrd : PySem.W.readsIn K S (.type "type") = true) (hf : PySem.W.findCls K (.ref S) (.type "type") "__init__" = some (.val (.builtin "ValueError.__init__")))
    (aC : PySem.W.nsIn K mainGlobals "BadGroups" = some (some (.ref C)))
    (xL : K.lookup C = some (excClassObj nm0 q0 C N0 bs0 [.ref S, .type "ValueError", .type "Exception", .type "BaseException", .type "object"] true sn0 sub0 ab0 col0 dd0 m0 m1 m2 m3 m5 "ValueError.__new__"))
    (sa : PySem.W.findIn K (.ref C) "__setattr__" = some (some (.builtin "object.__setattr__"))) (ga : PySem.W.findIn K (.ref C) "__getattribute__" = some (some (.builtin "BaseException.__getattribute__"))) (gg : PySem.W.findIn K (.ref C) "__getattr__" = some none)
    (st : PySem.W.findIn K (.ref C) "__str__" = some (some (.builtin "BaseException.__str__"))) (ca : PySem.W.findIn K (.ref C) "__class__" = some (some (.builtin "object.__class__"))) (kC : PySem.W.keepIn K (.ref C) = true) (nf : PySem.W.findIn K (.ref C) "place" = some none)
    (iI : PySem.W.findIn K (.ref C) "__init__" = some (some (.ref fI))) (tI : PySem.W.typeIn K (.ref fI) = some (.type "function"))
    (lI : K.lookup fI = some ⟨oc, od, .func (PySem.W.fnOf "__init__" "BadGroups.__init__" (defArgs sBadGroups) (defBody sBadGroups) (defScope sBadGroups) (.ref TT) kV dc pm an cd ct), sl⟩) (cI : PySem.W.codeIn K cd "BadGroups.__init__" = true) (kI : PySem.W.keepIn K (.ref fI) = true)
    (lT : K.lookup TT = some ⟨oT, dT, .seq [Value.none].toArray nT, slT⟩) : One K mg S C 5 := by
  have xx : IsX K S C 5 := ⟨_, _, _, _, _, _, _, _, _, _, _, _, _, _, xL⟩
  have xc : XCls K C "ValueError.__init__" := one_xc (i := 5) (by decide) xx sa ga gg st ca kC
  have F : FunD K "__init__" "BadGroups.__init__" (defArgs sBadGroups) (defBody sBadGroups) (defScope sBadGroups) [.non] [] fI _ := ⟨⟨_, _, _, _, _, _, _, _, _, _, rfl, lI, cI, .inr ⟨by simp, TT, _, _, _, rfl, lT, rfl, .cons rfl .nil⟩, .inl rfl⟩, kI⟩
  have bp : ∃ ds, Vals [] ds ∧ Binds K _ ["self", "place"] ds := F.binds1 (ps := ["self", "place"]) 2 1 (by simp) rfl (fun _ _ _ _ _ _ _ us its hl hi => match us, hl, its, hi with | [_, _], _, [_], _ => ⟨_, rfl, rfl⟩)
  have b0 : ∃ ds, Vals [.non] ds ∧ Binds K _ ["self", "place"] ds := F.binds1 (ps := ["self", "place"]) 1 0 (by simp) rfl (fun _ _ _ _ _ _ _ us its hl hi => match us, hl, its, hi with | [_], _, [_], _ => ⟨_, rfl, rfl⟩)
  obtain ⟨its, bk⟩ := F.kbindsD (ps := ["self", "place"]) 1 ["place"] (fun us _ ws => us ++ ws) (by simp) (fun r1 _ r3 => r1.append r3) (fun _ _ _ _ _ _ _ us its ws hl hi hw => match us, hl, its, hi, ws, hw with | [_], _, [_], _, [_], _ => ⟨_, rfl, rfl⟩)
  obtain ⟨ds1, v1, bp⟩ := bp
  obtain ⟨ds0, v0, b0⟩ := b0
  cases v1
  match ds0, v0, b0 with
  | [u0], .cons r0 .nil, b0 =>
    cases r0
    exact ⟨PySem.W.mg_of X G aC, xx, xc, nf, fI, _, ⟨iI, tI, fun s u v k => bp s [u, v] k rfl, fun s u v k => bk.to s [u] [v] k rfl rfl⟩, fun _ _ _ => ok_BadGroups F xc nf hm hga hrd hf, fun _ s u k => b0 s [u] k rfl⟩
theorem one_BadStart {C S fI TT N0 : Addr} {nm0 q0 : Str} {bs0 : List Value} {sn0 : List Str} {sub0 : List Value} {ab0 : Bool} {col0 : Option Bool} {dd0 : Option Addr} {m0 m1 m2 m3 m5 : Option Value} {oc kV dc pm cd ct oT : Value} {od an dT : Option Addr} {sl slT : Array (Option Value)} {nT : Nat} (X : K.In h) (G : h.Ns mainGlobals mg)
    (hm : mg "SlopeError" = some (.ref S)) (hga : PySem.W.specialIn K (.ref S) "__getattribute__" = some (some (.builtin "type.__getattribute__"))) (hrd : PySem.W.readsIn K S (.type "type") = true) (hf : PySem.W.findCls K (.ref S) (.type "type") "__init__" = some (.val (.builtin "ValueError.__init__")))
    (aC : PySem.W.nsIn K mainGlobals "BadStart" = some (some (.ref C)))
    (xL : K.lookup C = some (excClassObj nm0 q0 C N0 bs0 [.ref S, .type "ValueError", .type "Exception", .type "BaseException", .type "object"] true sn0 sub0 ab0 col0 dd0 m0 m1 m2 m3 m5 "ValueError.__new__"))
    (sa : PySem.W.findIn K (.ref C) "__setattr__" = some (some (.builtin "object.__setattr__"))) (ga : PySem.W.findIn K (.ref C) "__getattribute__" = some (some (.builtin "BaseException.__getattribute__"))) (gg : PySem.W.findIn K (.ref C) "__getattr__" = some none)
    (st : PySem.W.findIn K (.ref C) "__str__" = some (some (.builtin "BaseException.__str__"))) (ca : PySem.W.findIn K (.ref C) "__class__" = some (some (.builtin "object.__class__"))) (kC : PySem.W.keepIn K (.ref C) = true) (nf : PySem.W.findIn K (.ref C) "place" = some none)
    (iI : PySem.W.findIn K (.ref C) "__init__" = some (some (.ref fI))) (tI : PySem.W.typeIn K (.ref fI) = some (.type "function"))
    (lI : K.lookup fI = some ⟨oc, od, .func (PySem.W.fnOf "__init__" "BadStart.__init__" (defArgs sBadStart) (defBody sBadStart) (defScope sBadStart) (.ref TT) kV dc pm an cd ct), sl⟩) (cI : PySem.W.codeIn K cd "BadStart.__init__" = true) (kI : PySem.W.keepIn K (.ref fI) = true)
    (lT : K.lookup TT = some ⟨oT, dT, .seq [Value.none].toArray nT, slT⟩) : One K mg S C 16 := by
  have xx : IsX K S C 16 := ⟨_, _, _, _, _, _, _, _, _, _, _, _, _, _, xL⟩
  have xc : XCls K C "ValueError.__init__" := one_xc (i := 16) (by decide) xx sa ga gg st ca kC
  have F : FunD K "__init__" "BadStart.__init__" (defArgs sBadStart) (defBody sBadStart) (defScope sBadStart) [.non] [] fI _ := ⟨⟨_, _, _, _, _, _, _, _, _, _, rfl, lI, cI, .inr ⟨by simp, TT, _, _, _, rfl, lT, rfl, .cons rfl .nil⟩, .inl rfl⟩, kI⟩
  have bp : ∃ ds, Vals [] ds ∧ Binds K _ ["self", "place"] ds := F.binds1 (ps := ["self", "place"]) 2 1 (by simp) rfl (fun _ _ _ _ _ _ _ us its hl hi => match us, hl, its, hi with | [_, _], _, [_], _ => ⟨_, rfl, rfl⟩)
  have b0 : ∃ ds, Vals [.non] ds ∧ Binds K _ ["self", "place"] ds := F.binds1 (ps := ["self", "place"]) 1 0 (by simp) rfl (fun _ _ _ _ _ _ _ us its hl hi => match us, hl, its, hi with | [_], _, [_], _ => ⟨_, rfl, rfl⟩)
  obtain ⟨its, bk⟩ := F.kbindsD (ps := ["self", "place"]) 1 ["place"] (fun us _ ws => us ++ ws) (by simp) (fun r1 _ r3 => r1.append r3) (fun _ _ _ _ _ _ _ us its ws hl hi hw => match us, hl, its, hi, ws, hw with | [_], _, [_], _, [_], _ => ⟨_, rfl, rfl⟩)
  obtain ⟨ds1, v1, bp⟩ := bp
  obtain ⟨ds0, v0, b0⟩ := b0
  cases v1
  match ds0, v0, b0 with
  | [u0], .cons r0 .nil, b0 =>
    cases r0
    exact ⟨PySem.W.mg_of X G aC, xx, xc, nf, fI, _, ⟨iI, tI, fun s u v k => bp s [u, v] k rfl, fun s u v k => bk.to s [u] [v] k rfl rfl⟩, fun _ _ _ => ok_BadStart F xc nf hm hga hrd hf, fun _ s u k => b0 s [u] k rfl⟩
theorem one_BadMap {C S fI TT N0 : Addr} {nm0 q0 : Str} {bs0 : List Value} {sn0 : List Str} {sub0 : List Value} {ab0 : Bool} {col0 : Option Bool} {dd0 : Option Addr} {m0 m1 m2 m3 m5 : Option Value} {oc kV dc pm cd ct oT : Value} {od an dT : Option Addr} {sl slT : Array (Option Value)} {nT : Nat} (X : K.In h) (G : h.Ns mainGlobals mg)
    (hm : mg "SlopeError" = some (.ref S)) (hga : PySem.W.specialIn K (.ref S) "__getattribute__" = some (some (.builtin "type.__getattribute__"))) (hrd : PySem.W.readsIn K S (.type "type") = true) (hf : PySem.W.findCls K (.ref S) (.type "type") "__init__" = some (.val (.builtin "ValueError.__init__")))
    (aC : PySem.W.nsIn K mainGlobals "BadMap" = some (some (.ref C)))
    (xL : K.lookup C = some (excClassObj nm0 q0 C N0 bs0 [.ref S, .type "ValueError", .type "Exception", .type "BaseException", .type "object"] true sn0 sub0 ab0 col0 dd0 m0 m1 m2 m3 m5 "ValueError.__new__"))
    (sa : PySem.W.findIn K (.ref C) "__setattr__" = some (some (.builtin "object.__setattr__"))) (ga : PySem.W.findIn K (.ref C) "__getattribute__" = some (some (.builtin "BaseException.__getattribute__"))) (gg : PySem.W.findIn K (.ref C) "__getattr__" = some none)
    (st : PySem.W.findIn K (.ref C) "__str__" = some (some (.builtin "BaseException.__str__"))) (ca : PySem.W.findIn K (.ref C) "__class__" = some (some (.builtin "object.__class__"))) (kC : PySem.W.keepIn K (.ref C) = true) (nf : PySem.W.findIn K (.ref C) "place" = some none)
    (iI : PySem.W.findIn K (.ref C) "__init__" = some (some (.ref fI))) (tI : PySem.W.typeIn K (.ref fI) = some (.type "function"))
    (lI : K.lookup fI = some ⟨oc, od, .func (PySem.W.fnOf "__init__" "BadMap.__init__" (defArgs sBadMap) (defBody sBadMap) (defScope sBadMap) (.ref TT) kV dc pm an cd ct), sl⟩) (cI : PySem.W.codeIn K cd "BadMap.__init__" = true) (kI : PySem.W.keepIn K (.ref fI) = true)
    (lT : K.lookup TT = some ⟨oT, dT, .seq [Value.none].toArray nT, slT⟩) : One K mg S C 7 := by
  have xx : IsX K S C 7 := ⟨_, _, _, _, _, _, _, _, _, _, _, _, _, _, xL⟩
  have xc : XCls K C "ValueError.__init__" := one_xc (i := 7) (by decide) xx sa ga gg st ca kC
  have F : FunD K "__init__" "BadMap.__init__" (defArgs sBadMap) (defBody sBadMap) (defScope sBadMap) [.non] [] fI _ := ⟨⟨_, _, _, _, _, _, _, _, _, _, rfl, lI, cI, .inr ⟨by simp, TT, _, _, _, rfl, lT, rfl, .cons rfl .nil⟩, .inl rfl⟩, kI⟩
  have bp : ∃ ds, Vals [] ds ∧ Binds K _ ["self", "place"] ds := F.binds1 (ps := ["self", "place"]) 2 1 (by simp) rfl (fun _ _ _ _ _ _ _ us its hl hi => match us, hl, its, hi with | [_, _], _, [_], _ => ⟨_, rfl, rfl⟩)
  have b0 : ∃ ds, Vals [.non] ds ∧ Binds K _ ["self", "place"] ds := F.binds1 (ps := ["self", "place"]) 1 0 (by simp) rfl (fun _ _ _ _ _ _ _ us its hl hi => match us, hl, its, hi with | [_], _, [_], _ => ⟨_, rfl, rfl⟩)
  obtain ⟨its, bk⟩ := F.kbindsD (ps := ["self", "place"]) 1 ["place"] (fun us _ ws => us ++ ws) (by simp) (fun r1 _ r3 => r1.append r3) (fun _ _ _ _ _ _ _ us its ws hl hi hw => match us, hl, its, hi, ws, hw with | [_], _, [_], _, [_], _ => ⟨_, rfl, rfl⟩)
  obtain ⟨ds1, v1, bp⟩ := bp
  obtain ⟨ds0, v0, b0⟩ := b0
  cases v1
  match ds0, v0, b0 with
  | [u0], .cons r0 .nil, b0 =>
    cases r0
    exact ⟨PySem.W.mg_of X G aC, xx, xc, nf, fI, _, ⟨iI, tI, fun s u v k => bp s [u, v] k rfl, fun s u v k => bk.to s [u] [v] k rfl rfl⟩, fun _ _ _ => ok_BadMap F xc nf hm hga hrd hf, fun _ s u k => b0 s [u] k rfl⟩
theorem one_BadDeed {C S fI TT N0 : Addr} {nm0 q0 : Str} {bs0 : List Value} {sn0 : List Str} {sub0 : List Value} {ab0 : Bool} {col0 : Option Bool} {dd0 : Option Addr} {m0 m1 m2 m3 m5 : Option Value} {oc kV dc pm cd ct oT : Value} {od an dT : Option Addr} {sl slT : Array (Option Value)} {nT : Nat} (X : K.In h) (G : h.Ns mainGlobals mg)
    (hm : mg "SlopeError" = some (.ref S)) (hga : PySem.W.specialIn K (.ref S) "__getattribute__" = some (some (.builtin "type.__getattribute__"))) (hrd : PySem.W.readsIn K S (.type "type") = true) (hf : PySem.W.findCls K (.ref S) (.type "type") "__init__" = some (.val (.builtin "ValueError.__init__")))
    (aC : PySem.W.nsIn K mainGlobals "BadDeed" = some (some (.ref C)))
    (xL : K.lookup C = some (excClassObj nm0 q0 C N0 bs0 [.ref S, .type "ValueError", .type "Exception", .type "BaseException", .type "object"] true sn0 sub0 ab0 col0 dd0 m0 m1 m2 m3 m5 "ValueError.__new__"))
    (sa : PySem.W.findIn K (.ref C) "__setattr__" = some (some (.builtin "object.__setattr__"))) (ga : PySem.W.findIn K (.ref C) "__getattribute__" = some (some (.builtin "BaseException.__getattribute__"))) (gg : PySem.W.findIn K (.ref C) "__getattr__" = some none)
    (st : PySem.W.findIn K (.ref C) "__str__" = some (some (.builtin "BaseException.__str__"))) (ca : PySem.W.findIn K (.ref C) "__class__" = some (some (.builtin "object.__class__"))) (kC : PySem.W.keepIn K (.ref C) = true) (nf : PySem.W.findIn K (.ref C) "place" = some none)
    (iI : PySem.W.findIn K (.ref C) "__init__" = some (some (.ref fI))) (tI : PySem.W.typeIn K (.ref fI) = some (.type "function"))
    (lI : K.lookup fI = some ⟨oc, od, .func (PySem.W.fnOf "__init__" "BadDeed.__init__" (defArgs sBadDeed) (defBody sBadDeed) (defScope sBadDeed) (.ref TT) kV dc pm an cd ct), sl⟩) (cI : PySem.W.codeIn K cd "BadDeed.__init__" = true) (kI : PySem.W.keepIn K (.ref fI) = true)
    (lT : K.lookup TT = some ⟨oT, dT, .seq [Value.none].toArray nT, slT⟩) : One K mg S C 2 := by
  have xx : IsX K S C 2 := ⟨_, _, _, _, _, _, _, _, _, _, _, _, _, _, xL⟩
  have xc : XCls K C "ValueError.__init__" := one_xc (i := 2) (by decide) xx sa ga gg st ca kC
  have F : FunD K "__init__" "BadDeed.__init__" (defArgs sBadDeed) (defBody sBadDeed) (defScope sBadDeed) [.non] [] fI _ := ⟨⟨_, _, _, _, _, _, _, _, _, _, rfl, lI, cI, .inr ⟨by simp, TT, _, _, _, rfl, lT, rfl, .cons rfl .nil⟩, .inl rfl⟩, kI⟩
  have bp : ∃ ds, Vals [] ds ∧ Binds K _ ["self", "place"] ds := F.binds1 (ps := ["self", "place"]) 2 1 (by simp) rfl (fun _ _ _ _ _ _ _ us its hl hi => match us, hl, its, hi with | [_, _], _, [_], _ => ⟨_, rfl, rfl⟩)
  have b0 : ∃ ds, Vals [.non] ds ∧ Binds K _ ["self", "place"] ds := F.binds1 (ps := ["self", "place"]) 1 0 (by simp) rfl (fun _ _ _ _ _ _ _ us its hl hi => match us, hl, its, hi with | [_], _, [_], _ => ⟨_, rfl, rfl⟩)
  obtain ⟨its, bk⟩ := F.kbindsD (ps := ["self", "place"]) 1 ["place"] (fun us _ ws => us ++ ws) (by simp) (fun r1 _ r3 => r1.append r3) (fun _ _ _ _ _ _ _ us its ws hl hi hw => match us, hl, its, hi, ws, hw with | [_], _, [_], _, [_], _ => ⟨_, rfl, rfl⟩)
  obtain ⟨ds1, v1, bp⟩ := bp
  obtain ⟨ds0, v0, b0⟩ := b0
  cases v1
  match ds0, v0, b0 with
  | [u0], .cons r0 .nil, b0 =>
    cases r0
    exact ⟨PySem.W.mg_of X G aC, xx, xc, nf, fI, _, ⟨iI, tI, fun s u v k => bp s [u, v] k rfl, fun s u v k => bk.to s [u] [v] k rfl rfl⟩, fun _ _ _ => ok_BadDeed F xc nf hm hga hrd hf, fun _ s u k => b0 s [u] k rfl⟩
theorem one_TooMany {C S fI N0 : Addr} {nm0 q0 : Str} {bs0 : List Value} {sn0 : List Str} {sub0 : List Value} {ab0 : Bool} {col0 : Option Bool} {dd0 : Option Addr} {m0 m1 m2 m3 m5 : Option Value} {oc kV dc pm cd ct : Value} {od an : Option Addr} {sl : Array (Option Value)} (X : K.In h) (G : h.Ns mainGlobals mg)
    (hm : mg "OverflowError" = none)
    (aC : PySem.W.nsIn K mainGlobals "TooMany" = some (some (.ref C)))
    (xL : K.lookup C = some (excClassObj nm0 q0 C N0 bs0 ofTail true sn0 sub0 ab0 col0 dd0 m0 m1 m2 m3 m5 "OverflowError.__new__"))
    (sa : PySem.W.findIn K (.ref C) "__setattr__" = some (some (.builtin "object.__setattr__"))) (ga : PySem.W.findIn K (.ref C) "__getattribute__" = some (some (.builtin "BaseException.__getattribute__"))) (gg : PySem.W.findIn K (.ref C) "__getattr__" = some none)
    (st : PySem.W.findIn K (.ref C) "__str__" = some (some (.builtin "BaseException.__str__"))) (ca : PySem.W.findIn K (.ref C) "__class__" = some (some (.builtin "object.__class__"))) (kC : PySem.W.keepIn K (.ref C) = true) (nf : PySem.W.findIn K (.ref C) "most" = some none)
    (iI : PySem.W.findIn K (.ref C) "__init__" = some (some (.ref fI))) (tI : PySem.W.typeIn K (.ref fI) = some (.type "function"))
    (lI : K.lookup fI = some ⟨oc, od, .func (PySem.W.fnOf "__init__" "TooMany.__init__" (defArgs sTooMany) (defBody sTooMany) (defScope sTooMany) .none kV dc pm an cd ct), sl⟩) (cI : PySem.W.codeIn K cd "TooMany.__init__" = true) (kI : PySem.W.keepIn K (.ref fI) = true) : One K mg S C 20 := by
  have xx : IsX K S C 20 := ⟨_, _, _, _, _, _, _, _, _, _, _, _, _, _, xL⟩
  have xc : XCls K C "OverflowError.__init__" := one_xc (i := 20) (by decide) xx sa ga gg st ca kC
  have F : FunD K "__init__" "TooMany.__init__" (defArgs sTooMany) (defBody sTooMany) (defScope sTooMany) [] [] fI _ := ⟨⟨_, _, _, _, _, _, _, _, _, _, rfl, lI, cI, .inl ⟨rfl, rfl⟩, .inl rfl⟩, kI⟩
  exact ⟨PySem.W.mg_of X G aC, xx, xc, nf, fI, _, ⟨iI, tI, fun s u v k => .of_eq (by rfl), fun s u v k => .of_eq (by rfl)⟩, fun _ _ _ => ok_TooMany F xc nf hm, fun z => absurd rfl z⟩
theorem one_NoSuch {C S fI TT N0 : Addr} {nm0 q0 : Str} {bs0 : List Value} {sn0 : List Str} {sub0 : List Value} {ab0 : Bool} {col0 : Option Bool} {dd0 : Option Addr} {m0 m1 m2 m3 m5 : Option Value} {oc kV dc pm cd ct oT : Value} {od an dT : Option Addr} {sl slT : Array (Option Value)} {nT : Nat} (X : K.In h) (G : h.Ns mainGlobals mg)
    (hm : mg "LookupError" = none)
    (aC : PySem.W.nsIn K mainGlobals "NoSuch" = some (some (.ref C)))
    (xL : K.lookup C = some (excClassObj nm0 q0 C N0 bs0 luTail true sn0 sub0 ab0 col0 dd0 m0 m1 m2 m3 m5 "LookupError.__new__"))
    (sa : PySem.W.findIn K (.ref C) "__setattr__" = some (some (.builtin "object.__setattr__"))) (ga : PySem.W.findIn K (.ref C) "__getattribute__" = some (some (.builtin "BaseException.__getattribute__"))) (gg : PySem.W.findIn K (.ref C) "__getattr__" = some none)
    (st : PySem.W.findIn K (.ref C) "__str__" = some (some (.builtin "BaseException.__str__"))) (ca : PySem.W.findIn K (.ref C) "__class__" = some (some (.builtin "object.__class__"))) (kC : PySem.W.keepIn K (.ref C) = true) (nf : PySem.W.findIn K (.ref C) "value" = some none)
    (iI : PySem.W.findIn K (.ref C) "__init__" = some (some (.ref fI))) (tI : PySem.W.typeIn K (.ref fI) = some (.type "function"))
    (lI : K.lookup fI = some ⟨oc, od, .func (PySem.W.fnOf "__init__" "NoSuch.__init__" (defArgs sNoSuch) (defBody sNoSuch) (defScope sNoSuch) (.ref TT) kV dc pm an cd ct), sl⟩) (cI : PySem.W.codeIn K cd "NoSuch.__init__" = true) (kI : PySem.W.keepIn K (.ref fI) = true)
    (lT : K.lookup TT = some ⟨oT, dT, .seq [Value.none].toArray nT, slT⟩) : One K mg S C 19 := by
  have xx : IsX K S C 19 := ⟨_, _, _, _, _, _, _, _, _, _, _, _, _, _, xL⟩
  have xc : XCls K C "LookupError.__init__" := one_xc (i := 19) (by decide) xx sa ga gg st ca kC
  have F : FunD K "__init__" "NoSuch.__init__" (defArgs sNoSuch) (defBody sNoSuch) (defScope sNoSuch) [.non] [] fI _ := ⟨⟨_, _, _, _, _, _, _, _, _, _, rfl, lI, cI, .inr ⟨by simp, TT, _, _, _, rfl, lT, rfl, .cons rfl .nil⟩, .inl rfl⟩, kI⟩
  have bp : ∃ ds, Vals [] ds ∧ Binds K _ ["self", "value"] ds := F.binds1 (ps := ["self", "value"]) 2 1 (by simp) rfl (fun _ _ _ _ _ _ _ us its hl hi => match us, hl, its, hi with | [_, _], _, [_], _ => ⟨_, rfl, rfl⟩)
  have b0 : ∃ ds, Vals [.non] ds ∧ Binds K _ ["self", "value"] ds := F.binds1 (ps := ["self", "value"]) 1 0 (by simp) rfl (fun _ _ _ _ _ _ _ us its hl hi => match us, hl, its, hi with | [_], _, [_], _ => ⟨_, rfl, rfl⟩)
  obtain ⟨its, bk⟩ := F.kbindsD (ps := ["self", "value"]) 1 ["value"] (fun us _ ws => us ++ ws) (by simp) (fun r1 _ r3 => r1.append r3) (fun _ _ _ _ _ _ _ us its ws hl hi hw => match us, hl, its, hi, ws, hw with | [_], _, [_], _, [_], _ => ⟨_, rfl, rfl⟩)
  obtain ⟨ds1, v1, bp⟩ := bp
  obtain ⟨ds0, v0, b0⟩ := b0
  cases v1
  match ds0, v0, b0 with
  | [u0], .cons r0 .nil, b0 =>
    cases r0
    exact ⟨PySem.W.mg_of X G aC, xx, xc, nf, fI, _, ⟨iI, tI, fun s u v k => bp s [u, v] k rfl, fun s u v k => bk.to s [u] [v] k rfl rfl⟩, fun _ _ _ => ok_NoSuch F xc nf hm, fun _ s u k => b0 s [u] k rfl⟩
theorem nodup_at {l : List Addr} (h : l.Nodup) {i j : Nat} (hi : i < l.length) (hj : j < l.length) (e : l[i] = l[j]) : i = j := by
  induction l generalizing i j with
  | nil => exact absurd hi (Nat.not_lt_zero _)
  | cons a r ih =>
    obtain ⟨h1, h2⟩ := List.nodup_cons.mp h
    cases i with
    | zero =>
      cases j with
      | zero => rfl
      | succ j => exact absurd (show a ∈ r by rw [show a = r[j]'(by simpa using hj) from e]; exact List.getElem_mem _) h1
    | succ i =>
      cases j with
      | zero => exact absurd (show a ∈ r by rw [show a = r[i]'(by simpa using hi) from e.symm]; exact List.getElem_mem _) h1
      | succ j => exact congrArg Nat.succ (ih h2 (by simpa using hi) (by simpa using hj) e)
/-- the addresses by number -/
def cOf (l : List Addr) (i : Nat) : Addr := l.getD i 0
theorem cOf_get {l : List Addr} {i : Nat} (h : i < l.length) : cOf l i = l[i] := by
  unfold cOf
  rw [List.getD_eq_getElem?_getD, List.getElem?_eq_getElem h]; rfl
theorem txt_mk {S C0 C1 C2 C3 C4 C5 C6 C7 C8 C9 C10 C11 C12 C13 C14 C15 C16 C17 C18 C19 C20 : Addr} (o0 : One K mg S C0 0) (o1 : One K mg S C1 1) (o2 : One K mg S C2 2) (o3 : One K mg S C3 3) (o4 : One K mg S C4 4) (o5 : One K mg S C5 5) (o6 : One K mg S C6 6) (o7 : One K mg S C7 7) (o8 : One K mg S C8 8) (o9 : One K mg S C9 9) (o10 : One K mg S C10 10) (o11 : One K mg S C11 11) (o12 : One K mg S C12 12) (o13 : One K mg S C13 13) (o14 : One K mg S C14 14) (o15 : One K mg S C15 15) (o16 : One K mg S C16 16) (o17 : One K mg S C17 17) (o18 : One K mg S C18 18) (o19 : One K mg S C19 19) (o20 : One K mg S C20 20) (hS : PySem.W.isClsIn K S = true) (tS : PySem.W.typeIn K (.ref S) = some (.type "type")) (nd : [S, C0, C1, C2, C3, C4, C5, C6, C7, C8, C9, C10, C11, C12, C13, C14, C15, C16, C17, C18, C19, C20].Nodup)
    (mS : mg "SlopeError" = some (.ref S)) (nV : mg "ValueError" = none) (nL : mg "LookupError" = none) (nO : mg "OverflowError" = none) (nI : mg "isinstance" = none) : ∀ (P : Program) (w : World) (base : Heap), Txt P w K mg base (cOf [C0, C1, C2, C3, C4, C5, C6, C7, C8, C9, C10, C11, C12, C13, C14, C15, C16, C17, C18, C19, C20]) S := by
  intro P w base
  have all : ∀ i, i < 21 → One K mg S (cOf [C0, C1, C2, C3, C4, C5, C6, C7, C8, C9, C10, C11, C12, C13, C14, C15, C16, C17, C18, C19, C20] i) i := by
    intro i hi
    match i, hi with
    | 0, _ => exact o0
    | 1, _ => exact o1
    | 2, _ => exact o2
    | 3, _ => exact o3
    | 4, _ => exact o4
    | 5, _ => exact o5
    | 6, _ => exact o6
    | 7, _ => exact o7
    | 8, _ => exact o8
    | 9, _ => exact o9
    | 10, _ => exact o10
    | 11, _ => exact o11
    | 12, _ => exact o12
    | 13, _ => exact o13
    | 14, _ => exact o14
    | 15, _ => exact o15
    | 16, _ => exact o16
    | 17, _ => exact o17
    | 18, _ => exact o18
    | 19, _ => exact o19
    | 20, _ => exact o20
    | i + 21, hi => exact absurd hi (by omega)
  have nS : ∀ i, i < 21 → cOf [C0, C1, C2, C3, C4, C5, C6, C7, C8, C9, C10, C11, C12, C13, C14, C15, C16, C17, C18, C19, C20] i ≠ S := by
    intro i hi e
    have h1 := (List.nodup_cons.mp nd).1
    refine h1 ?_
    rw [← e]
    rw [cOf_get (show i < 21 from hi)]
    exact List.getElem_mem _
  have nn : ∀ i j, i < 21 → j < 21 → i ≠ j → cOf [C0, C1, C2, C3, C4, C5, C6, C7, C8, C9, C10, C11, C12, C13, C14, C15, C16, C17, C18, C19, C20] i ≠ cOf [C0, C1, C2, C3, C4, C5, C6, C7, C8, C9, C10, C11, C12, C13, C14, C15, C16, C17, C18, C19, C20] j := by
    intro i j hi hj hn e
    have h1 := (List.nodup_cons.mp nd).2
    rw [cOf_get (show i < 21 from hi), cOf_get (show j < 21 from hj)] at e
    exact hn (nodup_at h1 hi hj e)
  exact ⟨fun i hi => (all i hi).mgC, mS, fun i hi => (all i hi).xc, fun i hi => (all i hi).noF, fun i hi => let ⟨fI, fd, a, b, c⟩ := (all i hi).mkE; ⟨fI, fd, a, b P w base, c⟩, fun i j hi hj => kit_own (all i hi).isx (all j hj).isx (fun e => by rw [e]) (nn i j hi hj) (nS j hj),
    fun i hi => kit_base (all i hi).isx hS tS (nS i hi), fun i hi => kit_type (all i hi).isx (by decide +kernel) (tl_V i hi), fun i hi => kit_type (all i hi).isx (by decide +kernel) (tl_L i hi), fun i hi => kit_type (all i hi).isx (by decide +kernel) (tl_O i hi), nV, nL, nO, nI⟩
end
end K99

namespace K99
open PySem PySem.Spec PyProof.Rows L2 XV
theorem all_mk {l : PySem.W.OpenLaw} {w : World} {K : PySem.W.Frag} {h : Heap} {mg : Str → Option Value} {C : Nat → Addr} {S fa f0 f1 f2 f3 f4 f5 f6 f7 : Addr} (X : K.In h) (G : h.Ns mainGlobals mg) (hfa : mg "law" = some (.ref fa)) (T : ∀ (P : Program) (w : World) (base : Heap), Txt P w K mg base C S)
    {od0 an0 od1 an1 od2 an2 od3 an3 od4 an4 od5 an5 od6 an6 od7 an7 : Option Addr} {sl0 sl1 sl2 sl3 sl4 sl5 sl6 sl7 : Array (Option Value)} {oc0 kV0 dc0 pm0 cd0 ct0 oc1 kV1 dc1 pm1 cd1 ct1 oc2 kV2 dc2 pm2 cd2 ct2 oc3 kV3 dc3 pm3 cd3 ct3 oc4 kV4 dc4 pm4 cd4 ct4 oc5 kV5 dc5 pm5 cd5 ct5 oc6 kV6 dc6 pm6 cd6 ct6 oc7 kV7 dc7 pm7 cd7 ct7 : Value}
    (a0 : PySem.W.nsIn K mainGlobals "_law_mixed" = some (some (.ref f0))) (l0 : K.lookup f0 = some ⟨oc0, od0, .func (PySem.W.fnOf "_law_mixed" "_law_mixed" (defArgs sMixed) (defBody sMixed) (defScope sMixed) .none kV0 dc0 pm0 an0 cd0 ct0), sl0⟩) (c0 : PySem.W.codeIn K cd0 "_law_mixed" = true) (k0 : PySem.W.keepIn K (.ref f0) = true)
    (a1 : PySem.W.nsIn K mainGlobals "_law_draw" = some (some (.ref f1))) (l1 : K.lookup f1 = some ⟨oc1, od1, .func (PySem.W.fnOf "_law_draw" "_law_draw" (defArgs sDraw) (defBody sDraw) (defScope sDraw) .none kV1 dc1 pm1 an1 cd1 ct1), sl1⟩) (c1 : PySem.W.codeIn K cd1 "_law_draw" = true) (k1 : PySem.W.keepIn K (.ref f1) = true)
    (a2 : PySem.W.nsIn K mainGlobals "_law_digit" = some (some (.ref f2))) (l2 : K.lookup f2 = some ⟨oc2, od2, .func (PySem.W.fnOf "_law_digit" "_law_digit" (defArgs sDigit) (defBody sDigit) (defScope sDigit) .none kV2 dc2 pm2 an2 cd2 ct2), sl2⟩) (c2 : PySem.W.codeIn K cd2 "_law_digit" = true) (k2 : PySem.W.keepIn K (.ref f2) = true)
    (a3 : PySem.W.nsIn K mainGlobals "_law_kinds" = some (some (.ref f3))) (l3 : K.lookup f3 = some ⟨oc3, od3, .func (PySem.W.fnOf "_law_kinds" "_law_kinds" (defArgs sKinds) (defBody sKinds) (defScope sKinds) .none kV3 dc3 pm3 an3 cd3 ct3), sl3⟩) (c3 : PySem.W.codeIn K cd3 "_law_kinds" = true) (k3 : PySem.W.keepIn K (.ref f3) = true)
    (a4 : PySem.W.nsIn K mainGlobals "_law_valued" = some (some (.ref f4))) (l4 : K.lookup f4 = some ⟨oc4, od4, .func (PySem.W.fnOf "_law_valued" "_law_valued" (defArgs sValued) (defBody sValued) (defScope sValued) .none kV4 dc4 pm4 an4 cd4 ct4), sl4⟩) (c4 : PySem.W.codeIn K cd4 "_law_valued" = true) (k4 : PySem.W.keepIn K (.ref f4) = true)
    (a5 : PySem.W.nsIn K mainGlobals "_law_placed" = some (some (.ref f5))) (l5 : K.lookup f5 = some ⟨oc5, od5, .func (PySem.W.fnOf "_law_placed" "_law_placed" (defArgs sPlaced) (defBody sPlaced) (defScope sPlaced) .none kV5 dc5 pm5 an5 cd5 ct5), sl5⟩) (c5 : PySem.W.codeIn K cd5 "_law_placed" = true) (k5 : PySem.W.keepIn K (.ref f5) = true)
    (a6 : PySem.W.nsIn K mainGlobals "_law_right" = some (some (.ref f6))) (l6 : K.lookup f6 = some ⟨oc6, od6, .func (PySem.W.fnOf "_law_right" "_law_right" (defArgs sRight) (defBody sRight) (defScope sRight) .none kV6 dc6 pm6 an6 cd6 ct6), sl6⟩) (c6 : PySem.W.codeIn K cd6 "_law_right" = true) (k6 : PySem.W.keepIn K (.ref f6) = true)
    (a7 : PySem.W.nsIn K mainGlobals "law" = some (some (.ref f7))) (l7 : K.lookup f7 = some ⟨oc7, od7, .func (PySem.W.fnOf "law" "law" (defArgs sLaw) (defBody sLaw) (defScope sLaw) .none kV7 dc7 pm7 an7 cd7 ct7), sl7⟩) (c7 : PySem.W.codeIn K cd7 "law" = true) (k7 : PySem.W.keepIn K (.ref f7) = true)
    (zR : PySem.W.nsIn K mainGlobals "range" = some none) (zE : PySem.W.nsIn K mainGlobals "enumerate" = some none) (zS : PySem.W.nsIn K mainGlobals "sum" = some none) (zT : PySem.W.nsIn K mainGlobals "str" = some none) :
    ∃ fd : FuncData, (∀ (s : Shared) (v : Value), BindsTo s fd ⟨[v], []⟩ [("script", v)]) ∧ ∀ base : Heap, K.In base → base.Ns mainGlobals mg → FnOk l.prog w K mg base CX0 5 fa fd ["script"] (spLaw K) := by
  have e := hfa.symm.trans (PySem.W.mg_of X G a7)
  cases e
  have F0 := fun_mk (st := sMixed) l0 c0 k0
  have F1 := fun_mk (st := sDraw) l1 c1 k1
  have F2 := fun_mk (st := sDigit) l2 c2 k2
  have F3 := fun_mk (st := sKinds) l3 c3 k3
  have F4 := fun_mk (st := sValued) l4 c4 k4
  have F5 := fun_mk (st := sPlaced) l5 c5 k5
  have F6 := fun_mk (st := sRight) l6 c6 k6
  have F7 := fun_mk (st := sLaw) l7 c7 k7
  have b0 := F0.binds (ps := ["cell", "k"]) fun _ _ _ _ _ _ us hl => match us, hl with | [_, _], _ => rfl
  have b1 := F1.binds (ps := ["cell", "k"]) fun _ _ _ _ _ _ us hl => match us, hl with | [_, _], _ => rfl
  have b2 := F2.binds (ps := ["state", "below"]) fun _ _ _ _ _ _ us hl => match us, hl with | [_, _], _ => rfl
  have b3 := F3.binds (ps := ["e"]) fun _ _ _ _ _ _ us hl => match us, hl with | [_], _ => rfl
  have b4 := F4.binds (ps := ["thing"]) fun _ _ _ _ _ _ us hl => match us, hl with | [_], _ => rfl
  have b5 := F5.binds (ps := ["thing"]) fun _ _ _ _ _ _ us hl => match us, hl with | [_], _ => rfl
  have b6 := F6.binds (ps := ["thing"]) fun _ _ _ _ _ _ us hl => match us, hl with | [_], _ => rfl
  exact ⟨PySem.W.fnOf "law" "law" (defArgs sLaw) (defBody sLaw) (defScope sLaw) .none kV7 dc7 pm7 an7 cd7 ct7, fun s v => .of_eq rfl, fun base _ _ =>
    ok_law F7 (T l.prog w base) F0 b0 (PySem.W.mg_of X G a0) F1 b1 (PySem.W.mg_of X G a1) F2 b2 (PySem.W.mg_of X G a2) F3 b3 (PySem.W.mg_of X G a3) F4 b4 (PySem.W.mg_of X G a4) F5 b5 (PySem.W.mg_of X G a5) F6 b6 (PySem.W.mg_of X G a6)
      (PySem.W.mg_none_of X G zR) (PySem.W.mg_none_of X G zE) (PySem.W.mg_none_of X G zS) (PySem.W.mg_none_of X G zT)⟩
end K99
open PySem PySem.W PyProof.Rows
set_option maxHeartbeats 0 in
theorem PySem.Challenge.cw_allslopes_k99_errors_by_hand_holds : PySem.Challenge.rw_allslopes_k99_errors_by_hand.Holds := by
  w_on; o_law; k_head; (case hw => w_witness2)
  k_fill
  refine L2.walk_of (l := PySem.Challenge.rw_allslopes_k99_errors_by_hand) (n := 63) (k := 5) (x := "script") (CX := fun _ => L2.CX0) (sp := fun w => K99.spLaw _) rfl (by decide) rfl ⟨rfl, by decide, by decide⟩ (fun w h Y => PySem.W.kIn_of Y) ?F (fun _ _ a ns hl _ hS => ⟨a, ns, rfl, hS, hl, fun _ => rfl⟩) (fun _ _ _ _ _ h => h)
  case F =>
    intro w mg fa h KX G hmg
    refine' K99.all_mk KX G hmg (K99.txt_mk (K99.one_BadChain KX G (PySem.W.mg_of KX G ?S0) ?S1 ?S2 ?S3 ?aC0 ?xL0 ?sa0 ?ga0 ?gg0 ?st0 ?ca0 ?kC0 ?nf0 ?iI0 ?tI0 ?lI0 ?cI0 ?kI0 ?lT0) (K99.one_BadCode KX G (PySem.W.mg_of KX G ?S0) ?S1 ?S2 ?S3 ?aC1 ?xL1 ?sa1 ?ga1 ?gg1 ?st1 ?ca1 ?kC1 ?nf1 ?iI1 ?tI1 ?lI1 ?cI1 ?kI1 ?lT1) (K99.one_BadDeed KX G (PySem.W.mg_of KX G ?S0) ?S1 ?S2 ?S3 ?aC2 ?xL2 ?sa2 ?ga2 ?gg2 ?st2 ?ca2 ?kC2 ?nf2 ?iI2 ?tI2 ?lI2 ?cI2 ?kI2 ?lT2) (K99.one_BadExpression KX G (PySem.W.mg_of KX G ?S0) ?S1 ?S2 ?S3 ?aC3 ?xL3 ?sa3 ?ga3 ?gg3 ?st3 ?ca3 ?kC3 ?nf3 ?iI3 ?tI3 ?lI3 ?cI3 ?kI3 ?lT3) (K99.one_BadFraction KX G (PySem.W.mg_of KX G ?S0) ?S1 ?S2 ?S3 ?aC4 ?xL4 ?sa4 ?ga4 ?gg4 ?st4 ?ca4 ?kC4 ?nf4 ?iI4 ?tI4 ?lI4 ?cI4 ?kI4 ?lT4) (K99.one_BadGroups KX G (PySem.W.mg_of KX G ?S0) ?S1 ?S2 ?S3 ?aC5 ?xL5 ?sa5 ?ga5 ?gg5 ?st5 ?ca5 ?kC5 ?nf5 ?iI5 ?tI5 ?lI5 ?cI5 ?kI5 ?lT5) (K99.one_BadLinear KX G (PySem.W.mg_of KX G ?S0) ?S1 ?S2 ?S3 ?aC6 ?xL6 ?sa6 ?ga6 ?gg6 ?st6 ?ca6 ?kC6 ?nf6 ?iI6 ?tI6 ?lI6 ?cI6 ?kI6 ?lT6) (K99.one_BadMap KX G (PySem.W.mg_of KX G ?S0) ?S1 ?S2 ?S3 ?aC7 ?xL7 ?sa7 ?ga7 ?gg7 ?st7 ?ca7 ?kC7 ?nf7 ?iI7 ?tI7 ?lI7 ?cI7 ?kI7 ?lT7) (K99.one_BadName KX G (PySem.W.mg_of KX G ?S0) ?S1 ?S2 ?S3 ?aC8 ?xL8 ?sa8 ?ga8 ?gg8 ?st8 ?ca8 ?kC8 ?nf8 ?iI8 ?tI8 ?lI8 ?cI8 ?kI8 ?lT8) (K99.one_BadNumber KX G (PySem.W.mg_of KX G ?S0) ?S1 ?S2 ?S3 ?aC9 ?xL9 ?sa9 ?ga9 ?gg9 ?st9 ?ca9 ?kC9 ?nf9 ?iI9 ?tI9 ?lI9 ?cI9 ?kI9 ?lT9) (K99.one_BadPaper KX G (PySem.W.mg_of KX G ?S0) ?S1 ?S2 ?S3 ?aC10 ?xL10 ?sa10 ?ga10 ?gg10 ?st10 ?ca10 ?kC10 ?nf10 ?iI10 ?tI10 ?lI10 ?cI10 ?kI10 ?lT10) (K99.one_BadPattern KX G (PySem.W.mg_of KX G ?S0) ?S1 ?S2 ?S3 ?aC11 ?xL11 ?sa11 ?ga11 ?gg11 ?st11 ?ca11 ?kC11 ?nf11 ?iI11 ?tI11 ?lI11 ?cI11 ?kI11 ?lT11) (K99.one_BadPoint KX G (PySem.W.mg_of KX G ?S0) ?S1 ?S2 ?S3 ?aC12 ?xL12 ?sa12 ?ga12 ?gg12 ?st12 ?ca12 ?kC12 ?nf12 ?iI12 ?tI12 ?lI12 ?cI12 ?kI12 ?lT12) (K99.one_BadProgram KX G (PySem.W.mg_of KX G ?S0) ?S1 ?S2 ?S3 ?aC13 ?xL13 ?sa13 ?ga13 ?gg13 ?st13 ?ca13 ?kC13 ?nf13 ?iI13 ?tI13 ?lI13 ?cI13 ?kI13 ?lT13) (K99.one_BadRule KX G (PySem.W.mg_of KX G ?S0) ?S1 ?S2 ?S3 ?aC14 ?xL14 ?sa14 ?ga14 ?gg14 ?st14 ?ca14 ?kC14 ?nf14 ?iI14 ?tI14 ?lI14 ?cI14 ?kI14 ?lT14) (K99.one_BadSchedule KX G (PySem.W.mg_of KX G ?S0) ?S1 ?S2 ?S3 ?aC15 ?xL15 ?sa15 ?ga15 ?gg15 ?st15 ?ca15 ?kC15 ?nf15 ?iI15 ?tI15 ?lI15 ?cI15 ?kI15 ?lT15) (K99.one_BadStart KX G (PySem.W.mg_of KX G ?S0) ?S1 ?S2 ?S3 ?aC16 ?xL16 ?sa16 ?ga16 ?gg16 ?st16 ?ca16 ?kC16 ?nf16 ?iI16 ?tI16 ?lI16 ?cI16 ?kI16 ?lT16) (K99.one_BadTape KX G (PySem.W.mg_of KX G ?S0) ?S1 ?S2 ?S3 ?aC17 ?xL17 ?sa17 ?ga17 ?gg17 ?st17 ?ca17 ?kC17 ?nf17 ?iI17 ?tI17 ?lI17 ?cI17 ?kI17 ?lT17) (K99.one_BadText KX G (PySem.W.mg_of KX G ?S0) ?S1 ?S2 ?S3 ?aC18 ?xL18 ?sa18 ?ga18 ?gg18 ?st18 ?ca18 ?kC18 ?nf18 ?iI18 ?tI18 ?lI18 ?cI18 ?kI18 ?lT18) (K99.one_NoSuch KX G (PySem.W.mg_none_of KX G ?nL) ?aC19 ?xL19 ?sa19 ?ga19 ?gg19 ?st19 ?ca19 ?kC19 ?nf19 ?iI19 ?tI19 ?lI19 ?cI19 ?kI19 ?lT19) (K99.one_TooMany KX G (PySem.W.mg_none_of KX G ?nO) ?aC20 ?xL20 ?sa20 ?ga20 ?gg20 ?st20 ?ca20 ?kC20 ?nf20 ?iI20 ?tI20 ?lI20 ?cI20 ?kI20) ?S4 ?S5 ?nd (PySem.W.mg_of KX G ?S0) (PySem.W.mg_none_of KX G ?nV) (PySem.W.mg_none_of KX G ?nL) (PySem.W.mg_none_of KX G ?nO) (PySem.W.mg_none_of KX G ?nI)) ?a0 ?l0 ?c0 ?k0 ?a1 ?l1 ?c1 ?k1 ?a2 ?l2 ?c2 ?k2 ?a3 ?l3 ?c3 ?k3 ?a4 ?l4 ?c4 ?k4 ?a5 ?l5 ?c5 ?k5 ?a6 ?l6 ?c6 ?k6 ?a7 ?l7 ?c7 ?k7 ?zR ?zE ?zS ?zT
    (case S0 => k_is)
    (case S1 => k_is)
    (case S2 => k_is)
    (case S3 => k_is)
    (case S4 => k_is)
    (case S5 => k_is)
    (case aC0 => k_is)
    (case xL0 => k_is)
    (case sa0 => k_is)
    (case ga0 => k_is)
    (case gg0 => k_is)
    (case st0 => k_is)
    (case ca0 => k_is)
    (case kC0 => k_is)
    (case nf0 => k_is)
    (case iI0 => k_is)
    (case tI0 => k_is)
    (case lI0 => k_is)
    (case cI0 => k_is)
    (case kI0 => k_is)
    (case lT0 => k_is)
    (case aC1 => k_is)
    (case xL1 => k_is)
    (case sa1 => k_is)
    (case ga1 => k_is)
    (case gg1 => k_is)
    (case st1 => k_is)
    (case ca1 => k_is)
    (case kC1 => k_is)
    (case nf1 => k_is)
    (case iI1 => k_is)
    (case tI1 => k_is)
    (case lI1 => k_is)
    (case cI1 => k_is)
    (case kI1 => k_is)
    (case lT1 => k_is)
    (case aC2 => k_is)
    (case xL2 => k_is)
    (case sa2 => k_is)
    (case ga2 => k_is)
    (case gg2 => k_is)
    (case st2 => k_is)
    (case ca2 => k_is)
    (case kC2 => k_is)
    (case nf2 => k_is)
    (case iI2 => k_is)
    (case tI2 => k_is)
    (case lI2 => k_is)
    (case cI2 => k_is)
    (case kI2 => k_is)
    (case lT2 => k_is)
    (case aC3 => k_is)
    (case xL3 => k_is)
    (case sa3 => k_is)
    (case ga3 => k_is)
    (case gg3 => k_is)
    (case st3 => k_is)
    (case ca3 => k_is)
    (case kC3 => k_is)
    (case nf3 => k_is)
    (case iI3 => k_is)
    (case tI3 => k_is)
    (case lI3 => k_is)
    (case cI3 => k_is)
    (case kI3 => k_is)
    (case lT3 => k_is)
    (case aC4 => k_is)
    (case xL4 => k_is)
    (case sa4 => k_is)
    (case ga4 => k_is)
    (case gg4 => k_is)
    (case st4 => k_is)
    (case ca4 => k_is)
    (case kC4 => k_is)
    (case nf4 => k_is)
    (case iI4 => k_is)
    (case tI4 => k_is)
    (case lI4 => k_is)
    (case cI4 => k_is)
    (case kI4 => k_is)
    (case lT4 => k_is)
    (case aC5 => k_is)
    (case xL5 => k_is)
    (case sa5 => k_is)
    (case ga5 => k_is)
    (case gg5 => k_is)
    (case st5 => k_is)
    (case ca5 => k_is)
    (case kC5 => k_is)
    (case nf5 => k_is)
    (case iI5 => k_is)
    (case tI5 => k_is)
    (case lI5 => k_is)
    (case cI5 => k_is)
    (case kI5 => k_is)
    (case lT5 => k_is)
    (case aC6 => k_is)
    (case xL6 => k_is)
    (case sa6 => k_is)
    (case ga6 => k_is)
    (case gg6 => k_is)
    (case st6 => k_is)
    (case ca6 => k_is)
    (case kC6 => k_is)
    (case nf6 => k_is)
    (case iI6 => k_is)
    (case tI6 => k_is)
    (case lI6 => k_is)
    (case cI6 => k_is)
    (case kI6 => k_is)
    (case lT6 => k_is)
    (case aC7 => k_is)
    (case xL7 => k_is)
    (case sa7 => k_is)
    (case ga7 => k_is)
    (case gg7 => k_is)
    (case st7 => k_is)
    (case ca7 => k_is)
    (case kC7 => k_is)
    (case nf7 => k_is)
    (case iI7 => k_is)
    (case tI7 => k_is)
    (case lI7 => k_is)
    (case cI7 => k_is)
    (case kI7 => k_is)
    (case lT7 => k_is)
    (case aC8 => k_is)
    (case xL8 => k_is)
    (case sa8 => k_is)
    (case ga8 => k_is)
    (case gg8 => k_is)
    (case st8 => k_is)
    (case ca8 => k_is)
    (case kC8 => k_is)
    (case nf8 => k_is)
    (case iI8 => k_is)
    (case tI8 => k_is)
    (case lI8 => k_is)
    (case cI8 => k_is)
    (case kI8 => k_is)
    (case lT8 => k_is)
    (case aC9 => k_is)
    (case xL9 => k_is)
    (case sa9 => k_is)
    (case ga9 => k_is)
    (case gg9 => k_is)
    (case st9 => k_is)
    (case ca9 => k_is)
    (case kC9 => k_is)
    (case nf9 => k_is)
    (case iI9 => k_is)
    (case tI9 => k_is)
    (case lI9 => k_is)
    (case cI9 => k_is)
    (case kI9 => k_is)
    (case lT9 => k_is)
    (case aC10 => k_is)
    (case xL10 => k_is)
    (case sa10 => k_is)
    (case ga10 => k_is)
    (case gg10 => k_is)
    (case st10 => k_is)
    (case ca10 => k_is)
    (case kC10 => k_is)
    (case nf10 => k_is)
    (case iI10 => k_is)
    (case tI10 => k_is)
    (case lI10 => k_is)
    (case cI10 => k_is)
    (case kI10 => k_is)
    (case lT10 => k_is)
    (case aC11 => k_is)
    (case xL11 => k_is)
    (case sa11 => k_is)
    (case ga11 => k_is)
    (case gg11 => k_is)
    (case st11 => k_is)
    (case ca11 => k_is)
    (case kC11 => k_is)
    (case nf11 => k_is)
    (case iI11 => k_is)
    (case tI11 => k_is)
    (case lI11 => k_is)
    (case cI11 => k_is)
    (case kI11 => k_is)
    (case lT11 => k_is)
    (case aC12 => k_is)
    (case xL12 => k_is)
    (case sa12 => k_is)
    (case ga12 => k_is)
    (case gg12 => k_is)
    (case st12 => k_is)
    (case ca12 => k_is)
    (case kC12 => k_is)
    (case nf12 => k_is)
    (case iI12 => k_is)
    (case tI12 => k_is)
    (case lI12 => k_is)
    (case cI12 => k_is)
    (case kI12 => k_is)
    (case lT12 => k_is)
    (case aC13 => k_is)
    (case xL13 => k_is)
    (case sa13 => k_is)
    (case ga13 => k_is)
    (case gg13 => k_is)
    (case st13 => k_is)
    (case ca13 => k_is)
    (case kC13 => k_is)
    (case nf13 => k_is)
    (case iI13 => k_is)
    (case tI13 => k_is)
    (case lI13 => k_is)
    (case cI13 => k_is)
    (case kI13 => k_is)
    (case lT13 => k_is)
    (case aC14 => k_is)
    (case xL14 => k_is)
    (case sa14 => k_is)
    (case ga14 => k_is)
    (case gg14 => k_is)
    (case st14 => k_is)
    (case ca14 => k_is)
    (case kC14 => k_is)
    (case nf14 => k_is)
    (case iI14 => k_is)
    (case tI14 => k_is)
    (case lI14 => k_is)
    (case cI14 => k_is)
    (case kI14 => k_is)
    (case lT14 => k_is)
    (case aC15 => k_is)
    (case xL15 => k_is)
    (case sa15 => k_is)
    (case ga15 => k_is)
    (case gg15 => k_is)
    (case st15 => k_is)
    (case ca15 => k_is)
    (case kC15 => k_is)
    (case nf15 => k_is)
    (case iI15 => k_is)
    (case tI15 => k_is)
    (case lI15 => k_is)
    (case cI15 => k_is)
    (case kI15 => k_is)
    (case lT15 => k_is)
    (case aC16 => k_is)
    (case xL16 => k_is)
    (case sa16 => k_is)
    (case ga16 => k_is)
    (case gg16 => k_is)
    (case st16 => k_is)
    (case ca16 => k_is)
    (case kC16 => k_is)
    (case nf16 => k_is)
    (case iI16 => k_is)
    (case tI16 => k_is)
    (case lI16 => k_is)
    (case cI16 => k_is)
    (case kI16 => k_is)
    (case lT16 => k_is)
    (case aC17 => k_is)
    (case xL17 => k_is)
    (case sa17 => k_is)
    (case ga17 => k_is)
    (case gg17 => k_is)
    (case st17 => k_is)
    (case ca17 => k_is)
    (case kC17 => k_is)
    (case nf17 => k_is)
    (case iI17 => k_is)
    (case tI17 => k_is)
    (case lI17 => k_is)
    (case cI17 => k_is)
    (case kI17 => k_is)
    (case lT17 => k_is)
    (case aC18 => k_is)
    (case xL18 => k_is)
    (case sa18 => k_is)
    (case ga18 => k_is)
    (case gg18 => k_is)
    (case st18 => k_is)
    (case ca18 => k_is)
    (case kC18 => k_is)
    (case nf18 => k_is)
    (case iI18 => k_is)
    (case tI18 => k_is)
    (case lI18 => k_is)
    (case cI18 => k_is)
    (case kI18 => k_is)
    (case lT18 => k_is)
    (case aC19 => k_is)
    (case xL19 => k_is)
    (case sa19 => k_is)
    (case ga19 => k_is)
    (case gg19 => k_is)
    (case st19 => k_is)
    (case ca19 => k_is)
    (case kC19 => k_is)
    (case nf19 => k_is)
    (case iI19 => k_is)
    (case tI19 => k_is)
    (case lI19 => k_is)
    (case cI19 => k_is)
    (case kI19 => k_is)
    (case lT19 => k_is)
    (case aC20 => k_is)
    (case xL20 => k_is)
    (case sa20 => k_is)
    (case ga20 => k_is)
    (case gg20 => k_is)
    (case st20 => k_is)
    (case ca20 => k_is)
    (case kC20 => k_is)
    (case nf20 => k_is)
    (case iI20 => k_is)
    (case tI20 => k_is)
    (case lI20 => k_is)
    (case cI20 => k_is)
    (case kI20 => k_is)
    (case nV => k_is)
    (case nL => k_is)
    (case nO => k_is)
    (case nI => k_is)
    (case a0 => k_is)
    (case l0 => k_is)
    (case c0 => k_is)
    (case k0 => k_is)
    (case a1 => k_is)
    (case l1 => k_is)
    (case c1 => k_is)
    (case k1 => k_is)
    (case a2 => k_is)
    (case l2 => k_is)
    (case c2 => k_is)
    (case k2 => k_is)
    (case a3 => k_is)
    (case l3 => k_is)
    (case c3 => k_is)
    (case k3 => k_is)
    (case a4 => k_is)
    (case l4 => k_is)
    (case c4 => k_is)
    (case k4 => k_is)
    (case a5 => k_is)
    (case l5 => k_is)
    (case c5 => k_is)
    (case k5 => k_is)
    (case a6 => k_is)
    (case l6 => k_is)
    (case c6 => k_is)
    (case k6 => k_is)
    (case a7 => k_is)
    (case l7 => k_is)
    (case c7 => k_is)
    (case k7 => k_is)
    (case zR => k_is)
    (case zE => k_is)
    (case zS => k_is)
    (case zT => k_is)
    (case nd => decide)
#print axioms PySem.Challenge.cw_allslopes_k99_errors_by_hand_holds
