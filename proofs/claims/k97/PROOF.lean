import PyProof.Rows.All
import Wide.All
import OpenK.AllK
import Wide.FinOn
import KE.KExcInit
import KE.KExcIs
import HandS.ForMost
import HandS.Exc
import HandS.ExcInit
import HandS.EndTab
import HandS.IsInst
import HandS.Defaults
import HandS.HeadWalk
import KE.KStateDown
import HandS.Head0
import HandS.Head1
import HandS.Head2
import HandS.HeadEnd
import HandS.HeadHook4
import PySem.Challenge.RW_pagesofproofs_k97_refusals_made
import HandS.Walk
set_option Elab.async false
set_option linter.all false
set_option maxRecDepth 100000
set_option maxHeartbeats 4000000
/-! own exceptions over several built-in bases, made by place and by keyword, held as values -/
namespace XQ
open PySem PySem.W PySem.Calls
/-- B.__init__ as the machine has it -/
structure IniF (B initId : String) : Prop where
  slot : Slot B "__init__" initId
  entry : entryFor table initId = some Builtin.«BaseException.__init__»
  split : splitId initId = some (B, "__init__")
  kind : builtinKind initId = some .slot
  row : Manifest.signature? initId = some ⟨.positional, "*", B, .self, [⟨"args", .varPos, false⟩]⟩
  star : (B != "*") = true
theorem iniF_of {B newId initId : String} (F : ExcCallFacts B newId initId) : IniF B initId := ⟨F.init, F.initEntry, F.initSplit, F.initKind, F.initRow, F.noStar⟩
theorem iniF_key : IniF "KeyError" "KeyError.__init__" :=
  { slot := .of (owner := "KeyError") (n := "__init__") (by rw [typeLookup_type, builtinLookup_eq_fast]; kernel_rfl) (by decide +kernel)
      (by decide +kernel) (by decide +kernel) (by first | exact .inl (by decide +kernel) | exact .inr (by decide +kernel)) (by rw [isSubtype_type]; kernel_rfl)
    entry := entryFor_alias (id' := "BaseException.__init__") (by rw [fastTable_eq_tree]; kernel_rfl) (by first | rfl | decide +kernel)
      (by decide +kernel) (by rw [fastTable_eq_tree]; kernel_rfl)
    split := by kernel_rfl, kind := by kernel_rfl, row := by kernel_rfl, star := by decide +kernel }
theorem sto_key : StoreFacts "KeyError" [.type "KeyError", .type "LookupError", .type "Exception", .type "BaseException", .type "object"] "object.__setattr__" "object" :=
  { mro := by kernel_rfl
    slot := .of (owner := "object") (n := "__setattr__") (by rw [typeLookup_type, builtinLookup_eq_fast]; kernel_rfl) (by decide +kernel)
      (by decide +kernel) (by decide +kernel) (by first | exact .inl (by decide +kernel) | exact .inr (by decide +kernel)) (by rw [isSubtype_type]; kernel_rfl)
    entry := F.entry_object_sa, kind := by decide +kernel, split := by decide +kernel, hasOwner := by decide +kernel
    args := fun a b c => by (unfold argsOk; kernel_rfl), passes := fun self => by kernel_rfl }
section
variable {M : Model} {A : Around} {E : Value → Shared → Prop} {h : Heap} {g : Array GenState} {d : Drawn} {t : Nat} {os : OsState}
variable {nm q : Str} {C N : Addr} {bs bm bmB : List Value} {hdct : Bool} {sn : List Str} {sub : List Value} {ab : Bool} {col : Option Bool} {dd : Option Addr} {k0 k1 k2 k3 k5 : Option Value} {B newId initId : String}
theorem has_of (hB : bm.contains (.type B) = true) : (Value.ref C :: bm).contains (.type B) = true := by rw [List.contains_cons, hB, Bool.or_true]
theorem has_no (hB : bm.contains (.type B) = false) : (Value.ref C :: bm).contains (.type B) = false := by rw [List.contains_cons, hB]; rfl
theorem chk_new (Z : ExcBaseFacts B newId initId bmB) (hB : bm.contains (.type B) = true) {rest : List Value} {kw : List (Str × Value)} {Q : Unit → Shared → Prop}
    (hC : h.get? C = some (excClassObj nm q C N bs bm hdct sn sub ab col dd k0 k1 k2 k3 k5 newId)) (hq : Q () ⟨h, g, d, t, os⟩) : wpAny M A (checkBuiltinCall newId ⟨.ref C :: rest, kw⟩) Q E ⟨h, g, d, t, os⟩ := by
  have e1 := has_of (C := C) hB
  have e2 := Z.noStar
  simp only [checkBuiltinCall, Z.newKind, Z.newSplit, Z.newRow]
  repeat (first | (refine wpAny_loadPart_at hC ?_) | (refine wpAny_isSubtype_exc hC ?_; rw [e1]) | (refine wpAny_staticBase_exc hC ?_) | (refine wpAny_madeBy_exc hC ?_) | (simp only [bne_self_eq_false, Bool.false_eq_true, if_false]) | wp_step)
  exact hq
end
section
variable {prog : Program} {w : World} {A : Around} {E : Value → Shared → Prop} {R : Result → Shared → Prop} {h : Heap} {g : Array GenState} {d : Drawn} {t : Nat} {os : OsState}
variable {nm q : Str} {C N : Addr} {bs bm bmB bmN : List Value} {hdct : Bool} {sn : List Str} {sub : List Value} {ab : Bool} {col : Option Bool} {dd : Option Addr} {k0 k1 k2 k3 k5 : Option Value} {B Bn newId initId initN : String}
/-- what bm, the classes above C, must hold for the __new__ that makes C's instances -/
structure NewOk (bm : List Value) (Bn : String) : Prop where
  has : bm.contains (.type Bn) = true
  noA : bm.contains (.type "AttributeError") = false
  noN : bm.contains (.type "NameError") = false
theorem new_any (Z : ExcBaseFacts Bn newId initN bmN) (o : NewOk bm Bn) {rest : List Value} {kw : List (Str × Value)}
    (hC : h.get? C = some (excClassObj nm q C N bs bm hdct sn sub ab col dd k0 k1 k2 k3 k5 newId))
    (hq : R (.ok (.ret (.ref (h.objs.size + 1)))) ⟨(h.push (kdv_tup rest)).push (HandSPX.excO C h.objs.size), g, d, t, os⟩) (hz : rest.length ≤ sizeLine) :
    codeAny (model prog w) A (.builtin newId ⟨.ref C :: rest, kw⟩) R ⟨h, g, d, t, os⟩ := by
  have e0 := Z.ends
  have e1 := has_of (C := C) o.has
  have e2 := has_no (C := C) o.noA
  have e3 := has_no (C := C) o.noN
  refine codeAny_builtinAt Z.entry ?_
  unfold Builtin.«BaseException.__new__»
  refine PySem.wpAt_bind (show PySem.wpAt _ _ _ (stack >>= _) _ _ _ from ?_)
  refine wpAt_bind (wpAt_stack fun p below => wpAt_of_wpAny ?_)
  wp_walk
  refine wpAt_of_wpAny ?_
  rw [Z.owner]
  repeat (first | (with_reducible refine wpAny_madeHere_exc Z.canon hC ?_) | (with_reducible refine wpAny_loadPart_at hC ?_) | (with_reducible refine wpAny_isSubtype_exc hC ?_; first | rw [e1] | rw [e2] | rw [e3]) | wp_step)
  show R _ _
  rw [Heap.size_push]
  exact hq
theorem tcall_any (Z : ExcBaseFacts Bn newId initN bmN) (o : NewOk bm Bn) {rest : List Value} {kw : List (Str × Value)} {fI : Addr} {Q : Fin → Shared → Prop}
    (hC : h.get? C = some (excClassObj nm q C N bs bm hdct sn sub ab col dd k0 k1 k2 k3 k5 newId))
    (hi : Looks (model prog w) h (typeLookup (.ref C) "__init__") (some (.ref fI))) (hb : ∀ self, Looks (model prog w) h (bindSpecial (.ref fI) self) (.ref fI, [self])) (hz : rest.length ≤ sizeLine)
    (hq : codeAny (model prog w) A (.call (.ref fI) ⟨.ref (h.objs.size + 1) :: rest, kw⟩)
      (fun r s' => match r with | .ok (.ret v) => v = .none ∧ Q (.done (.ret (.ref (h.objs.size + 1)))) s' | .ok _ => False | .error e => E e s')
      ⟨(h.push (kdv_tup rest)).push (HandSPX.excO C h.objs.size), g, d, t, os⟩) :
    wpAny (model prog w) A (Builtin.«type.__call__» ⟨.ref C :: rest, kw⟩) Q E ⟨h, g, d, t, os⟩ := by
  repeat (first | (with_reducible refine wpAny_loadPart_at hC ?_) | (with_reducible refine wpAny_madeBy_exc hC ?_) | wp_step)
  refine codeAny_call_builtin_code (Code.quiet_builtin _ Z.quiet) (chk_new Z o.has hC ?_)
  refine new_any Z o hC ?_ hz
  show wpAny _ _ _ _ _ _
  have kk : ∀ b o, h.get? b = some o → ((h.push (kdv_tup rest)).push (HandSPX.excO C h.objs.size)).get? b = some o := fun b o e => Heap.get?_push_of_some _ (Heap.get?_push_of_some _ e)
  have c1 := kk _ _ hC
  have c2 : ((h.push (kdv_tup rest)).push (HandSPX.excO C h.objs.size)).get? (h.objs.size + 1) = some (HandSPX.excO C h.objs.size) := by heap_get
  have c3 : (Value.ref C :: bm).contains (.ref C) = true := by simp
  have l1 := hi.keeps kk
  have l2 := (hb (.ref (h.objs.size + 1))).keeps kk
  unfold isInstance
  repeat (first | (with_reducible refine wpAny_loadPart_at c2 ?_) | (with_reducible refine wpAny_isSubtype_exc c1 ?_; rw [c3]) | wp_step)
  show wpAny _ _ (typeLookup (.ref C) _) _ _ _
  refine l1.at (wpAny_holding (wpAny_bind (l2.at ?_)))
  refine wpAny_bind (wpAny_call (codeAny_mono hq fun r s' z => ?_))
  cases r with
  | error e => exact z
  | ok f =>
    cases f with
    | ret v =>
      obtain ⟨rfl, z⟩ := z
      first
        | exact wpAny_pure (wpAny_pure z)
        | (wp_walk; exact z)
    | next => exact z.elim
    | brk => exact z.elim
    | cont => exact z.elim
/-- C(rest, kw) -/
theorem call_any (Z : ExcBaseFacts Bn newId initN bmN) (o : NewOk bm Bn) {rest : List Value} {kw : List (Str × Value)} {fI : Addr}
    (hC : h.get? C = some (excClassObj nm q C N bs bm hdct sn sub ab col dd k0 k1 k2 k3 k5 newId))
    (hi : Looks (model prog w) h (typeLookup (.ref C) "__init__") (some (.ref fI))) (hb : ∀ self, Looks (model prog w) h (bindSpecial (.ref fI) self) (.ref fI, [self])) (hz : rest.length ≤ sizeLine)
    (hq : codeAny (model prog w) (A.under (.builtin "type.__call__" ⟨.ref C :: rest, kw⟩)) (.call (.ref fI) ⟨.ref (h.objs.size + 1) :: rest, kw⟩) (InitBack (h.objs.size + 1) R)
      ⟨(h.push (kdv_tup rest)).push (HandSPX.excO C h.objs.size), g, d, t, os⟩) :
    codeAny (model prog w) A (.call (.ref C) ⟨rest, kw⟩) R ⟨h, g, d, t, os⟩ := by
  have f1 := tc_lookup
  have f2 := tc_bind (.ref C)
  have f3 : (⟨h, g, d, t, os⟩ : Shared).TypeIs (.ref C) "type" := ⟨_, hC, rfl⟩
  refine codeAny_of_tree (show wpAny _ _ (callAny (.ref C) _) _ _ _ from ?_)
  repeat (any_goals (first | assumption | (with_reducible refine wpAny_loadPart_at hC ?_) | wp_step))
  refine ⟨rfl, codeAny_call_builtin_at (Code.quiet_builtin _ (by decide +kernel)) entry_typeCall (wpAny_check_type_call_sub hC (tcall_any Z o hC hi hb hz ?_))⟩
  refine codeAny_mono hq fun r s' z => ?_
  rcases r with e | (v | _ | _ | _) <;> exact z
/-- B.__init__(e, ..), e an exception of a class below B -/
theorem ini_any (Z : IniF B initId) (hB : bm.contains (.type B) = true) {e t0 : Addr} {rest : List Value}
    (hC : h.get? C = some (excClassObj nm q C N bs bm hdct sn sub ab col dd k0 k1 k2 k3 k5 newId)) (he : h.get? e = some (HandSPX.excO C t0)) (hz : rest.length ≤ sizeLine)
    (hq : ∀ h' t1, (∀ b o, b ≠ e → h.get? b = some o → h'.get? b = some o) → h'.get? e = some (HandSPX.excO C t1) → R (.ok (.ret .none)) ⟨h', g, d, t, os⟩) :
    codeAny (model prog w) A (.call (.builtin initId) ⟨.ref e :: rest, []⟩) R ⟨h, g, d, t, os⟩ := by
  have e1 := has_of (C := C) hB
  have e2 := Z.star
  refine codeAny_call_builtin Z.slot.plain Z.entry ?_
  simp only [checkBuiltinCall, Z.kind, Z.split, Z.row]
  repeat (first | (with_reducible refine wpAny_loadPart_at he ?_) | (with_reducible refine wpAny_loadPart_at hC ?_) | (with_reducible refine wpAny_isSubtype_exc hC ?_; rw [e1]) | wp_step)
  refine wpAny_onRaise ?_
  rw [show ∀ (a b : String) (n : Nat), Bind.check ⟨.positional, "*", B, .self, [⟨"args", .varPos, false⟩]⟩ a b n (List.map (fun x => x.fst) ({ pos := Value.ref e :: rest } : Args).kw) = pure () from fun a b n => check_star_args _ _ _ _ _ _]
  refine wpAny_pure ?_
  wp_walk
  refine hq _ h.objs.size (fun b o hb ho => ?_) ?_
  · rw [Heap.get?_update_other _ _ (Ne.symm hb)]; exact Heap.get?_push_of_some _ ho
  · rw [Heap.get?_update_self _ (Heap.get?_push_of_some _ he) rfl]; rfl
end
end XQ
set_option Elab.async false
set_option linter.all false
set_option maxRecDepth 100000
set_option maxHeartbeats 4000000
namespace XQ
open PySem PySem.W PySem.Calls Builtin Builtin.ObjectAttr
section
variable {prog : Program} {w : World} {A : Around} {R : Result → Shared → Prop} {hp : Heap} {g : Array GenState} {d : Drawn} {t : Nat} {os : OsState}
/-- self.name = v on an exception without a dict -/
theorem osa_first {K : Frag} {name : Str} {tk : Tok} {v : Value} {x C : Addr} {fv : Array Value} {B : String} {bmB : List Value}
    (SF : StoreFacts B bmB "object.__setattr__" "object") (X : K.In hp) (hx : hp.get? x = some { cls := .ref C, data := .fields fv })
    (ho : excOver K C bmB = true) (ht : takerIn K C name = some none) (hh : hasDictIn K C = true)
    (hq : ∀ h' tk' dx, (∀ b o, b ≠ x → hp.get? b = some o → h'.get? b = some o) → hp.objs.size ≤ dx → dx ≠ x → h'.get? x = some { cls := .ref C, dict := some dx, data := .fields fv } →
      h'.Ns1 dx (fun y => if y = name then some v else none) → R (.ok (.ret .none)) ⟨h', g, d, tk', os⟩) :
    codeAny (model prog w) A (.call (.builtin "object.__setattr__") ⟨[.ref x, .str name tk, v], []⟩) R ⟨hp, g, d, t, os⟩ := by
  have I : InstAt hp x { cls := .ref C, data := .fields fv } C none := ⟨hx, rfl, rfl, trivial⟩
  have nx : x ≠ hp.objs.size := Nat.ne_of_lt (Heap.lt_size hx)
  refine osa_openX (s := ⟨hp, g, d, t, os⟩) SF X I ho ht fun b => ?_
  obtain ⟨cd, hc, hd'⟩ := any_some hh
  have lc : Looks (model prog w) hp (classData C) cd := looks_clsIn X hc
  show wpAny _ _ (storeInOwnDict (.ref x) (.ref C) (.str name tk) name v b) _ _ _
  obtain ⟨nm, bs, mro, ns, qn, hdd, sn, sb, ab, col, dl⟩ := cd
  dsimp only at hd'
  subst hd'
  unfold storeInOwnDict ownDictForStores
  repeat (first | (with_reducible refine HandSPX.store_in_new ?_ ?_) | (with_reducible refine wpAny_loadPart_at hx ?_) | (with_reducible refine lc.at ?_) | wp_step)
  · exact ⟨_, #[], _, (Heap.get?_update_ne _ _ _ _ nx.symm).trans (Heap.get?_push_at rfl rfl), rfl, fun e he => absurd he (by simp), fun _ => rfl⟩
  · intro h' tk' hn' hs
    have e1 : (hp.push { cls := .type "dict", data := .dict #[] }).get? x = some { cls := .ref C, data := .fields fv } := Heap.get?_push_of_some _ hx
    refine hq h' tk' hp.objs.size (fun b o hb ho => ?_) (Nat.le_refl _) nx.symm ?_ hn'
    · rw [hs.2 b (Nat.ne_of_lt (Heap.lt_size ho)), Heap.get?_update_ne _ _ _ _ hb]
      exact Heap.get?_push_of_some _ ho
    · rw [hs.2 x nx]
      exact Heap.get?_update_self _ e1 rfl
end
end XQ
namespace XQ
open PySem PySem.Spec PyProof.Rows L2
/-- a built-in class of errors: its __init__, its stores, the __new__ by which its subclasses are made -/
structure Bs (B initId newId : String) (bmB : List Value) : Prop where
  nw : ∃ Bn initN bmN, ExcBaseFacts Bn newId initN bmN ∧ bmB.contains (.type Bn) = true
  noA : bmB.contains (.type "AttributeError") = false
  noN : bmB.contains (.type "NameError") = false
  hasB : bmB.contains (.type B) = true
  ini : IniF B initId
  sto : StoreFacts B bmB "object.__setattr__" "object"
abbrev tE : List Value := [.type "Exception", .type "BaseException", .type "object"]
theorem bsV : Bs "ValueError" "ValueError.__init__" "ValueError.__new__" (.type "ValueError" :: tE) := ⟨⟨_, _, _, F.excBase_ValueError, by decide +kernel⟩, by decide +kernel, by decide +kernel, by decide +kernel, iniF_of F.excBase_ValueError.toExcCallFacts, F.store_ValueError⟩
theorem bsK : Bs "KeyError" "KeyError.__init__" "LookupError.__new__" (.type "KeyError" :: .type "LookupError" :: tE) := ⟨⟨_, _, _, F.excBase_LookupError, by decide +kernel⟩, by decide +kernel, by decide +kernel, by decide +kernel, iniF_key, sto_key⟩
theorem bsL : Bs "LookupError" "LookupError.__init__" "LookupError.__new__" (.type "LookupError" :: tE) := ⟨⟨_, _, _, F.excBase_LookupError, by decide +kernel⟩, by decide +kernel, by decide +kernel, by decide +kernel, iniF_of F.excBase_LookupError.toExcCallFacts, F.store_LookupError⟩
theorem bsI : Bs "IndexError" "IndexError.__init__" "IndexError.__new__" (.type "IndexError" :: .type "LookupError" :: tE) := ⟨⟨_, _, _, F.excBase_IndexError, by decide +kernel⟩, by decide +kernel, by decide +kernel, by decide +kernel, iniF_of F.excBase_IndexError.toExcCallFacts, F.store_IndexError⟩
theorem bsO : Bs "OverflowError" "OverflowError.__init__" "OverflowError.__new__" (.type "OverflowError" :: .type "ArithmeticError" :: tE) := ⟨⟨_, _, _, F.excBase_OverflowError, by decide +kernel⟩, by decide +kernel, by decide +kernel, by decide +kernel, iniF_of F.excBase_OverflowError.toExcCallFacts, F.store_OverflowError⟩
theorem bsR : Bs "RuntimeError" "RuntimeError.__init__" "RuntimeError.__new__" (.type "RuntimeError" :: tE) := ⟨⟨_, _, _, F.excBase_RuntimeError, by decide +kernel⟩, by decide +kernel, by decide +kernel, by decide +kernel, iniF_of F.excBase_RuntimeError.toExcCallFacts, F.store_RuntimeError⟩
/-- what the written part says of an own class of errors -/
structure OxC (K : PySem.W.Frag) (C : Addr) (newId : String) (bmB : List Value) : Prop where
  ini : PySem.W.excInitIn K C bmB newId = true
  over : PySem.W.excOver K C bmB = true
  hd : PySem.W.hasDictIn K C = true
  sa : PySem.W.findIn K (.ref C) "__setattr__" = some (some (.builtin "object.__setattr__"))
  kC : PySem.W.keepIn K (.ref C) = true
section
variable {X : Cx} {pins : List (Addr × Obj)} {σ : L2.St} {H : Hp} {s : Shared} {a C dx : Addr} {f : Str} {y : V} {u : Value} {A : Around} {E : Value → Shared → Prop} {newId B initId : String} {bmB : List Value}
theorem ost_first {Q : Unit → Shared → Prop} (T : OxC X.K C newId bmB) (Z : Bs B initId newId bmB) (I : Inv X pins σ H s) (e : H a = some (exo a C none)) (hno : NoAttr X.K C f) (ry : RelV y u)
    (h : ∀ dx s', H dx = none → dx ≠ a → Inv X pins σ (upd (upd H dx (exd dx [(f, y)])) a (exo a C (some dx))) s' → Q () s') : wpAny (model X.prog X.w) A (setAttr (.ref a) f u) Q E s := by
  obtain ⟨t1, ho⟩ := exo_at I.hok e
  obtain ⟨hp, g, d, t, os⟩ := s
  refine PySem.W.set_plain I.kIn (od := none) ⟨ho, rfl, rfl, trivial⟩ T.sa (osa_first Z.sto I.kIn ho T.over hno.taker T.hd fun h' tk' dx kk dn dne hx hn => ?_)
  have nD : H dx = none := I.hok.fresh dn
  have ltD : ∀ {b : Addr} {o : Obj}, hp.get? b = some o → b ≠ dx := fun z => Nat.ne_of_lt (Nat.lt_of_lt_of_le (Heap.lt_size z) dn)
  have neA : ∀ {b : Addr}, H b = none → b ≠ a := fun n z => by
    rw [z, e] at n
    cases n
  have U : Un X.fs [] H (upd (upd H dx (exd dx [(f, y)])) a (exo a C (some dx))) hp h' := by
    refine ⟨fun b o q n _ _ => kk b o (neA n) q, fun b o q n _ _ => ⟨o.slots, kk b o (neA n) q⟩, fun b o q n _ => ?_, fun b o q _ => ?_, fun b xs q => ?_, fun b o v q => ?_, fun b ps q => ?_⟩
    · rw [upd_ne (neA n), upd_ne (ltD q)]; exact n
    · by_cases hb : b = a
      · exact ⟨_, by rw [hb]; exact hx⟩
      · exact ⟨o, kk b o hb q⟩
    · rw [upd_ne (at_ne e q exo_tup), upd_ne (ne_of_none q nD)]; exact q
    · rw [upd_ne (at_ne e q exo_frz), upd_ne (ne_of_none q nD)]; exact q
    · exact ⟨#[], by rw [upd_ne (at_ne e q exo_tbl), upd_ne (ne_of_none q nD), q, Array.append_empty]⟩
  refine h dx _ nD dne (I.un (t' := tk') U fun b o q => ?_)
  by_cases hb : b = a
  · subst hb
    rw [upd_same] at q
    cases q
    exact exo_ok hx
  · rw [upd_ne hb] at q
    by_cases hb2 : b = dx
    · subst hb2
      rw [upd_same] at q
      cases q
      exact exd_ok hn (relO_put (fs := []) ry fun _ => True.intro)
    · rw [upd_ne hb2] at q
      refine (I.hok b o q).stay (fun c v hc z => kk c v ?_ z) (fun c hc => ?_) fun c xs hc => ?_
      · rcases hc with rfl | hc
        · exact hb
        · exact at_ne e hc exo_own
      · rw [upd_ne (at_ne e hc exo_own), upd_ne (ne_of_none hc nD)]; exact hc
      · rw [upd_ne (at_ne e hc exo_tup), upd_ne (ne_of_none hc nD)]; exact hc
/-- B.__init__(self, ..) -/
theorem oini_ok {us : List Value} {Q : Value → Shared → Prop} (T : OxC X.K C newId bmB) (Z : Bs B initId newId bmB) (I : Inv X pins σ H s) (e : H a = some (exo a C none)) (hl : us.length ≤ sizeLine) (h : ∀ s', Inv X pins σ H s' → Q .none s') :
    wpAny (model X.prog X.w) A (call (.builtin initId) (.ref a :: us)) Q E s := by
  obtain ⟨nm, N, q, bs, bm, hdct, sn, sub, ab, col, dd, k0, k1, k2, k3, k5, hC, hb⟩ := PySem.W.excInit_of I.kIn T.ini
  obtain ⟨t1, ho⟩ := exo_at I.hok e
  obtain ⟨hp, g, d, t, os⟩ := s
  refine wpAny_call (ini_any Z.ini (by rw [hb]; exact Z.hasB) hC ho hl fun h' t2 kk hx => ?_)
  have J := I.write (t' := t) (x := a) (e := a) (o := exo a C none) (by rw [e]; exact True.intro) (.inl rfl) kk ⟨_, hx⟩ (exo_ok hx)
  have eu : upd H a (exo a C none) = H := funext fun b => by
    by_cases hb : b = a
    · rw [hb, upd_same, e]
    · rw [upd_ne hb]
  rw [eu] at J
  exact h _ J
end
end XQ
set_option Elab.async false
set_option linter.all false
set_option maxRecDepth 100000
set_option maxHeartbeats 4000000
namespace XQ
open PySem PySem.Spec PyProof.Rows L2
/-- B.__init__(self, ..) is asked for: how its value is come by -/
structure IniBy (K : PySem.W.Frag) (mg : Str → Option Value) (b : Str) (initId : String) : Prop where
  hh : PySem.W.handedIn (.builtin initId) = true
  how : (∃ T : String, mg b = none ∧ bootBuiltins b = some (.type T) ∧ typeOf (.type T) = pure (.type "type") ∧ Manifest.isStub T = false ∧ PySem.W.findCls K (.type T) (.type "type") "__init__" = some (.val (.builtin initId))) ∨
    ∃ (P : Addr) (mc : Value), mg b = some (.ref P) ∧ PySem.W.specialIn K (.ref P) "__getattribute__" = some (some (.builtin "type.__getattribute__")) ∧ PySem.W.readsIn K P mc = true ∧ PySem.W.findCls K (.ref P) mc "__init__" = some (.val (.builtin initId))
def tBI (K : PySem.W.Frag) (newId B initId : String) (bmB : List Value) (ta : TA) : TE := fun σ H Q => ta σ H fun vs H1 => ∃ (a C : Addr) (ws : List V), vs = .ref a :: ws ∧ ws.length ≤ 1000 ∧ OxC K C newId bmB ∧ H1 a = some (exo a C none) ∧ Q .non H1
def tOst1 (K : PySem.W.Frag) (newId : String) (bmB : List Value) (f : Str) (to te : TE) : TS := fun D σ H => te σ H fun y H1 => to σ H1 fun x H2 => ∃ a C : Addr, x = .ref a ∧ OxC K C newId bmB ∧ NoAttr K C f ∧
  H2 a = some (exo a C none) ∧ ∀ dx, H2 dx = none → dx ≠ a → D.nx σ (upd (upd H2 dx (exd dx [(f, y)])) a (exo a C (some dx)))
section
variable {X : Cx} {o e : Expr} {es : List Expr} {to te : TE} {ta : TA} {b f : Str} {p p' p1 p2 pos : Pos} {newId B initId : String} {bmB : List Value}
theorem pe_bini {pl : Sem Bool} (W : IniBy X.K X.mg b initId) (Z : Bs B initId newId bmB) (hg : Gl X b) (ha : PA X (e :: es) ta) (hnn : b ≠ "__name__") (hdb : (b == ("__debug__" : Str)) = false)
    (hc : eval (.Call (.Attribute (.Name b p1) "__init__" p2) (e :: es) [] pos) X.env = (do
      let ov ← eval (.Name b p1) X.env
      standAt p2.atName
      let (f, first) ← holding [ov] (getMethod ov "__init__" pl)
      callWith pos f first (backTo pos (starEach (e :: es) X.env)) (backToKw pos (keywordEach [] X.env))) := by rfl)
    (he : starEach (e :: es) X.env = (false, eval e X.env) :: starEach es X.env := by rfl) (hpl : (backTo pos (starEach es X.env)).any (·.1) = false := by rfl) :
    PE X (.Call (.Attribute (.Name b p1) "__init__" p2) (e :: es) [] pos) (tBI X.K newId B initId bmB ta) := by
  refine ⟨fun pins s σ H Q I h => ?_⟩
  have fin : ∀ s', Inv X pins σ H s' → wpAny (model X.prog X.w) X.A (callWith pos (.builtin initId) [] (backTo pos (starEach (e :: es) X.env)) []) (EP X pins σ Q) X.xe s' := fun s' I' => by
    refine PyProof.Rows.callWith_method1 (thn (ha.run pos pins s' σ H _ I' h) fun us s1 ⟨vs, H1, I1, r1, a, C, ws, ev, hl, T, ea, q⟩ => ?_) he hpl
    subst ev
    cases r1 with
    | @cons _ u0 _ ur ra rw' =>
      obtain rfl : u0 = Value.ref a := ra
      refine oini_ok T Z I1 ea ?_ fun s2 J => ⟨.non, H1, J, rfl, q⟩
      rw [← Paired.length rw', sizeLine_eq]
      omega
  rcases W.how with ⟨T, hm, hv, ht, hst, hf⟩ | ⟨P, mc, hm, h1, h2, h3⟩
  · refine PySem.W.methodCall_KW (ld_blt I hg hm hv ?_ hnn hdb) hc
    obtain ⟨m, fr⟩ := I.fr
    exact PySem.W.method_type fr I.ok.mod.kin ht hst hf W.hh (fin _ (I.tok _))
  · exact PySem.W.methodCall_KW (ld_glob I hg hm (PySem.W.method_cls I.kIn h1 (PySem.W.cls_value I.kIn h2 h3 W.hh (fin _ (I.tok _)))) hdb) hc
theorem ps_ost1 (Z : Bs B initId newId bmB) (ho : PE X o to) (he : PE X e te) (hs : swapsWith e (some (.Attribute o f p')) pos.line X.env = pure false := by rfl) : PS X (.Assign [.Attribute o f p'] e pos) (tOst1 X.K newId bmB f to te) := by
  refine ⟨fun pins s σ H D I h => ?_⟩
  refine plainObj_wpAny_Assign_Attribute (thn (he.run pins s σ H _ I h) fun v s1 ⟨y, H1, I1, r1, q1⟩ => thn (ho.run pins s1 σ H1 _ I1 q1) fun u s2 ⟨x, H2, I2, r2, a, C, ex, T, hno, ea, q⟩ => ?_) hs
  subst ex
  obtain rfl : u = Value.ref a := r2
  exact ost_first T Z I2 ea hno r1 fun dx s' n ne J => ⟨σ, _, J, q dx n ne⟩
end
/-! ### the __init__ -/
def iArgs (f : Str) (p1 p2 : Pos) : Arguments := { posonlyargs := [], args := [{ arg := "self", annotation := none, pos := p1 }, { arg := f, annotation := none, pos := p2 }], vararg := none, kwonlyargs := [], kw_defaults := [], kwarg := none, defaults := [] }
def iBody (b f : Str) (q0 q1 q2 q3 q4 q5 q6 q7 q8 q9 : Pos) : List Stmt :=
  [.Expr (.Call (.Attribute (.Name b q0) "__init__" q1) [.Name "self" q2, .Name f q3] [] q4) q5, .Assign [.Attribute (.Name "self" q6) f q7] (.Name f q8) q9]
def iScope (b f : Str) : Scope := { kind := .function, names := [("self", .local), (f, .local), (b, .globalImplicit)], isGenerator := false, isCoroutine := false, more := [] }
/-- the __init__ at f stands so -/
structure InitIs (K : PySem.W.Frag) (b f qual : Str) (fI : Addr) (fd : FuncData) : Prop where
  ex : ∃ (oc : Value) (od : Option Addr) (kV doc pm : Value) (an : Option Addr) (cdv ct : Value) (osl : Array (Option Value)) (p1 p2 q0 q1 q2 q3 q4 q5 q6 q7 q8 q9 : Pos),
    fd = PySem.W.fnOf "__init__" qual (iArgs f p1 p2) (iBody b f q0 q1 q2 q3 q4 q5 q6 q7 q8 q9) (iScope b f) .none kV doc pm an cdv ct ∧ K.lookup fI = some ⟨oc, od, .func fd, osl⟩ ∧ PySem.W.codeIn K cdv qual = true ∧ (q1.endLine == q4.line) = true
/-- its promise -/
def spIni (K : PySem.W.Frag) (C : Addr) (newId : String) (bmB : List Value) (f : Str) : Sp := fun vs H Q _ => ∃ (a : Addr) (y : V), vs = [.ref a, y] ∧ H a = some (exo a C none) ∧
  ∀ dx, H dx = none → dx ≠ a → Q .non (upd (upd H dx (exd dx [(f, y)])) a (exo a C (some dx)))
/-- the field's name and the base's name are two names, and no other ones -/
structure Nms (b f : Str) : Prop where
  fs : f ≠ "self"
  bs : b ≠ "self"
  bf : b ≠ f
  nn : b ≠ "__name__"
  d1 : (b == ("__debug__" : Str)) = false
  d2 : (f == ("__debug__" : Str)) = false
  d3 : (f == ("__classdict__" : Str)) = false
  ab : ∀ (env : Env) (q0 : Pos), attributeBase (.Name b q0) "__init__" env (eval (.Name b q0) env) = eval (.Name b q0) env
theorem cl_of {b f : Str} (N : Nms b f) {env : Env} {q0 q1 q2 q3 q4 : Pos} (hq : (q1.endLine == q4.line) = true) : eval (.Call (.Attribute (.Name b q0) "__init__" q1) [.Name "self" q2, .Name f q3] [] q4) env = (do
      let ov ← eval (.Name b q0) env
      standAt q1.atName
      let (g, first) ← holding [ov] (getMethod ov "__init__" (plainOf (.Name b q0) env))
      callWith q4 g first (backTo q4 (starEach [.Name "self" q2, .Name f q3] env)) (backToKw q4 (keywordEach [] env))) := by
  rw [arm_eval_Call, N.ab]
  refine congrArg (fun k => eval (.Name b q0) env >>= k) (funext fun ov => ?_)
  refine congrArg (fun k => standAt q1.atName >>= fun _ => k) ?_
  exact mcall_line (by rfl) hq
theorem beq_no {x y : Str} (h : x ≠ y) : (x == y) = false := beq_eq_false_iff_ne.mpr h
theorem look_f {b f : Str} (N : Nms b f) : (iScope b f).names.lookup f = some .local := by
  show List.lookup f [(("self" : Str), NameKind.local), (f, .local), (b, .globalImplicit)] = _
  simp only [List.lookup, beq_no N.fs, beq_self_eq_true]
theorem look_b {b f : Str} (N : Nms b f) : (iScope b f).names.lookup b = some .globalImplicit := by
  show List.lookup b [(("self" : Str), NameKind.local), (f, .local), (b, .globalImplicit)] = _
  simp only [List.lookup, beq_no N.bs, beq_no N.bf, beq_self_eq_true]
theorem look_s {b f : Str} : (iScope b f).names.lookup ("self" : Str) = some .local := rfl
theorem ini_scope {b f : Str} (N : Nms b f) : FnScope ["self", f] ["self", f] (iScope b f) :=
  ⟨rfl, rfl, rfl, List.nodup_cons.mpr ⟨fun z => N.fs (List.mem_singleton.mp z).symm, List.nodup_cons.mpr ⟨by simp, List.nodup_nil⟩⟩, rfl, fun x hx => by
    rcases List.mem_cons.mp hx with rfl | hx
    · exact .inl look_s
    · rw [List.mem_singleton.mp hx]
      exact .inl (look_f N), fun y hy => by
    have hy : y ∈ [(("self" : Str), NameKind.local), (f, .local), (b, .globalImplicit)] := hy
    simp only [List.mem_cons, List.not_mem_nil, or_false] at hy
    rcases hy with rfl | rfl | rfl <;> exact fun z => nomatch z⟩
section
variable {P : Program} {w : World} {K : PySem.W.Frag} {mg : Str → Option Value} {base : Heap} {newId B initId : String} {bmB : List Value} {b f qual : Str} {fI C : Addr} {fd : FuncData}
theorem ini_ok (N : Nms b f) (F : InitIs K b f qual fI fd) (W : IniBy K mg b initId) (Z : Bs B initId newId bmB) (T : OxC K C newId bmB) (hno : NoAttr K C f) :
    FnOk P w K mg base CX0 1 fI fd ["self", f] (spIni K C newId bmB f) := by
  obtain ⟨oc, od, kV, doc, pm, an, cdv, ct, osl, p1, p2, q0, q1, q2, q3, q4, q5, q6, q7, q8, q9, rfl, lk, hcd, hq⟩ := F.ex
  refine fn_of lk hcd (ini_scope N) (fun vs H Q E h => ?_) fun A outer s H vs Q E hr h => ?_
  · obtain ⟨a, y, rfl, _⟩ := h
    rfl
  · obtain ⟨a, y, rfl, ha, k⟩ := h
    refine ⟨_, PSs.nox (pss_cons (ps_expr (pe_bini W Z (look_b N) (pa_cons (pe_var (i := 0) rfl (.inl look_s)) (pa_cons (pe_var (i := 1) rfl (.inl (look_f N)) N.d2 N.d3) pa_nil)) N.nn N.d1 (cl_of N hq)))
      (pss_one (ps_ost1 Z (pe_var (i := 0) rfl (.inl look_s)) (pe_var (i := 1) rfl (.inl (look_f N)) N.d2 N.d3)))), ?_⟩
    refine ⟨_, rfl, _, rfl, a, C, [y], rfl, (by show 1 ≤ 1000; decide), T, ha, ?_⟩
    exact ⟨_, rfl, _, rfl, a, C, rfl, T, hno, ha, fun dx n ne => k dx n ne⟩
end
end XQ
set_option Elab.async false
set_option linter.all false
set_option maxRecDepth 100000
set_option maxHeartbeats 4000000
namespace XQ
open PySem PySem.Spec PyProof.Rows L2
/-- all that making an error C(v) wants: named nm at the top, its field f -/
structure MkX (P : Program) (w : World) (K : PySem.W.Frag) (mg : Str → Option Value) (base : Heap) (nm f : Str) (C : Addr) (newId : String) (bmB : List Value) : Prop where
  ox : OxC K C newId bmB
  nw : ∃ Bn initN bmN, ExcBaseFacts Bn newId initN bmN ∧ bmB.contains (.type Bn) = true
  noA : bmB.contains (.type "AttributeError") = false
  noN : bmB.contains (.type "NameError") = false
  gC : mg nm = some (.ref C)
  ini : ∃ (fI : Addr) (fd : FuncData), PySem.W.findIn K (.ref C) "__init__" = some (some (.ref fI)) ∧ PySem.W.typeIn K (.ref fI) = some (.type "function") ∧ FnOk P w K mg base CX0 1 fI fd ["self", f] (spIni K C newId bmB f) ∧
    (∀ us : List Value, us.length = 2 → bindArgs fd ⟨us, []⟩ = pure ((["self", f] : List Str).zip us)) ∧ ∀ u v : Value, bindArgs fd ⟨[u], [(f, v)]⟩ = pure [(("self" : Str), u), (f, v)]
/-- at a: an error of the class at C whose field f is y -/
def XAt (H : Hp) (a C : Addr) (f : Str) (y : V) : Prop := ∃ d, H a = some (exo a C (some d)) ∧ H d = some (exd d [(f, y)])
def xput (H : Hp) (a d C : Addr) (f : Str) (y : V) : Hp := upd (upd H d (exd d [(f, y)])) a (exo a C (some d))
def tXnew (C : Addr) (f : Str) (ta : TA) : TE := fun σ H Q => ta σ H fun vs H1 => ∃ y, vs = [y] ∧ ∀ a d, H1 a = none → H1 d = none → d ≠ a → Q (.ref a) (xput H1 a d C f y)
theorem xput_at {H : Hp} {a d C : Addr} {f : Str} {y : V} (n : d ≠ a) : XAt (xput H a d C f y) a C f y := ⟨d, upd_same, by unfold xput; rw [upd_ne n, upd_same]⟩
theorem xput_old {H : Hp} {a d C : Addr} {f : Str} {y : V} (n1 : H a = none) (n2 : H d = none) : ∀ b o, H b = some o → xput H a d C f y b = some o := fun b o e => by
  unfold xput
  rw [upd_ne (ne_of_none e n1), upd_ne (ne_of_none e n2)]
  exact e
section
variable {X : Cx} {pins : List (Addr × Obj)} {σ : L2.St} {H : Hp} {s : Shared} {a C : Addr} {f nm : Str} {newId : String} {bmB : List Value} {e : Expr} {ta : TE} {p pos kpos : Pos}
/-- C(u) or C(f=u) -/
theorem run_xnew (M : MkX X.prog X.w X.K X.mg X.base nm f C newId bmB) (hr : Room 2 X.A) (I : Inv X pins σ H s) {y : V} {u : Value} {rest : List Value} {kw : List (Str × Value)} (hk : (rest = [u] ∧ kw = []) ∨ (rest = [] ∧ kw = [(f, u)])) (r : RelV y u) {Q : VK}
    (h : ∀ a d, H a = none → H d = none → d ≠ a → Q (.ref a) (xput H a d C f y)) : wpAny (model X.prog X.w) X.A (call (.ref C) rest kw) (EP X pins σ Q) X.xe s := by
  obtain ⟨nm', N, q, bs, bm, hdct, sn, sub, ab, col, dd, k0, k1, k2, k3, k5, hC, hb⟩ := PySem.W.excInit_of I.kIn M.ox.ini
  obtain ⟨Bn, initN, bmN, Z, hBn⟩ := M.nw
  obtain ⟨fI, fd, hi, ht, F, hb1, hb2⟩ := M.ini
  have nok : NewOk bm Bn := ⟨by rw [hb]; exact hBn, by rw [hb]; exact M.noA, by rw [hb]; exact M.noN⟩
  have hz : rest.length ≤ sizeLine := by
    rw [sizeLine_eq]
    rcases hk with ⟨rfl, _⟩ | ⟨rfl, _⟩
    · exact (by decide : 1 ≤ 16777216)
    · exact (by decide : 0 ≤ 16777216)
  obtain ⟨hp, g, dr, tk, os⟩ := s
  have hn : H (hp.objs.size + 1) = none := I.hok.fresh (Nat.le_succ _)
  have kk : ∀ b o, hp.get? b = some o → ((hp.push (PySem.W.kdv_tup rest)).push (PySem.HandSPX.excO C hp.objs.size)).get? b = some o := fun b o e => Heap.get?_push_of_some _ (Heap.get?_push_of_some _ e)
  have hget : ((hp.push (PySem.W.kdv_tup rest)).push (PySem.HandSPX.excO C hp.objs.size)).get? (hp.objs.size + 1) = some (PySem.HandSPX.excO C hp.objs.size) := by heap_get
  have I2 : Inv X pins σ (upd H (hp.objs.size + 1) (exo (hp.objs.size + 1) C none)) ⟨(hp.push (PySem.W.kdv_tup rest)).push (PySem.HandSPX.excO C hp.objs.size), g, dr, tk, os⟩ :=
    I.laid (t' := tk) (a := hp.objs.size + 1) (o := exo (hp.objs.size + 1) C none) (h' := (hp.push (PySem.W.kdv_tup rest)).push (PySem.HandSPX.excO C hp.objs.size)) kk (Nat.le_succ _) (exo_ok hget)
  have bt : ∀ s' : Shared, BindsTo s' fd ⟨.ref (hp.objs.size + 1) :: rest, kw⟩ ((["self", f] : List Str).zip [.ref (hp.objs.size + 1), u]) := fun s' => by
    rcases hk with ⟨rfl, rfl⟩ | ⟨rfl, rfl⟩
    · exact .of_eq (hb1 _ rfl)
    · exact .of_eq (hb2 _ _)
  have hq : spIni X.K C newId bmB f [.ref (hp.objs.size + 1), y] (upd H (hp.objs.size + 1) (exo (hp.objs.size + 1) C none)) (fun v H2 => v = .non ∧ Q (.ref (hp.objs.size + 1)) H2) E0 := by
    refine ⟨_, y, rfl, upd_same, fun dx n ne => ⟨rfl, ?_⟩⟩
    have n' : H dx = none := by
      rw [upd_ne ne] at n
      exact n
    have eq : upd (upd (upd H (hp.objs.size + 1) (exo (hp.objs.size + 1) C none)) dx (exd dx [(f, y)])) (hp.objs.size + 1) (exo (hp.objs.size + 1) C (some dx)) = xput H (hp.objs.size + 1) dx C f y := funext fun b => by
      unfold xput
      by_cases h1 : b = hp.objs.size + 1
      · rw [h1, upd_same, upd_same]
      · by_cases h2 : b = dx
        · rw [h2, upd_ne ne, upd_ne ne, upd_same, upd_same]
        · rw [upd_ne h1, upd_ne h1, upd_ne h2, upd_ne h2, upd_ne h1]
    rw [eq]
    exact h _ dx hn n' ne
  have rr : Vals [V.ref (hp.objs.size + 1), y] [Value.ref (hp.objs.size + 1), u] := .cons rfl (.cons r .nil)
  refine wpAny_call (call_any Z nok hC (PySem.W.looks_findIn I.kIn hi) (fun self => PySem.W.bind_fn I.kIn self ht) hz
    (codeAny_mono (F.run _ X.stack _ _ ⟨.ref (hp.objs.size + 1) :: rest, kw⟩ [.ref (hp.objs.size + 1), u] _ _ E0 (hr.make C rest kw) (I2.env0.make C rest kw) (bt _) rr hq) fun r' s' hq' => ?_))
  cases r' with
  | error er => exact (show False from hq').elim
  | ok fl =>
    cases fl with
    | ret u =>
      obtain ⟨v, H', I3, rv, ev, q3⟩ := I2.after hq'
      subst ev
      exact ⟨rv, ⟨.ref (hp.objs.size + 1), H', ⟨I3.ok, I3.os, I3.bare, I3.base, I3.loc, I3.cell, I3.free, I3.freeC, I3.pin, I3.hok, I3.len⟩, rfl, q3⟩⟩
    | next => exact False.elim hq'
    | brk => exact False.elim hq'
    | cont => exact False.elim hq'
theorem pe_xnew {ta : TA} (M : MkX X.prog X.w X.K X.mg X.base nm f C newId bmB) (hr : Room 2 X.A) (hg : Gl X nm) (ha : PA X [e] ta) (hdb : (nm == ("__debug__" : Str)) = false := by decide) (he : starEach [e] X.env = (false, eval e X.env) :: starEach [] X.env := by rfl) :
    PE X (.Call (.Name nm p) [e] [] pos) (tXnew C f ta) := by
  refine ⟨fun pins s σ H Q I h => ?_⟩
  refine wpAny_Call_Name_kw (ld_glob I hg M.gC ?_ hdb)
  refine PySem.W.callWith_K (h₀ := X.base) I.ok.mod.kin M.ox.kC (thn (ha.run pos pins s σ H _ I h) fun us s1 ⟨vs, H1, I1, r, y, ev, q⟩ => ⟨I1.kIn, ?_⟩) he (by rfl)
  subst ev
  obtain ⟨u, rfl, ru⟩ := vals1 r
  exact run_xnew M hr I1 (.inl ⟨rfl, rfl⟩) ru q
theorem pe_xnewK {tk : TA} (M : MkX X.prog X.w X.K X.mg X.base nm f C newId bmB) (hr : Room 2 X.A) (hg : Gl X nm) (ha : PK X [⟨some f, e, kpos⟩] tk) (hdb : (nm == ("__debug__" : Str)) = false := by decide)
    (hall : (backToKw pos (keywordEach [⟨some f, e, kpos⟩] X.env)).all (·.1.isSome) = true := by rfl) (hks : (backToKw pos (keywordEach [⟨some f, e, kpos⟩] X.env)).filterMap (·.1) = [f] := by rfl)
    (hpl : ((backTo pos (starEach [] X.env)).any (·.1) || (backToKw pos (keywordEach [⟨some f, e, kpos⟩] X.env)).any (·.1.isNone)) = false := by rfl) :
    PE X (.Call (.Name nm p) [] [⟨some f, e, kpos⟩] pos) (tXnew C f tk) := by
  refine ⟨fun pins s σ H Q I h => ?_⟩
  refine wpAny_Call_Name_kw (ld_glob I hg M.gC ?_ hdb)
  refine PySem.W.callWith_KW0 (h₀ := X.base) I.ok.mod.kin M.ox.kC hall ?_ hpl
  refine thn (ha.run pos pins s σ H _ I h) fun us s1 ⟨vs, H1, I1, r, y, ev, q⟩ => ⟨I1.kIn, ?_⟩
  subst ev
  rw [hks]
  obtain ⟨u, rfl, ru⟩ := vals1 r
  exact run_xnew M hr I1 (.inr ⟨rfl, rfl⟩) ru q
end
/-! ### its field, its kind -/
structure XRd (K : PySem.W.Frag) (C : Addr) : Prop where
  ga : PySem.W.findIn K (.ref C) "__getattribute__" = some (some (.builtin "BaseException.__getattribute__"))
  gg : PySem.W.findIn K (.ref C) "__getattr__" = some none
  ex : PySem.W.subIn K (.ref C) (.type "BaseException") = some true
  hd : PySem.W.hasDictIn K C = true
  ca : PySem.W.findIn K (.ref C) "__class__" = some (some (.builtin "object.__class__"))
  cg : PySem.W.specialIn K (.builtin "object.__class__") "__get__" = some (some (.builtin "getset_descriptor.__get__"))
  ct : PySem.W.takesIn K (.builtin "object.__class__") = some true
  mo : PySem.W.mroIn K C (.type "object") = some true
def tXf (K : PySem.W.Frag) (f : Str) (te : TE) : TE := fun σ H Q => te σ H fun x H1 => ∃ (a C : Addr) (y : V), x = .ref a ∧ XAt H1 a C f y ∧ XRd K C ∧ NoAttr K C f ∧ Q y H1
/-- isinstance(e, c), e an error at a of the class at C -/
def rIsX (K : PySem.W.Frag) : List V → Hp → VK → Prop := fun xs H Q => ∃ (a C : Addr) (f : Str) (y c : V) (cv : Value) (b : Bool), xs = [.ref a, c] ∧ XAt H a C f y ∧ XRd K C ∧ ClsV c cv ∧ PySem.W.kitOne K (.ref C) cv = some b ∧ Q (.bl b) H
section
variable {X : Cx} {pins : List (Addr × Obj)} {σ : L2.St} {H : Hp} {s : Shared} {a C : Addr} {f : Str} {y : V} {e : Expr} {te : TE} {pos : Pos}
theorem inst_of (I : Inv X pins σ H s) (h : XAt H a C f y) : ∃ (ox od : Obj), PySem.W.InstAt s.heap a ox C (some od) ∧ ∃ mA : Str → Option Value, (∀ g, PySem.W.lookIn g od = some (mA g)) ∧ ∀ g, RelO ([(f, y)].lookup g) (mA g) := by
  obtain ⟨d, h1, h2⟩ := h
  obtain ⟨t1, ho⟩ := exo_at I.hok h1
  obtain ⟨mA, hn, hr⟩ := exd_at I.hok h2
  obtain ⟨od, hd, hl⟩ := lookIn_ns hn
  exact ⟨_, od, ⟨ho, rfl, rfl, hd⟩, mA, hl, hr⟩
theorem pe_xf (he : PE X e te) (hb : attributeBase e f X.env (eval e X.env) = eval e X.env := by rfl) : PE X (.Attribute e f pos) (tXf X.K f te) := by
  refine ⟨fun pins s σ H Q I h => ?_⟩
  refine attr_of hb (thn (he.run pins s σ H _ I h) fun u s1 ⟨x, H1, I1, rx, a, C, y, ex, ea, T, hno, q⟩ => ?_)
  subst ex
  obtain rfl : u = Value.ref a := rx
  obtain ⟨ox, od, J, mA, hl, hr⟩ := inst_of I1 ea
  have hf := hr f
  rw [lookup_put, if_pos rfl] at hf
  obtain ⟨u, hu, ru⟩ := RelO.some_of hf
  exact HandSPX.exc_get I1.kIn J T.ga T.gg T.ex (PySem.W.findObj_own T.hd hno rfl (by rw [hl, hu])) (handed_of ru) ⟨y, H1, I1.tok _, ru, q⟩
theorem call_isX : CallR X (.builtin "isinstance") (rIsX X.K) := by
  intro pins s σ H xs us Q I r h
  obtain ⟨a, C, f, y, c, cv, b, rfl, ea, T, hc, e, q⟩ := h
  obtain ⟨u1, u2, rfl, r1, r2⟩ := vals2 r
  have e2 := hc.eq r2
  subst e2
  obtain rfl : u1 = Value.ref a := r1
  obtain ⟨ox, od, J, _⟩ := inst_of I ea
  exact PySem.W.kia_one (PySem.W.kitx_exc (by obtain ⟨cd, h, _⟩ := PySem.W.any_some T.hd; rw [h]; rfl) T.ga T.gg T.ex T.ca T.cg T.ct T.mo) I.kIn J e (fun z => nomatch z) fun tk => ⟨.bl b, H, I.tok tk, rfl, q⟩
end
end XQ
set_option Elab.async false
set_option linter.all false
set_option maxRecDepth 100000
set_option maxHeartbeats 4000000
namespace XQ
open PySem PySem.Spec PyProof.Rows L2 LamX
/-- at f: a lambda without captured names, its code object at c -/
def LamO (f c : Addr) (qual : Str) (params : Arguments) (body : Expr) (scope : Scope) : HO := .ext fun h => ∃ pm ctv : Value, h.get? f = some (PySem.W.kla_obj "<lambda>" qual params body scope [] pm c ctv)
theorem lamO_ok {P : Program} {w : World} {H : Hp} {h : Heap} {f c : Addr} {qual : Str} {params : Arguments} {body : Expr} {scope : Scope} {pm ctv : Value} (e : h.get? f = some (PySem.W.kla_obj "<lambda>" qual params body scope [] pm c ctv)) : ObjOk P w H h f (LamO f c qual params body scope) :=
  ⟨⟨pm, ctv, e⟩, ⟨_, e⟩, fun _ _ ⟨pm, ctv, q⟩ k => ⟨pm, ctv, k _ q⟩⟩
theorem lamO_at {P : Program} {w : World} {H : Hp} {h : Heap} {f c : Addr} {qual : Str} {params : Arguments} {body : Expr} {scope : Scope} (hok : HOk P w H h) (e : H f = some (LamO f c qual params body scope)) : ∃ pm ctv : Value, h.get? f = some (PySem.W.kla_obj "<lambda>" qual params body scope [] pm c ctv) := by
  have x : ObjOk P w H h f (.ext fun h => ∃ pm ctv : Value, h.get? f = some (PySem.W.kla_obj "<lambda>" qual params body scope [] pm c ctv)) := hok f _ e
  exact x.1
/-- a lambda stands at f -/
def LamAt (H : Hp) (f : Addr) (qual : Str) (params : Arguments) (body : Expr) (scope : Scope) : Prop := ∃ c, H f = some (LamO f c qual params body scope) ∧ H c = some (CodeO c qual)
theorem lamO_tbl {f c : Addr} {qual : Str} {params : Arguments} {body : Expr} {scope : Scope} (ps : Array Value) : LamO f c qual params body scope ≠ .tbl ps := fun z => by
  unfold LamO at z
  cases z
theorem LamAt.ext {H H' : Hp} {f : Addr} {qual : Str} {params : Arguments} {body : Expr} {scope : Scope} (h : LamAt H f qual params body scope) (e : ExtN H H') : LamAt H' f qual params body scope := by
  obtain ⟨c, h1, h2⟩ := h
  exact ⟨c, e _ _ h1 lamO_tbl, e _ _ h2 codeO_ne⟩
def tLamb (T : List (Addr × Str)) (qual : Str) (params : Arguments) (body : Expr) (scope : Scope) : TE := fun _ H Q => Tabs T H ∧ ∀ f H1, H f = none → ExtN H H1 → Tabs T H1 → LamAt H1 f qual params body scope → Q (.ref f) H1
section
variable {X : Cx} {pins : List (Addr × Obj)} {σ : L2.St} {H : Hp} {s : Shared}
theorem pe_lamb {T : List (Addr × Str)} {c P : Addr} {params : Arguments} {body : Expr} {scope : Scope} {pos : Pos} (TB : TabB X.base X.mg c P) (hcode : X.env.code = .ref c)
    (hm : (P, X.env.qual ++ "<lambda>") ∈ T) (hu : ∀ p ∈ T, p.1 = P → p.2 = X.env.qual ++ "<lambda>") (hdef : defaultsOf params X.env = ([], [])) (hcl : closureFor scope X.env = pure []) :
    PE X (.Lambda params body scope pos) (tLamb T (X.env.qual ++ "<lambda>") params body scope) := by
  refine ⟨fun pins s σ H Q I hh => ?_⟩
  obtain ⟨hT, k⟩ := hh
  obtain ⟨ps, hP, ht, ha⟩ := hT _ hm
  refine PySem.W.kla_eval hdef ?_
  have bP : s.heap.BuiltinsAt X.mg P := TB.bm.keeps I.bk
  have hP' : s.heap.get? P = some { cls := .none, data := .fields ps } := I.hok P _ hP
  cases hc : codeAmong pos ps.toList with
  | none =>
    refine PySem.W.kla_makeFunction (mg := X.mg) (c := c) (P := P) (ps := ps) hcl I.ok.glob (I.mod.glob.keeps I.bk) hcode (TB.code.keeps I.bk) hP' ht hc TB.gP bP fun c' ctv h' tk hx hge hlt hrec htb => ?_
    obtain ⟨c2, oc, vs, t, e2, hoc, hd, hv⟩ := hrec
    cases e2
    have nC : H c' = none := I.hok.fresh hge
    have I1 := inv_table (t' := tk) (q := X.env.qual ++ "<lambda>") (more := #[rawInt pos.line, rawInt pos.col, .ref c']) (h' := h') I hP hx htb hge ⟨oc, vs, t, hoc, hd, hv⟩
    have hE : ExtN H (upd (upd H P (.tbl (ps ++ #[rawInt pos.line, rawInt pos.col, .ref c']))) c' (CodeO c' (X.env.qual ++ "<lambda>"))) := fun b o e n => by
      rw [upd_ne (ne_of_none e nC), upd_ne (fun z => n ps (Option.some.inj (e.symm.trans (by rw [z]; exact hP))))]
      exact e
    have eL : (ps ++ #[rawInt pos.line, rawInt pos.col, .ref c']).toList = ps.toList ++ [rawInt pos.line, rawInt pos.col, .ref c'] := by simp
    have T1 : Tabs T (upd (upd H P (.tbl (ps ++ #[rawInt pos.line, rawInt pos.col, .ref c']))) c' (CodeO c' (X.env.qual ++ "<lambda>"))) := fun p hp => by
      by_cases hb : p.1 = P
      · rw [hu p hp hb, hb]
        refine ⟨_, by rw [upd_ne (ne_of_none hP nC), upd_same], by rw [eL]; exact PySem.TriplesOk_snoc _ _ _ _ ht, fun p' cv hcv => ?_⟩
        rw [eL] at hcv
        rcases among_app _ ht hcv with z | z
        · obtain ⟨c0, e1, e2⟩ := ha p' cv z
          exact ⟨c0, e1, hE _ _ e2 codeO_ne⟩
        · exact ⟨c', z, upd_same⟩
      · obtain ⟨ps', a1, a2, a3⟩ := hT p hp
        refine ⟨ps', by rw [upd_ne (ne_of_none a1 nC), upd_ne hb]; exact a1, a2, fun p' cv hcv => ?_⟩
        obtain ⟨c0, e1, e2⟩ := a3 p' cv hcv
        exact ⟨c0, e1, hE _ _ e2 codeO_ne⟩
    have nf := I1.hok.fresh (Nat.le_refl h'.objs.size)
    have lay := I1.laid (t' := tk) (a := h'.objs.size) (o := LamO h'.objs.size c' (X.env.qual ++ "<lambda>") params body scope) (h' := h'.push (PySem.W.kla_obj "<lambda>" (X.env.qual ++ "<lambda>") params body scope [] ((X.mg "__name__").getD .none) c' ctv))
      (fun b o e => Heap.get?_push_of_some _ e) (Nat.le_refl _) (lamO_ok (Heap.get?_push_size _ rfl))
    have nE : ExtN (upd (upd H P (.tbl (ps ++ #[rawInt pos.line, rawInt pos.col, .ref c']))) c' (CodeO c' (X.env.qual ++ "<lambda>"))) (upd (upd (upd H P (.tbl (ps ++ #[rawInt pos.line, rawInt pos.col, .ref c']))) c' (CodeO c' (X.env.qual ++ "<lambda>"))) h'.objs.size (LamO h'.objs.size c' (X.env.qual ++ "<lambda>") params body scope)) :=
      ExtN.of fun b o e => by rw [upd_ne (ne_of_none e nf)]; exact e
    refine ⟨.ref h'.objs.size, _, lay, rfl, k _ _ (I.hok.fresh (Nat.le_trans hge (Nat.le_of_lt hlt))) (hE.trans nE) (T1.ext fun b o e => by rw [upd_ne (ne_of_none e nf)]; exact e) ⟨c', upd_same, ?_⟩⟩
    exact nE _ _ upd_same codeO_ne
  | some cv =>
    obtain ⟨c', e, hco⟩ := ha pos cv hc
    subst e
    refine PySem.W.kla_makeFunctionHit (mg := X.mg) (c := c) (P := P) (ps := ps) hcl I.ok.glob (I.mod.glob.keeps I.bk) hcode (TB.code.keeps I.bk) hP' ht hc bP fun ctv h' tk hx hsz => ?_
    have I1 : Inv X pins σ H { s with heap := h', toks := tk } := I.kept hx
    have nf : H h'.objs.size = none := I.hok.fresh hsz
    have lay := I1.laid (t' := tk) (a := h'.objs.size) (o := LamO h'.objs.size c' (X.env.qual ++ "<lambda>") params body scope) (h' := h'.push (PySem.W.kla_obj "<lambda>" (X.env.qual ++ "<lambda>") params body scope [] ((X.mg "__name__").getD .none) c' ctv))
      (fun b o e => Heap.get?_push_of_some _ e) (Nat.le_refl _) (lamO_ok (Heap.get?_push_size _ rfl))
    have nE : ∀ b o, H b = some o → upd H h'.objs.size (LamO h'.objs.size c' (X.env.qual ++ "<lambda>") params body scope) b = some o := fun b o e => by
      rw [upd_ne (ne_of_none e nf)]
      exact e
    exact ⟨.ref h'.objs.size, _, lay, rfl, k _ _ nf (ExtN.of nE) (hT.ext nE) ⟨c', upd_same, nE _ _ hco⟩⟩
/-- such a lambda is called -/
theorem run_lamb {k : Nat} {N ps : List Str} {f : Addr} {qual : Str} {params : Arguments} {body : Expr} {scope : Scope} {us : List Value} {vs : List V} {Q : VK} (S : FnScope N ps scope) (hr : Room (k + 1) X.A) (I : Inv X pins σ H s) (h : LamAt H f qual params body scope)
    (hbind : ∀ (pm cv ctv : Value) (us : List Value), us.length = ps.length → bindArgs (PySem.W.kla_fn "<lambda>" qual params body scope [] pm cv ctv) ⟨us, []⟩ = pure (ps.zip us)) (r : Vals vs us) (hl : vs.length = ps.length)
    (hbody : ∀ (c : Addr) (A : Around) (outer : List Env) (s : Shared), Room k (A.deeper (envOfC qual scope s.heap.objs.size f (.ref c))) → ∃ t, PE (cxOf CX0 X.prog X.w X.K X.mg X.base N qual scope f (.ref c) A outer s H E0).nox body t ∧ t (L2.start N vs) H Q) :
    wpAny (model X.prog X.w) X.A (call (.ref f) us) (EP X pins σ Q) X.xe s := by
  obtain ⟨c, hf, hc⟩ := h
  obtain ⟨pm, ctv, of⟩ := lamO_at I.hok hf
  obtain ⟨⟨oc, ws, t, hoc, hdc, hvc⟩, _, _⟩ := I.hok c _ hc
  have e0 := I.env0
  have hus : us.length = ps.length := r.length.symm.trans hl
  have hkind : ∀ y ∈ ps.zip us, scope.names.lookup y.1 = some .local ∨ (scope.names.lookup y.1 = some .cell ∧ ((cellsFrom (s.heap.objs.size + 1) scope.names []).lookup y.1).isSome = true) := fun y hy => by
    rcases S.par y.1 (List.of_mem_zip (by exact hy)).1 with q | q
    · exact .inl q
    · exact .inr ⟨q, PySem.W.cellsFrom_some _ _ _ (.inl q)⟩
  have rc : codeAny (model X.prog X.w) X.A (.call (.ref f) ⟨us, []⟩) (CR CX0 X.stack X.prog X.w H s Q E0) s := by
    refine PySem.W.kla_callFunE hr.depth of rfl S.co S.gen rfl ⟨c, oc, ws, t, rfl, hoc, hdc, hvc⟩ ?_
    rw [hbind _ _ _ _ hus]
    refine wpAny_pure (wpAny_newFunctionEnv_cells S.kind hkind fun env he s1 x => ?_)
    subst he
    refine ⟨I.nolimit.keeps x.toInCall.keep, ?_⟩
    obtain ⟨te, ht, hq⟩ := hbody c X.A X.stack s (hr.deeper _)
    have J : Inv (cxOf CX0 X.prog X.w X.K X.mg X.base N qual scope f (.ref c) X.A X.stack s H E0) [] (L2.start N vs) H s1 := inv_start S hr.hd e0 hl r x
    refine PySem.W.kla_codeExpr (wpAny_mono (ht.nox.run [] s1 (L2.start N vs) H Q J hq) (fun v s' hv => ?_) fun e s' hv => hv)
    obtain ⟨w', H', J', rv, q⟩ := hv
    exact ⟨w', H', J'.os, J'.bare, J'.base, J'.hok, rv, q⟩
  refine wpAny_call (codeAny_mono rc fun r' s' hq => ?_)
  cases r' with
  | error e => exact (show False from hq).elim
  | ok fl =>
    cases fl with
    | ret u => exact I.after hq
    | next => exact False.elim hq
    | brk => exact False.elim hq
    | cont => exact False.elim hq
end
/-- a(e): the name in slot i holds a lambda that hands back its argument's field g -/
def FieldLam (H : Hp) (f : Addr) (g : Str) : Prop := ∃ (qual x : Str) (params : Arguments) (scope : Scope) (p1 p2 : Pos), LamAt H f qual params (.Attribute (.Name x p1) g p2) scope ∧ FnScope [x] [x] scope ∧ scope.names.lookup x = some .local ∧ (x == ("__debug__" : Str)) = false ∧ (x == ("__classdict__" : Str)) = false ∧
  (∀ env : Env, attributeBase (.Name x p1) g env (eval (.Name x p1) env) = eval (.Name x p1) env) ∧ ∀ (pm cv ctv : Value) (us : List Value), us.length = ([x] : List Str).length → bindArgs (PySem.W.kla_fn "<lambda>" qual params (.Attribute (.Name x p1) g p2) scope [] pm cv ctv) ⟨us, []⟩ = pure (([x] : List Str).zip us)
theorem FieldLam.ext {H H' : Hp} {f : Addr} {g : Str} (h : FieldLam H f g) (e : ExtN H H') : FieldLam H' f g := by
  obtain ⟨qual, x, params, scope, p1, p2, h1, h2⟩ := h
  exact ⟨qual, x, params, scope, p1, p2, h1.ext e, h2⟩
def tReads (K : PySem.W.Frag) (i : Nat) (ta : TA) : TE := fun σ H Q => ∃ (f : Addr) (g : Str), σ[i]? = some (some (.ref f)) ∧ FieldLam H f g ∧ ta σ H fun vs H1 => ∃ (a C : Addr) (y : V), vs = [.ref a] ∧ ExtN H H1 ∧ XAt H1 a C g y ∧ XRd K C ∧ NoAttr K C g ∧ Q y H1
theorem pe_reads {X : Cx} {i : Nat} {x : Str} {e : Expr} {ta : TA} {p pos : Pos} (hr : Room 2 X.A) (hN : X.N[i]? = some x) (hv : Vis X.env.scope x) (ha : PA X [e] ta) (hdb : (x == ("__debug__" : Str)) = false := by decide) (hcd : (x == ("__classdict__" : Str)) = false := by decide)
    (he : starEach [e] X.env = (false, eval e X.env) :: starEach [] X.env := by rfl) : PE X (.Call (.Name x p) [e] [] pos) (tReads X.K i ta) := by
  refine ⟨fun pins s σ H Q I h => ?_⟩
  obtain ⟨f, g, hs, hF, ht⟩ := h
  refine wpAny_Call_Name_kw (thn ((pe_var (pos := p) hN hv hdb hcd).run pins s σ H (fun v H1 => v = .ref f ∧ H1 = H) I ⟨.ref f, hs, rfl, rfl⟩) fun u s1 ⟨v, H1, I1, r1, q1⟩ => ?_)
  obtain ⟨rfl, rfl⟩ := q1
  cases r1
  have at_f : ∀ {s' : Shared} {H' : Hp}, Inv X pins σ H' s' → FieldLam H' f g → PySem.W.FnAt f s'.heap := fun J hF => by
    obtain ⟨qual, x, params, scope, p1, p2, ⟨c, h1, _⟩, _⟩ := hF
    obtain ⟨pm, ctv, of⟩ := lamO_at J.hok h1
    exact ⟨_, _, _, _, of⟩
  refine PySem.W.callWith_F (at_f I1 hF) (thn (ha.run pos pins s1 σ _ _ I1 ht) fun us s2 ⟨vs, H2, I2, r, a, C, y, ev, hE, ea, T, hno, q⟩ => ⟨at_f I2 (hF.ext hE), ?_⟩) he (by rfl)
  subst ev
  obtain ⟨qual, xa, params, scope, p1, p2, hL, S, hx, d1, d2, hab, hbind⟩ := hF.ext hE
  refine run_lamb (k := 1) (vs := [.ref a]) S hr I2 hL hbind r rfl fun c A outer s' hr' => ?_
  exact ⟨_, pe_xf (pe_var (i := 0) rfl (.inl hx) d1 d2) (hab _), _, rfl, a, C, y, rfl, ea, T, hno, q⟩
end XQ
set_option Elab.async false
set_option linter.all false
set_option maxRecDepth 100000
set_option maxHeartbeats 4000000
/-! a look at what the top left: defs by their text, any Bool of the written part, code tables that are empty yet -/
namespace HQ
open PySem PySem.Spec PyProof.Rows L2 He
/-- the module's names, what they reach in n steps, the machine's own notes -/
def asQ (g : Addr → Option Obj) (n : Nat) : List Addr := cStatics :: asD g n
def kQ (g : Addr → Option Obj) (n : Nat) : PySem.W.Frag := frT g (asQ g n)
structure Says (fn : List DefD) (tf : List Defn) (ex : PySem.W.Frag → Bool) (h : Heap) (K : PySem.W.Frag) : Prop where
  defs : SaysD [] fn K
  more : ex K = true
  hd : ∀ p ∈ tf, PySem.W.codeHdIn K (cT K p).1 (cT K p).2 = true
  out : ∀ p ∈ tf, K.lookup (cT K p).2 = none
  empty : ∀ p ∈ tf, h.get? (cT K p).2 = some { cls := .none, data := .fields #[] }
abbrev Al : Type := AlD × Bool
def obsQ (n : Nat) (fn : List DefD) (tf : List Defn) (ex : PySem.W.Frag → Bool) (g : Addr → Option Obj) : Al := (obsD [] fn (kQ g n), ex (kQ g n) && tabsB g tf (kQ g n))
theorem says_of {n : Nat} {fn : List DefD} {tf : List Defn} {ex : PySem.W.Frag → Bool} {h : Heap} (e : obsQ n fn tf ex h.get? = (valD fn, true)) : Says fn tf ex h (kQ h.get? n) := by
  have e1 : obsD [] fn (kQ h.get? n) = valD fn := congrArg Prod.fst e
  have e2 : (ex (kQ h.get? n) && tabsB h.get? tf (kQ h.get? n)) = true := congrArg Prod.snd e
  obtain ⟨h1, h2⟩ := ba e2
  have key : ∀ p ∈ tf, PySem.W.codeHdIn (kQ h.get? n) (cT (kQ h.get? n) p).1 (cT (kQ h.get? n) p).2 = true ∧ ∃ o, h.get? (cT (kQ h.get? n) p).2 = some o ∧ emptyTab o = true := fun p hp => by
    obtain ⟨h3, h4⟩ := ba (List.all_eq_true.mp h2 p hp)
    cases q : h.get? (cT (kQ h.get? n) p).2 with
    | none => rw [q] at h4; cases h4
    | some o => rw [q] at h4; exact ⟨h3, o, rfl, h4⟩
  refine ⟨e1, h1, fun p hp => (key p hp).1, fun p hp => ?_, fun p hp => ?_⟩
  · obtain ⟨_, o, q, z⟩ := key p hp
    exact frT_none q z
  · obtain ⟨_, o, q, z⟩ := key p hp
    rw [q, emptyTab_eq z]
def hook (n : Nat) (fn : List DefD) (tf : List Defn) (ex : PySem.W.Frag → Bool) : PySem.W.Hook where
  α := Al
  obs := fun s => obsQ n fn tf ex s.heap.get?
  val := fun _ => (valD fn, true)
  says := fun _ h => ∃ K : PySem.W.Frag, K.In h ∧ Says fn tf ex h K
  of := fun _ _ e => ⟨_, frT_in, says_of e⟩
  keeps := fun _ _ _ ⟨K, hK, c⟩ k => ⟨K, PySem.W.Frag.In.keeps hK k, ⟨c.defs, c.more, c.hd, c.out, fun p hp => k _ _ (c.empty p hp)⟩⟩
theorem obsQ_eq {n : Nat} {fn : List DefD} {tf : List Defn} {ex : PySem.W.Frag → Bool} {g : Addr → Option Obj} {s : Shared} (h : ∀ a, g a = s.heap.get? a) : obsQ n fn tf ex g = (hook n fn tf ex).obs s := by
  have e : g = s.heap.get? := funext h
  rw [e] <;> rfl
end HQ
set_option Elab.async false
set_option linter.all false
set_option maxRecDepth 100000
set_option maxHeartbeats 0
namespace K97
open PySem PySem.Spec PyProof.Rows L2 LamX XQ
def top (i : Nat) : Stmt := PySem.Challenge.pw_pagesofproofs_k97_refusals_made.main.body.getD i (.Pass ⟨0, 0, 0, 0⟩)
abbrev s0 : Stmt := top 21
def d0 : He.DefD := ⟨("_law_pool", none), "_law_pool", "_law_pool", defArgs s0, defBody s0, defScope s0, [], []⟩
abbrev s1 : Stmt := top 22
def d1 : He.DefD := ⟨("_law_take", none), "_law_take", "_law_take", defArgs s1, defBody s1, defScope s1, [], []⟩
abbrev s2 : Stmt := top 23
def d2 : He.DefD := ⟨("_law_made", none), "_law_made", "_law_made", defArgs s2, defBody s2, defScope s2, [], []⟩
abbrev s3 : Stmt := top 24
def d3 : He.DefD := ⟨("_law_kinds", none), "_law_kinds", "_law_kinds", defArgs s3, defBody s3, defScope s3, [], []⟩
abbrev s4 : Stmt := top 25
def d4 : He.DefD := ⟨("_law_bases", none), "_law_bases", "_law_bases", defArgs s4, defBody s4, defScope s4, [], []⟩
abbrev s5 : Stmt := top 26
def d5 : He.DefD := ⟨("law", none), "law", "law", defArgs s5, defBody s5, defScope s5, [], []⟩
abbrev c0 : Stmt := inClass (top 2) 0
def e0 : He.DefD := ⟨("NoFit", some "__init__"), "__init__", "NoFit.__init__", defArgs c0, defBody c0, defScope c0, [], []⟩
abbrev c1 : Stmt := inClass (top 3) 0
def e1 : He.DefD := ⟨("NoForm", some "__init__"), "__init__", "NoForm.__init__", defArgs c1, defBody c1, defScope c1, [], []⟩
abbrev c2 : Stmt := inClass (top 4) 0
def e2 : He.DefD := ⟨("NoBook", some "__init__"), "__init__", "NoBook.__init__", defArgs c2, defBody c2, defScope c2, [], []⟩
abbrev c3 : Stmt := inClass (top 5) 0
def e3 : He.DefD := ⟨("NoPlace", some "__init__"), "__init__", "NoPlace.__init__", defArgs c3, defBody c3, defScope c3, [], []⟩
abbrev c4 : Stmt := inClass (top 6) 0
def e4 : He.DefD := ⟨("NoAsk", some "__init__"), "__init__", "NoAsk.__init__", defArgs c4, defBody c4, defScope c4, [], []⟩
abbrev c5 : Stmt := inClass (top 7) 0
def e5 : He.DefD := ⟨("NoOutcome", some "__init__"), "__init__", "NoOutcome.__init__", defArgs c5, defBody c5, defScope c5, [], []⟩
abbrev c6 : Stmt := inClass (top 8) 0
def e6 : He.DefD := ⟨("NoText", some "__init__"), "__init__", "NoText.__init__", defArgs c6, defBody c6, defScope c6, [], []⟩
abbrev c7 : Stmt := inClass (top 9) 0
def e7 : He.DefD := ⟨("NoRow", some "__init__"), "__init__", "NoRow.__init__", defArgs c7, defBody c7, defScope c7, [], []⟩
abbrev c8 : Stmt := inClass (top 10) 0
def e8 : He.DefD := ⟨("NoPage", some "__init__"), "__init__", "NoPage.__init__", defArgs c8, defBody c8, defScope c8, [], []⟩
abbrev c9 : Stmt := inClass (top 11) 0
def e9 : He.DefD := ⟨("NoClaim", some "__init__"), "__init__", "NoClaim.__init__", defArgs c9, defBody c9, defScope c9, [], []⟩
abbrev c10 : Stmt := inClass (top 12) 0
def e10 : He.DefD := ⟨("NoLook", some "__init__"), "__init__", "NoLook.__init__", defArgs c10, defBody c10, defScope c10, [], []⟩
abbrev c11 : Stmt := inClass (top 13) 0
def e11 : He.DefD := ⟨("NoName", some "__init__"), "__init__", "NoName.__init__", defArgs c11, defBody c11, defScope c11, [], []⟩
abbrev c12 : Stmt := inClass (top 14) 0
def e12 : He.DefD := ⟨("NoPiece", some "__init__"), "__init__", "NoPiece.__init__", defArgs c12, defBody c12, defScope c12, [], []⟩
abbrev c13 : Stmt := inClass (top 15) 0
def e13 : He.DefD := ⟨("NoJob", some "__init__"), "__init__", "NoJob.__init__", defArgs c13, defBody c13, defScope c13, [], []⟩
abbrev c14 : Stmt := inClass (top 16) 0
def e14 : He.DefD := ⟨("TooMany", some "__init__"), "__init__", "TooMany.__init__", defArgs c14, defBody c14, defScope c14, [], []⟩
abbrev c15 : Stmt := inClass (top 17) 0
def e15 : He.DefD := ⟨("There", some "__init__"), "__init__", "There.__init__", defArgs c15, defBody c15, defScope c15, [], []⟩
abbrev c16 : Stmt := inClass (top 18) 0
def e16 : He.DefD := ⟨("Busy", some "__init__"), "__init__", "Busy.__init__", defArgs c16, defBody c16, defScope c16, [], []⟩
abbrev c17 : Stmt := inClass (top 19) 0
def e17 : He.DefD := ⟨("Idle", some "__init__"), "__init__", "Idle.__init__", defArgs c17, defBody c17, defScope c17, [], []⟩
def fn : List He.DefD := [d0, d1, d2, d3, d4, d5, e0, e1, e2, e3, e4, e5, e6, e7, e8, e9, e10, e11, e12, e13, e14, e15, e16, e17]
def fa : List He.Fa := [.glo "NoFit", .glo "NoForm", .glo "NoBook", .glo "NoPlace", .glo "NoAsk", .glo "NoOutcome", .glo "NoText", .glo "NoRow", .glo "NoPage", .glo "NoClaim", .glo "NoLook", .glo "NoName", .glo "NoPiece", .glo "NoJob", .glo "TooMany", .glo "There", .glo "Busy", .glo "Idle", .glo "PageError", .glo "_law_pool", .glo "_law_take", .glo "_law_made", .glo "_law_kinds", .glo "_law_bases", .glo "law", .free "sum", .free "len", .free "abs", .free "int", .free "range", .free "max", .free "min", .free "enumerate", .free "isinstance", .free "ValueError", .free "KeyError", .free "LookupError", .free "IndexError", .free "OverflowError", .free "RuntimeError"]
def nms : List Str := ["NoFit", "NoForm", "NoBook", "NoPlace", "NoAsk", "NoOutcome", "NoText", "NoRow", "NoPage", "NoClaim", "NoLook", "NoName", "NoPiece", "NoJob", "TooMany", "There", "Busy", "Idle"]
def fls : List Str := ["wants", "at", "thing", "thing", "number", "thing", "part", "row", "page", "claim", "name", "name", "number", "number", "many", "name", "hand", "hand"]
def cA (K : PySem.W.Frag) (i : Nat) : Addr := He.ga K (nms.getD i "")
def fA (i : Nat) : Str := fls.getD i ""
def clsB (K : PySem.W.Frag) (nm f : Str) (newId : String) (bmB : List Value) : Bool :=
  PySem.W.excInitIn K (He.ga K nm) bmB newId && PySem.W.excOver K (He.ga K nm) bmB && PySem.W.hasDictIn K (He.ga K nm) && He.eqO (PySem.W.findIn K (.ref (He.ga K nm)) "__setattr__") (some (some (.builtin "object.__setattr__"))) &&
  PySem.W.keepIn K (.ref (He.ga K nm)) && He.eqO (PySem.W.findIn K (.ref (He.ga K nm)) "__init__") (some (some (.ref (He.ma K (He.ga K nm) "__init__")))) && decide (PySem.W.typeIn K (.ref (He.ma K (He.ga K nm) "__init__")) = some (.type "function")) &&
  He.eqO (PySem.W.findIn K (.ref (He.ga K nm)) f) (some none) && He.eqO (PySem.W.findIn K (.ref (He.ga K nm)) "__getattribute__") (some (some (.builtin "BaseException.__getattribute__"))) && He.eqO (PySem.W.findIn K (.ref (He.ga K nm)) "__getattr__") (some none) &&
  decide (PySem.W.subIn K (.ref (He.ga K nm)) (.type "BaseException") = some true) && He.eqO (PySem.W.findIn K (.ref (He.ga K nm)) "__class__") (some (some (.builtin "object.__class__"))) && decide (PySem.W.mroIn K (He.ga K nm) (.type "object") = some true)
def valB (x : Option PySem.W.CFound) (i : String) : Bool := match x with
  | some (.val (.builtin j)) => decide (j = i)
  | _ => false
def someB (K : PySem.W.Frag) (t : Value) (b : Bool) (c : Value) : Bool := decide (PySem.W.kitOne K t c = some b)
def kindB (K : PySem.W.Frag) (i : Nat) : Bool :=
  ((List.range 18).all fun j => someB K (.ref (cA K i)) (decide (i = j)) (.ref (cA K j))) && someB K (.ref (cA K i)) (decide (i < 8)) (.ref (He.ga K "PageError")) && someB K (.ref (cA K i)) (decide (i < 8)) (.type "ValueError") &&
  someB K (.ref (cA K i)) (decide (8 ≤ i ∧ i < 11)) (.type "KeyError") && someB K (.ref (cA K i)) (decide (8 ≤ i ∧ i < 14)) (.type "LookupError") && someB K (.ref (cA K i)) (decide (i = 12 ∨ i = 13)) (.type "IndexError") &&
  someB K (.ref (cA K i)) (decide (i = 14)) (.type "OverflowError") && someB K (.ref (cA K i)) (decide (14 < i)) (.type "RuntimeError")
def genB (K : PySem.W.Frag) : Bool := He.eqO (PySem.W.specialIn K (.builtin "object.__class__") "__get__") (some (some (.builtin "getset_descriptor.__get__"))) && decide (PySem.W.takesIn K (.builtin "object.__class__") = some true) &&
  He.eqO (PySem.W.specialIn K (.ref (He.ga K "PageError")) "__getattribute__") (some (some (.builtin "type.__getattribute__"))) && PySem.W.readsIn K (He.ga K "PageError") (.type "type") && valB (PySem.W.findCls K (.ref (He.ga K "PageError")) (.type "type") "__init__") "ValueError.__init__" &&
  valB (PySem.W.findCls K (.type "KeyError") (.type "type") "__init__") "KeyError.__init__" && valB (PySem.W.findCls K (.type "LookupError") (.type "type") "__init__") "LookupError.__init__" && valB (PySem.W.findCls K (.type "IndexError") (.type "type") "__init__") "IndexError.__init__" && valB (PySem.W.findCls K (.type "OverflowError") (.type "type") "__init__") "OverflowError.__init__" && valB (PySem.W.findCls K (.type "RuntimeError") (.type "type") "__init__") "RuntimeError.__init__"
def ex (K : PySem.W.Frag) : Bool := (fa.all fun f => f.ok K) && genB K && (List.range 18).all (kindB K) && (
  clsB K "NoFit" "wants" "ValueError.__new__" (.type "ValueError" :: tE) &&
  clsB K "NoForm" "at" "ValueError.__new__" (.type "ValueError" :: tE) &&
  clsB K "NoBook" "thing" "ValueError.__new__" (.type "ValueError" :: tE) &&
  clsB K "NoPlace" "thing" "ValueError.__new__" (.type "ValueError" :: tE) &&
  clsB K "NoAsk" "number" "ValueError.__new__" (.type "ValueError" :: tE) &&
  clsB K "NoOutcome" "thing" "ValueError.__new__" (.type "ValueError" :: tE) &&
  clsB K "NoText" "part" "ValueError.__new__" (.type "ValueError" :: tE) &&
  clsB K "NoRow" "row" "ValueError.__new__" (.type "ValueError" :: tE) &&
  clsB K "NoPage" "page" "LookupError.__new__" (.type "KeyError" :: .type "LookupError" :: tE) &&
  clsB K "NoClaim" "claim" "LookupError.__new__" (.type "KeyError" :: .type "LookupError" :: tE) &&
  clsB K "NoLook" "name" "LookupError.__new__" (.type "KeyError" :: .type "LookupError" :: tE) &&
  clsB K "NoName" "name" "LookupError.__new__" (.type "LookupError" :: tE) &&
  clsB K "NoPiece" "number" "IndexError.__new__" (.type "IndexError" :: .type "LookupError" :: tE) &&
  clsB K "NoJob" "number" "IndexError.__new__" (.type "IndexError" :: .type "LookupError" :: tE) &&
  clsB K "TooMany" "many" "OverflowError.__new__" (.type "OverflowError" :: .type "ArithmeticError" :: tE) &&
  clsB K "There" "name" "RuntimeError.__new__" (.type "RuntimeError" :: tE) &&
  clsB K "Busy" "hand" "RuntimeError.__new__" (.type "RuntimeError" :: tE) &&
  clsB K "Idle" "hand" "RuntimeError.__new__" (.type "RuntimeError" :: tE))
abbrev R : PySem.W.OpenRow := PySem.W.OpenLaw.row PySem.Challenge.rw_pagesofproofs_k97_refusals_made
abbrev hk : PySem.W.Hook := HQ.hook 6 fn [("_law_made", none)] ex
def ob (s : PySem.W.SharedT) : HQ.Al := HQ.obsQ 6 fn [("_law_made", none)] ex (HandSHeadRun.getT s)
theorem ob_eq (s : PySem.W.SharedT) : ob s = hk.obs s.abs := HQ.obsQ_eq (HandSHeadRun.getT_eq s)
def loose : List Str := ["__name__", "PageError", "NoFit", "NoForm", "NoBook", "NoPlace", "NoAsk", "NoOutcome", "NoText", "NoRow", "NoPage", "NoClaim", "NoLook", "NoName", "NoPiece", "NoJob", "TooMany", "There", "Busy", "Idle", "_law_pool", "_law_take", "_law_made", "_law_kinds", "_law_bases"]
theorem run (w : World) : HandSHeadRun.RunEq R (PySem.W.view R.prog [26]) hk ob 6000 loose w := by
  intro os
  kernel_rfl
end K97
set_option Elab.async false
set_option linter.all false
set_option maxRecDepth 100000
set_option maxHeartbeats 4000000
namespace K97
open PySem PySem.Spec PyProof.Rows L2 LamX XQ
/-- what is known of the written part and of the module's names -/
structure Tx (K : PySem.W.Frag) (mg : Str → Option Value) : Prop where
  at_ : ∃ h : Heap, K.In h ∧ h.Ns mainGlobals mg
  e : ex K = true
section
variable {K : PySem.W.Frag} {mg : Str → Option Value}
theorem Tx.fs (T : Tx K mg) : (fa.all fun f => f.ok K) = true ∧ genB K = true ∧ (List.range 18).all (kindB K) = true := by
  obtain ⟨h1, _⟩ := He.ba T.e
  obtain ⟨h2, h3⟩ := He.ba h1
  obtain ⟨h4, h5⟩ := He.ba h2
  exact ⟨h4, h5, h3⟩
def gloIn (x : Str) : Bool := fa.any fun f => match f with
  | .glo y => decide (y = x)
  | _ => false
def freeIn (x : Str) : Bool := fa.any fun f => match f with
  | .free y => decide (y = x)
  | _ => false
theorem Tx.glo (T : Tx K mg) {x : Str} (h : gloIn x = true := by decide +kernel) : mg x = some (.ref (He.ga K x)) := by
  obtain ⟨hp, X, G⟩ := T.at_
  obtain ⟨f, hf, e⟩ := List.any_eq_true.mp h
  have c := List.all_eq_true.mp T.fs.1 f hf
  cases f with
  | glo y =>
    have ey : y = x := of_decide_eq_true e
    subst ey
    exact He.glo_ok X G c
  | _ => cases e
theorem Tx.free (T : Tx K mg) {x : Str} (h : freeIn x = true := by decide +kernel) : mg x = none := by
  obtain ⟨hp, X, G⟩ := T.at_
  obtain ⟨f, hf, e⟩ := List.any_eq_true.mp h
  have c := List.all_eq_true.mp T.fs.1 f hf
  cases f with
  | free y =>
    have ey : y = x := of_decide_eq_true e
    subst ey
    exact He.free_ok X G c
  | _ => cases e
/-! ### the parts of genB -/
theorem valB_ok {x : Option PySem.W.CFound} {i : String} (h : valB x i = true) : x = some (.val (.builtin i)) := by
  cases x with
  | none => cases h
  | some r =>
    cases r with
    | val v =>
      cases v with
      | builtin j =>
        have e : j = i := of_decide_eq_true h
        rw [e]
      | _ => cases h
    | _ => cases h
structure Gen (K : PySem.W.Frag) : Prop where
  cg : PySem.W.specialIn K (.builtin "object.__class__") "__get__" = some (some (.builtin "getset_descriptor.__get__"))
  ct : PySem.W.takesIn K (.builtin "object.__class__") = some true
  pg : PySem.W.specialIn K (.ref (He.ga K "PageError")) "__getattribute__" = some (some (.builtin "type.__getattribute__"))
  pr : PySem.W.readsIn K (He.ga K "PageError") (.type "type") = true
  pf : PySem.W.findCls K (.ref (He.ga K "PageError")) (.type "type") "__init__" = some (.val (.builtin "ValueError.__init__"))
  fK : PySem.W.findCls K (.type "KeyError") (.type "type") "__init__" = some (.val (.builtin "KeyError.__init__"))
  fL : PySem.W.findCls K (.type "LookupError") (.type "type") "__init__" = some (.val (.builtin "LookupError.__init__"))
  fI : PySem.W.findCls K (.type "IndexError") (.type "type") "__init__" = some (.val (.builtin "IndexError.__init__"))
  fO : PySem.W.findCls K (.type "OverflowError") (.type "type") "__init__" = some (.val (.builtin "OverflowError.__init__"))
  fR : PySem.W.findCls K (.type "RuntimeError") (.type "type") "__init__" = some (.val (.builtin "RuntimeError.__init__"))
theorem Tx.gen (T : Tx K mg) : Gen K := by
  have h := T.fs.2.1
  unfold genB at h
  obtain ⟨h, a10⟩ := He.ba h
  obtain ⟨h, a9⟩ := He.ba h
  obtain ⟨h, a8⟩ := He.ba h
  obtain ⟨h, a7⟩ := He.ba h
  obtain ⟨h, a6⟩ := He.ba h
  obtain ⟨h, a5⟩ := He.ba h
  obtain ⟨h, a4⟩ := He.ba h
  obtain ⟨h, a3⟩ := He.ba h
  obtain ⟨a1, a2⟩ := He.ba h
  exact ⟨He.eqO_ok a1, of_decide_eq_true a2, He.eqO_ok a3, a4, valB_ok a5, valB_ok a6, valB_ok a7, valB_ok a8, valB_ok a9, valB_ok a10⟩
theorem Tx.iniV (T : Tx K mg) : IniBy K mg "PageError" "ValueError.__init__" := ⟨by decide +kernel, .inr ⟨_, _, T.glo, T.gen.pg, T.gen.pr, T.gen.pf⟩⟩
theorem Tx.iniK (T : Tx K mg) : IniBy K mg "KeyError" "KeyError.__init__" := ⟨by decide +kernel, .inl ⟨"KeyError", T.free, by decide +kernel, by kernel_rfl, by decide +kernel, T.gen.fK⟩⟩
theorem Tx.iniL (T : Tx K mg) : IniBy K mg "LookupError" "LookupError.__init__" := ⟨by decide +kernel, .inl ⟨"LookupError", T.free, by decide +kernel, by kernel_rfl, by decide +kernel, T.gen.fL⟩⟩
theorem Tx.iniI (T : Tx K mg) : IniBy K mg "IndexError" "IndexError.__init__" := ⟨by decide +kernel, .inl ⟨"IndexError", T.free, by decide +kernel, by kernel_rfl, by decide +kernel, T.gen.fI⟩⟩
theorem Tx.iniO (T : Tx K mg) : IniBy K mg "OverflowError" "OverflowError.__init__" := ⟨by decide +kernel, .inl ⟨"OverflowError", T.free, by decide +kernel, by kernel_rfl, by decide +kernel, T.gen.fO⟩⟩
theorem Tx.iniR (T : Tx K mg) : IniBy K mg "RuntimeError" "RuntimeError.__init__" := ⟨by decide +kernel, .inl ⟨"RuntimeError", T.free, by decide +kernel, by kernel_rfl, by decide +kernel, T.gen.fR⟩⟩
/-! ### a class -/
structure ClsF (K : PySem.W.Frag) (nm f : Str) (newId : String) (bmB : List Value) : Prop where
  ox : OxC K (He.ga K nm) newId bmB
  fi : PySem.W.findIn K (.ref (He.ga K nm)) "__init__" = some (some (.ref (He.ma K (He.ga K nm) "__init__")))
  ty : PySem.W.typeIn K (.ref (He.ma K (He.ga K nm) "__init__")) = some (.type "function")
  no : NoAttr K (He.ga K nm) f
  rd : XRd K (He.ga K nm)
theorem clsF_of {nm f : Str} {newId : String} {bmB : List Value} (G : Gen K) (h : clsB K nm f newId bmB = true) : ClsF K nm f newId bmB := by
  unfold clsB at h
  obtain ⟨h, a13⟩ := He.ba h
  obtain ⟨h, a12⟩ := He.ba h
  obtain ⟨h, a11⟩ := He.ba h
  obtain ⟨h, a10⟩ := He.ba h
  obtain ⟨h, a9⟩ := He.ba h
  obtain ⟨h, a8⟩ := He.ba h
  obtain ⟨h, a7⟩ := He.ba h
  obtain ⟨h, a6⟩ := He.ba h
  obtain ⟨h, a5⟩ := He.ba h
  obtain ⟨h, a4⟩ := He.ba h
  obtain ⟨h, a3⟩ := He.ba h
  obtain ⟨a1, a2⟩ := He.ba h
  exact ⟨⟨a1, a2, a3, He.eqO_ok a4, a5⟩, He.eqO_ok a6, of_decide_eq_true a7, He.eqO_ok a8, ⟨He.eqO_ok a9, He.eqO_ok a10, of_decide_eq_true a11, a3, He.eqO_ok a12, G.cg, G.ct, of_decide_eq_true a13⟩⟩
theorem mkx {P : Program} {w : World} {base : Heap} {st : Stmt} {fd : FuncData} {nm b f qual : Str} {B initId newId : String} {bmB : List Value} (N : Nms b f) (Z : Bs B initId newId bmB) (W : IniBy K mg b initId) (c : ClsF K nm f newId bmB) (g : mg nm = some (.ref (He.ga K nm)))
    (F : FunD K "__init__" qual (defArgs st) (defBody st) (defScope st) [] [] (He.ma K (He.ga K nm) "__init__") fd)
    (hst : ∃ p1 p2 q0 q1 q2 q3 q4 q5 q6 q7 q8 q9, defArgs st = iArgs f p1 p2 ∧ defBody st = iBody b f q0 q1 q2 q3 q4 q5 q6 q7 q8 q9 ∧ defScope st = iScope b f ∧ (q1.endLine == q4.line) = true)
    (b1 : ∀ (kV doc pm : Value) (an : Option Addr) (cdv ct : Value) (us : List Value), us.length = 2 → bindArgs (PySem.W.fnOf "__init__" qual (defArgs st) (defBody st) (defScope st) .none kV doc pm an cdv ct) ⟨us, []⟩ = pure ((["self", f] : List Str).zip us))
    (b2 : ∀ (kV doc pm : Value) (an : Option Addr) (cdv ct : Value) (u v : Value), bindArgs (PySem.W.fnOf "__init__" qual (defArgs st) (defBody st) (defScope st) .none kV doc pm an cdv ct) ⟨[u], [(f, v)]⟩ = pure [(("self" : Str), u), (f, v)]) :
    MkX P w K mg base nm f (He.ga K nm) newId bmB := by
  obtain ⟨oc, od, dV, kV, doc, pm, an, cdv, ct, osl, e, lk, hcd, hD, _⟩ := F.ex
  have eD : dV = .none := by
    rcases hD with ⟨_, z⟩ | ⟨z, _⟩
    · exact z
    · exact absurd rfl z
  subst eD
  subst e
  obtain ⟨p1, p2, q0, q1, q2, q3, q4, q5, q6, q7, q8, q9, h1, h2, h3, hq⟩ := hst
  have I : InitIs K b f qual (He.ma K (He.ga K nm) "__init__") (PySem.W.fnOf "__init__" qual (defArgs st) (defBody st) (defScope st) .none kV doc pm an cdv ct) :=
    ⟨⟨oc, od, kV, doc, pm, an, cdv, ct, osl, p1, p2, q0, q1, q2, q3, q4, q5, q6, q7, q8, q9, by rw [h1, h2, h3], lk, hcd, hq⟩⟩
  exact ⟨c.ox, Z.nw, Z.noA, Z.noN, g, _, _, c.fi, c.ty, ini_ok N I W Z c.ox c.no, b1 kV doc pm an cdv ct, b2 kV doc pm an cdv ct⟩
/-! ### the kinds -/
theorem someB_ok {t c : Value} {b : Bool} (h : someB K t b c = true) : PySem.W.kitOne K t c = some b := of_decide_eq_true h
structure Kinds (K : PySem.W.Frag) (i : Nat) : Prop where
  own : ∀ j, j < 18 → PySem.W.kitOne K (.ref (cA K i)) (.ref (cA K j)) = some (decide (i = j))
  pe : PySem.W.kitOne K (.ref (cA K i)) (.ref (He.ga K "PageError")) = some (decide (i < 8))
  ve : PySem.W.kitOne K (.ref (cA K i)) (.type "ValueError") = some (decide (i < 8))
  ke : PySem.W.kitOne K (.ref (cA K i)) (.type "KeyError") = some (decide (8 ≤ i ∧ i < 11))
  le : PySem.W.kitOne K (.ref (cA K i)) (.type "LookupError") = some (decide (8 ≤ i ∧ i < 14))
  ie : PySem.W.kitOne K (.ref (cA K i)) (.type "IndexError") = some (decide (i = 12 ∨ i = 13))
  oe : PySem.W.kitOne K (.ref (cA K i)) (.type "OverflowError") = some (decide (i = 14))
  re : PySem.W.kitOne K (.ref (cA K i)) (.type "RuntimeError") = some (decide (14 < i))
theorem Tx.kinds (T : Tx K mg) {i : Nat} (hi : i < 18) : Kinds K i := by
  have h := List.all_eq_true.mp T.fs.2.2 i (List.mem_range.mpr hi)
  unfold kindB at h
  obtain ⟨h, a8⟩ := He.ba h
  obtain ⟨h, a7⟩ := He.ba h
  obtain ⟨h, a6⟩ := He.ba h
  obtain ⟨h, a5⟩ := He.ba h
  obtain ⟨h, a4⟩ := He.ba h
  obtain ⟨h, a3⟩ := He.ba h
  obtain ⟨a1, a2⟩ := He.ba h
  exact ⟨fun j hj => someB_ok (List.all_eq_true.mp a1 j (List.mem_range.mpr hj)), someB_ok a2, someB_ok a3, someB_ok a4, someB_ok a5, someB_ok a6, someB_ok a7, someB_ok a8⟩
end
/-! ### data, rows -/
mutual
theorem dp_ext {K : PySem.W.Frag} {H H' : Hp} (e : ExtN H H') : ∀ {v : V} {d : PyData}, Dp K H v d → Dp K H' v d
  | _, _, .non => .non
  | _, _, .bl b => .bl b
  | _, _, .int i => .int i
  | _, _, .str x => .str x
  | _, _, .lst hq ha => .lst (by
      rcases hq with (h | ⟨o, h⟩) | h
      · exact .inl (.inl (e _ _ h (fun _ z => nomatch z)))
      · exact .inl (.inr ⟨o, e _ _ h (fun _ z => nomatch z)⟩)
      · exact .inr h) (dpa_ext e ha)
  | _, _, .tup hq ha => .tup (by
      rcases hq with (h | ⟨o, h⟩) | h
      · exact .inl (.inl (e _ _ h (fun _ z => nomatch z)))
      · exact .inl (.inr ⟨o, e _ _ h (fun _ z => nomatch z)⟩)
      · exact .inr h) (dpa_ext e ha)
theorem dpa_ext {K : PySem.W.Frag} {H H' : Hp} (e : ExtN H H') : ∀ {vs : List V} {ds : List PyData}, DpAll K H vs ds → DpAll K H' vs ds
  | _, _, .nil => .nil
  | _, _, .cons h t => .cons (dp_ext e h) (dpa_ext e t)
end
theorem xat_ext {H H' : Hp} (e : ExtN H H') {a C : Addr} {f : Str} {y : V} (h : XAt H a C f y) : XAt H' a C f y := by
  obtain ⟨d, h1, h2⟩ := h
  exact ⟨d, e _ _ h1 (fun ps z => exo_tbl z), e _ _ h2 (fun ps z => by unfold exd at z; cases z)⟩
/-- a row: two errors of a class with the same in their field, the lambda that reads it, the same once more -/
def Row (K : PySem.W.Frag) (H : Hp) (t C : Addr) (f : Str) : Prop := ∃ (e1 e2 lf : Addr) (y1 y2 y3 : V) (d : PyData), H t = some (.tup [.ref e1, .ref e2, .ref lf, y3]) ∧ XAt H e1 C f y1 ∧ XAt H e2 C f y2 ∧ FieldLam H lf f ∧ Dp K H y1 d ∧ Dp K H y2 d ∧ Dp K H y3 d ∧ SeqAt.shaped d = true
theorem Row.ext {K : PySem.W.Frag} {H H' : Hp} (e : ExtN H H') {t C : Addr} {f : Str} (h : Row K H t C f) : Row K H' t C f := by
  obtain ⟨e1, e2, lf, y1, y2, y3, d, h1, h2, h3, h4, h5, h6, h7, h8⟩ := h
  exact ⟨e1, e2, lf, y1, y2, y3, d, e _ _ h1 (fun _ z => nomatch z), xat_ext e h2, xat_ext e h3, h4.ext e, dp_ext e h5, dp_ext e h6, dp_ext e h7, h8⟩
def tRow (T : List (Addr × Str)) (qual : Str) (params : Arguments) (body : Expr) (scope : Scope) (C : Addr) (f : Str) (t1 t2 t3 : TE) : TE :=
  tTup (tCons (tXnew C f (tCons t1 tNil)) (tCons (tXnew C f (tCons t2 tNil)) (tCons (tLamb T qual params body scope) (tCons t3 tNil))))
theorem extn_new {H : Hp} {a : Addr} {o : HO} (h : H a = none) : ExtN H (upd H a o) := ExtN.of fun b u e => by
  rw [upd_ne (ne_of_none e h)]
  exact e
theorem xput_ext {H : Hp} {a d C : Addr} {f : Str} {y : V} (n1 : H a = none) (n2 : H d = none) : ExtN H (xput H a d C f y) := ExtN.of (xput_old n1 n2)
end K97
set_option Elab.async false
set_option linter.all false
set_option maxRecDepth 100000
set_option maxHeartbeats 4000000
namespace K97
open PySem PySem.Spec PyProof.Rows L2 LamX XQ
abbrev FnP (K : PySem.W.Frag) (x : Str) (st : Stmt) (f : Addr) (fd : FuncData) : Prop := FunD K x x (defArgs st) (defBody st) (defScope st) [] [] f fd
/-! ### the draws -/
def spPool (K : PySem.W.Frag) : Sp := fun vs H Q _ => ∃ (a : Addr) (ns : List Int) (k : Int), vs = [.ref a, .int k] ∧ SqL K H a (ns.map V.int) ∧ 0 ≤ k ∧ k < 64 ∧
  ∀ p x y H', H p = none → (∀ b o, H b = some o → H' b = some o) → H' p = some (.lst [.int x, .int y]) → 0 ≤ x → 0 ≤ y → y < 2147483629 → Q (.ref p) H'
def spTake : Sp := fun vs H Q _ => ∃ (p : Addr) (n x y : Int), vs = [.ref p, .int n] ∧ H p = some (.lst [.int x, .int y]) ∧ 0 ≤ x ∧ 0 ≤ y ∧ y < 2147483647 ∧ 0 < n ∧ n < 1073741824 ∧
  ∀ r x' y', 0 ≤ r → r < n → 0 ≤ x' → 0 ≤ y' → y' < 2147483647 → Q (.int r) (upd H p (.lst [.int x', .int y']))
theorem scPool : FnScope ["_law_script", "_law_k", "_law_cell", "_law_size", "_law_mixed"] ["_law_script", "_law_k"] (defScope s0) := ⟨rfl, rfl, rfl, by decide +kernel, rfl, by decide +kernel, by decide +kernel⟩
theorem scTake : FnScope ["_law_pool_here", "_law_top", "_law_found"] ["_law_pool_here", "_law_top"] (defScope s1) := ⟨rfl, rfl, rfl, by decide +kernel, rfl, by decide +kernel, by decide +kernel⟩
theorem cut_ints (ns : List Int) (lo hi : Option Int) : ∃ ms : List Int, cutV (ns.map V.int) lo hi = ms.map V.int := by
  unfold cutV
  exact ⟨_, by rw [← List.map_drop, ← List.map_take]⟩
theorem with_rest {A : Prop} {R : Int → Prop} (k : (∀ c, R c) → A) (r : ∀ c, R c) : A := k r
section
variable {P : Program} {w : World} {K : PySem.W.Frag} {mg : Str → Option Value} {base : Heap} {f : Addr} {fd : FuncData}
theorem ok_pool (F : FnP K "_law_pool" s0 f fd) (T : Tx K mg) : FnOk P w K mg base CX0 1 f fd ["_law_script", "_law_k"] (spPool K) := by
  refine F.ok scPool (fun vs H Q E h => ?_) (fun cdv A outer s H vs Q E hr h => ?_)
  · obtain ⟨a, ns, k, rfl, _⟩ := h
    rfl
  · obtain ⟨a, ns, k, rfl, hS, hk0, hk1, q⟩ := h
    refine ⟨_, PSs.nox (pss_cons (ps_set (i := 2) scPool.nd rfl (.inl rfl) (pe_op op_add (pe_op op_mul pe_int (pe_callB (cr_sum rfl) (by rfl) T.free (by decide +kernel) (pa_cons (pe_slice sl_list (pv 0) po_none (po_some pe_int)) pa_nil))) (pv 1)))
      (pss_cons (ps_if (pt_cmpR op_lt (pv 1) (pe_callB call_len (by rfl) T.free boot_len (pa_cons (pv 0) pa_nil)) (nomark _)) (pss_one (ps_set (i := 2) scPool.nd rfl (.inl rfl) (pe_ix ix_list (pv 0) (pv 1) (fun _ _ => rfl)))) pss_nil)
      (pss_cons (ps_set (i := 3) scPool.nd rfl (.inl rfl) (pe_callB call_abs (by rfl) T.free (by decide +kernel) (pa_cons (pv 2) pa_nil)))
      (pss_cons (ps_set (i := 4) scPool.nd rfl (.inl rfl) (pe_op op_mod (pe_op op_mul (pe_op op_add (pe_op op_add (pe_op op_add (pe_op op_mod (pv 3) pe_int) (pe_op op_mul (pe_op op_mul pe_int (pv 1)) (pv 1))) (pe_op op_mul pe_int (pv 1))) pe_int) pe_int) pe_int))
      (pss_one (ps_ret (pe_lst (pa_cons (pe_op op_mul (pv 3) (pe_callTy call_int1 (by rfl) T.free (by decide +kernel) (pa_cons (pe_cmpR op_ge (pv 3) (pe_op op_pow pe_int pe_int) (nomark _)) pa_nil))) (pa_cons (pe_op op_mod (pe_op op_mul (pv 4) (pv 4)) pe_int) pa_nil))))))))), ?_⟩
    -- the cell
    refine ⟨_, rfl, 63, rfl, a, _, rfl, hS, fun p hp => ?_⟩
    obtain ⟨ms, em⟩ := cut_ints ns none (some 63)
    rw [em]
    refine ⟨p, ms, rfl, SqL.of upd_same, ?_⟩
    refine ⟨_, _, rfl, rfl, .inl ⟨by decide, by decide⟩, _, rfl, _, _, rfl, rfl, ?_⟩
    have old : ∀ b o, H b = some o → upd H p (.lst (ms.map V.int)) b = some o := fun b o e => by
      rw [upd_ne (ne_of_none e hp)]
      exact e
    have hS' : SqL K (upd H p (.lst (ms.map V.int))) a (ns.map V.int) := Same.seq old hS
    refine ⟨_, rfl, _, rfl, _, _, rfl, .inl ⟨_, hS', rfl⟩, ?_⟩
    refine ⟨_, _, rfl, rfl, _, rfl, ?_⟩
    refine' with_rest (fun rest => ite2 (fun hlt => ?_) (fun _ => ?_)) ?_
    rotate_left
    · have hlt : k < ((ns.map V.int).length : Int) := of_decide_eq_true hlt
      rw [List.length_map] at hlt
      obtain ⟨c, hc⟩ : ∃ c, ns[k.toNat]? = some c := ⟨ns[k.toNat]'(by omega), List.getElem?_eq_getElem _⟩
      refine ⟨_, rfl, _, rfl, a, _, k, .int c, rfl, rfl, hS', at_of (j := k.toNat) (by omega) (by rw [List.getElem?_map, hc]; rfl), rest c⟩
    · exact rest _
    · intro c
      refine ⟨_, rfl, c, rfl, ?_⟩
      generalize ez : (if c < 0 then -c else c) = z
      have hz : 0 ≤ z := by rw [← ez]; split <;> omega
      refine ⟨_, rfl, _, _, rfl, rfl, (by show (0 : Int) < 2147483629; decide), _, rfl, _, _, rfl, rfl, .inl ⟨by decide, by decide⟩, _, rfl, _, _, rfl, rfl, .inr ⟨by omega, by omega⟩, ?_⟩
      refine ⟨_, _, rfl, rfl, _, rfl, _, _, rfl, rfl, .inl ⟨by decide, by decide⟩, _, _, rfl, rfl, _, _, rfl, rfl, _, _, rfl, rfl, .inr ⟨by decide, by decide⟩, _, _, rfl, rfl, (by show (0 : Int) < 2147483647; decide), ?_⟩
      generalize em2 : ((z % 2147483629 + 7919 * k * k + 31 * k + 17) * 48271 % 2147483647) = m
      have hm : 0 ≤ m ∧ m < 2147483647 := by
        rw [← em2]
        exact ⟨Int.emod_nonneg _ (by decide), Int.emod_lt_of_pos _ (by decide)⟩
      refine ⟨_, rfl, _, rfl, _, _, rfl, rfl, ⟨by decide, by decide, by decide⟩, _, _, rfl, rfl, .inr ⟨_, rfl, ?_⟩⟩
      have hb : ∀ b : Bool, CMul z (if b = true then 1 else 0) := fun b => by
        cases b
        · exact .inr ⟨by decide, by decide⟩
        · exact .inr ⟨by decide, by decide⟩
      refine ⟨_, _, rfl, rfl, hb _, _, rfl, _, rfl, _, _, rfl, rfl, .inl ⟨by omega, by omega⟩, _, _, rfl, rfl, (by show (0 : Int) < 2147483629; decide), (by show 2 ≤ sizeLine; decide), fun p2 hp2 => ?_⟩
      refine q p2 _ _ _ ?_ (fun b o e => ?_) upd_same ?_ (Int.emod_nonneg _ (by decide)) (Int.emod_lt_of_pos _ (by decide))
      · cases e : H p2 with
        | none => rfl
        | some o => rw [old _ _ e] at hp2; cases hp2
      · rw [upd_ne (ne_of_none (old b o e) hp2)]
        exact old b o e
      · refine Int.mul_nonneg hz ?_
        split <;> decide
theorem ok_take (F : FnP K "_law_take" s1 f fd) : FnOk P w K mg base CX0 1 f fd ["_law_pool_here", "_law_top"] spTake := by
  refine F.ok scTake (fun vs H Q E h => ?_) (fun cdv A outer s H vs Q E hr h => ?_)
  · obtain ⟨p, n, x, y, rfl, _⟩ := h
    rfl
  · obtain ⟨p, n, x, y, rfl, hp, hx, hy, hy2, hn, hn2, q⟩ := h
    refine ⟨_, PSs.nox (pss_cons (ps_if (pt_cmpR op_gt (pe_ix ix_list (pv 0) pe_int (fun _ _ => rfl)) pe_int (nomark _))
        (pss_cons (ps_set (i := 2) scTake.nd rfl (.inl rfl) (pe_op op_mod (pe_ix ix_list (pv 0) pe_int (fun _ _ => rfl)) (pv 1)))
        (pss_cons (ps_asg (pe_op op_fdiv (pe_ix ix_list (pv 0) pe_int (fun _ _ => rfl)) (pv 1)) (pg_sub (pv 0) pe_int set_list)) (pss_one (ps_ret (pv 2))))) pss_nil)
      (pss_cons (ps_asg (pe_op op_mod (pe_op op_add (pe_op op_mul (pe_ix ix_list (pv 0) pe_int (fun _ _ => rfl)) pe_int) pe_int) pe_int) (pg_sub (pv 0) pe_int set_list))
      (pss_one (ps_ret (pe_op op_mod (pe_op op_fdiv (pe_op op_mod (pe_op op_mul (pe_ix ix_list (pv 0) pe_int (fun _ _ => rfl)) (pe_ix ix_list (pv 0) pe_int (fun _ _ => rfl))) pe_int) pe_int) (pv 1)))))), ?_⟩
    refine ⟨_, rfl, p, _, 0, .int x, rfl, rfl, SqL.of hp, rfl, _, _, rfl, rfl, _, rfl, ite2 (fun _ => ?_) (fun _ => ?_)⟩
    · refine ⟨_, rfl, p, _, 0, .int x, rfl, rfl, SqL.of hp, rfl, _, rfl, _, _, rfl, rfl, hn, ?_⟩
      refine ⟨_, rfl, p, _, 0, .int x, rfl, rfl, SqL.of hp, rfl, _, rfl, _, _, rfl, rfl, ⟨hn, hn2⟩, _, rfl, p, _, 0, 0, rfl, rfl, hp, rfl, _, rfl, ?_⟩
      exact q _ _ y (Int.emod_nonneg _ (by omega)) (Int.emod_lt_of_pos _ hn) (Int.ediv_nonneg hx (by omega)) hy hy2
    · have hz : 0 ≤ (y * 48271 + 11) % 2147483647 ∧ (y * 48271 + 11) % 2147483647 < 2147483647 := ⟨Int.emod_nonneg _ (by decide), Int.emod_lt_of_pos _ (by decide)⟩
      refine ⟨_, rfl, p, _, 1, .int y, rfl, rfl, SqL.of hp, rfl, _, _, rfl, rfl, .inr ⟨by decide, by decide⟩, _, _, rfl, rfl, _, _, rfl, rfl, (by show (0 : Int) < 2147483647; decide), _, rfl, p, _, 1, 1, rfl, rfl, hp, rfl, ?_⟩
      refine ⟨_, rfl, p, _, 1, _, rfl, rfl, SqL.of upd_same, rfl, _, rfl, p, _, 1, _, rfl, rfl, SqL.of upd_same, rfl, _, _, rfl, rfl, .inl ⟨Int.lt_of_lt_of_le (by decide) hz.1, Int.lt_trans hz.2 (by decide)⟩, _, _, rfl, rfl, (by show (0 : Int) < 2147483629; decide), _, _, rfl, rfl, ⟨by decide, by decide⟩, _, rfl, _, _, rfl, rfl, hn, ?_⟩
      exact q _ x _ (Int.emod_nonneg _ (by omega)) (Int.emod_lt_of_pos _ hn) hx hz.1 hz.2
end
end K97
set_option Elab.async false
set_option linter.all false
set_option maxRecDepth 100000
set_option maxHeartbeats 4000000
namespace K97
open PySem PySem.Spec PyProof.Rows L2 LamX XQ
/-! ### one list left out of sight -/
def hdo (l : Option Addr) (H : Hp) : Hp := fun b => if l = some b then none else H b
def OffO (l : Option Addr) (H : Hp) : Prop := ∀ a, l = some a → ∃ xs, H a = some (.lst xs)
theorem hdo_at {l : Option Addr} {H : Hp} {b : Addr} (n : l ≠ some b) : hdo l H b = H b := if_neg n
theorem hdo_le {l : Option Addr} {H : Hp} {b : Addr} {o : HO} (e : hdo l H b = some o) : H b = some o ∧ l ≠ some b := by
  unfold hdo at e
  split at e
  · cases e
  · exact ⟨e, by assumption⟩
theorem hdo_ext {l : Option Addr} {H H' : Hp} (e : ExtN H H') : ExtN (hdo l H) (hdo l H') := fun b o h n => by
  obtain ⟨h1, h2⟩ := hdo_le h
  rw [hdo_at h2]
  exact e _ _ h1 n
theorem hdo_sub {l : Option Addr} {H : Hp} : ExtN (hdo l H) H := fun b o h _ => (hdo_le h).1
theorem hdo_none {H : Hp} : hdo none H = H := funext fun b => if_neg (fun z => nomatch z)
theorem OffO.ext {l : Option Addr} {H H' : Hp} (o : OffO l H) (e : ExtN H H') : OffO l H' := fun a h => by
  obtain ⟨xs, h1⟩ := o a h
  exact ⟨xs, e _ _ h1 (fun _ z => nomatch z)⟩
theorem OffO.new {l : Option Addr} {H : Hp} {b : Addr} (o : OffO l H) (n : H b = none) : l ≠ some b := fun z => by
  obtain ⟨xs, h⟩ := o b z
  rw [n] at h
  cases h
theorem OffO.obj {l : Option Addr} {H : Hp} {b : Addr} {u : HO} (o : OffO l H) (n : H b = some u) (k : ∀ xs, u ≠ .lst xs) : l ≠ some b := fun z => by
  obtain ⟨xs, h⟩ := o b z
  rw [n] at h
  cases h
  exact k _ rfl
theorem xat_hdo {l : Option Addr} {H : Hp} {a C : Addr} {f : Str} {y : V} (o : OffO l H) (h : XAt H a C f y) : XAt (hdo l H) a C f y := by
  obtain ⟨d, h1, h2⟩ := h
  refine ⟨d, ?_, ?_⟩
  · rw [hdo_at (o.obj h1 (fun xs z => by unfold exo at z; cases z))]
    exact h1
  · rw [hdo_at (o.obj h2 (fun xs z => by unfold exd at z; cases z))]
    exact h2
theorem lam_hdo {l : Option Addr} {H : Hp} {f : Addr} {g : Str} (o : OffO l H) (h : FieldLam H f g) : FieldLam (hdo l H) f g := by
  obtain ⟨qual, x, params, scope, p1, p2, ⟨c, h1, h2⟩, h3⟩ := h
  refine ⟨qual, x, params, scope, p1, p2, ⟨c, ?_, ?_⟩, h3⟩
  · rw [hdo_at (o.obj h1 (fun xs z => by unfold LamO at z; cases z))]
    exact h1
  · rw [hdo_at (o.obj h2 (fun xs z => by unfold CodeO at z; cases z))]
    exact h2
/-! ### a row is made -/
/-- te makes d, whatever the heap -/
def Mks (K : PySem.W.Frag) (te : TE) (σ : L2.St) (d : PyData) : Prop := ∀ (H : Hp) (Q : VK), (∀ y H1, ExtN H H1 → (∀ l, OffO l H → Dp K (hdo l H1) y d) → (∀ T, Tabs T H → Tabs T H1) → Q y H1) → te σ H Q
theorem row_eval {K : PySem.W.Frag} {T : List (Addr × Str)} {qual x : Str} {params : Arguments} {scope : Scope} {C : Addr} {f : Str} {t1 t2 t3 : TE} {σ : L2.St} {H : Hp} {Q : VK} {d : PyData} {p1 p2 : Pos} (hT : Tabs T H) (m1 : Mks K t1 σ d) (m2 : Mks K t2 σ d) (m3 : Mks K t3 σ d) (hd : SeqAt.shaped d = true)
    (hl : ∀ H lf, LamAt H lf qual params (.Attribute (.Name x p1) f p2) scope → FieldLam H lf f)
    (k : ∀ t H1, ExtN H H1 → Tabs T H1 → (∀ l, OffO l H → Row K (hdo l H1) t C f) → Q (.ref t) H1) : tRow T qual params (.Attribute (.Name x p1) f p2) scope C f t1 t2 t3 σ H Q := by
  refine m1 H _ fun y1 H1 x1 d1 tt1 => ⟨y1, rfl, fun e1 c1 n1 n1' ne1 => ?_⟩
  have z1 := xput_ext (C := C) (f := f) (y := y1) n1 n1'
  refine m2 _ _ fun y2 H2 x2 d2 tt2 => ⟨y2, rfl, fun e2 c2 n2 n2' ne2 => ?_⟩
  have z2 := xput_ext (C := C) (f := f) (y := y2) n2 n2'
  have T2 : Tabs T (xput H2 e2 c2 C f y2) := (tt2 T ((tt1 T hT).ext (xput_old n1 n1'))).ext (xput_old n2 n2')
  refine ⟨T2, fun lf H3 nf x3 T3 hL => ?_⟩
  refine m3 _ _ fun y3 H4 x4 d4 tt4 => ⟨(by show 4 ≤ sizeLine; decide), fun t nt => ?_⟩
  have x5 := extn_new (o := .tup [.ref e1, .ref e2, .ref lf, y3]) nt
  have e35 : ExtN H3 (upd H4 t (.tup [.ref e1, .ref e2, .ref lf, y3])) := x4.trans x5
  have e25 := x3.trans e35
  have a1 := x1.trans z1
  have a2 := a1.trans (x2.trans z2)
  refine k t _ (a2.trans e25) ((tt4 T T3).ext fun b u e => by rw [upd_ne (ne_of_none e nt)]; exact e) fun l O => ?_
  have O1 := O.ext a1
  have O2 := O.ext a2
  have O3 := O2.ext x3
  have O4 := O3.ext x4
  refine ⟨e1, e2, lf, y1, y2, y3, d, ?_, ?_, ?_, ?_, ?_, ?_, dp_ext (hdo_ext x5) (d4 l O3), hd⟩
  · rw [hdo_at (O4.new nt), upd_same]
  · exact xat_ext (hdo_ext ((x2.trans z2).trans e25)) (xat_hdo O1 (xput_at ne1))
  · exact xat_ext (hdo_ext e25) (xat_hdo O2 (xput_at ne2))
  · exact (lam_hdo O3 (hl _ _ hL)).ext (hdo_ext e35)
  · exact dp_ext (hdo_ext ((z1.trans (x2.trans z2)).trans e25)) (d1 l O)
  · exact dp_ext (hdo_ext (z2.trans e25)) (d2 l O1)
/-! ### what the rows are made of -/
section
variable {K : PySem.W.Frag} {σ : L2.St}
/-- a value that is its own data -/
def Plain (v : V) (d : PyData) : Prop := ∀ (K : PySem.W.Frag) (H : Hp), Dp K H v d
theorem mks_var {i : Nat} {v : V} {d : PyData} (h : σ[i]? = some (some v)) (p : Plain v d) : Mks K (tVar i) σ d := fun H Q k => ⟨v, h, k v H (ExtN.refl H) (fun _ _ => p _ _) (fun _ t => t)⟩
theorem mks_c {v : V} {d : PyData} (p : Plain v d) : Mks K (tC v) σ d := fun H Q k => k v H (ExtN.refl H) (fun _ _ => p _ _) (fun _ t => t)
theorem mks_l1 {te : TE} {v : V} {d : PyData} (h : ∀ (H : Hp) (Q : VK), Q v H → te σ H Q) (p : Plain v d) : Mks K (tLst (tCons te tNil)) σ (.list [d]) := fun H Q k =>
  h H _ ⟨(by show 1 ≤ sizeLine; decide), fun q nq => k _ _ (extn_new nq) (fun l O => .lst (.inl (.inl (by rw [hdo_at (O.new nq), upd_same]))) (.cons (p _ _) .nil)) (fun T t => t.ext fun b o e => by rw [upd_ne (ne_of_none e nq)]; exact e)⟩
theorem mks_t2 {te : TE} {v z : V} {d d2 : PyData} (h : ∀ (H : Hp) (Q : VK), Q v H → te σ H Q) (p : Plain v d) (p2 : Plain z d2) : Mks K (tTup (tCons te (tCons (tC z) tNil))) σ (.tuple [d, d2]) := fun H Q k =>
  h H _ ⟨(by show 2 ≤ sizeLine; decide), fun q nq => k _ _ (extn_new nq) (fun l O => .tup (.inl (.inl (by rw [hdo_at (O.new nq), upd_same]))) (.cons (p _ _) (.cons (p2 _ _) .nil))) (fun T t => t.ext fun b o e => by rw [upd_ne (ne_of_none e nq)]; exact e)⟩
theorem var_at {i : Nat} {v : V} (h : σ[i]? = some (some v)) (H : Hp) (Q : VK) (q : Q v H) : tVar i σ H Q := ⟨v, h, q⟩
/-! ### the list grows -/
def RowsAt (K : PySem.W.Frag) (H : Hp) (xs : List V) : Prop := ∀ j v, xs[j]? = some v → ∃ t, v = .ref t ∧ Row K H t (cA K j) (fA j)
def Made (K : PySem.W.Frag) (l : Addr) (H : Hp) (xs : List V) (n : Nat) : Prop := H l = some (.lst xs) ∧ xs.length = n ∧ RowsAt K (hdo (some l) H) xs
theorem tabs_setl {T : List (Addr × Str)} {H : Hp} {l : Addr} {xs ys : List V} (h : H l = some (.lst xs)) (t : Tabs T H) : Tabs T (upd H l (.lst ys)) := fun p hp => by
  have ne : ∀ b u, H b = some u → (∀ zs, u ≠ .lst zs) → b ≠ l := fun b u e n z => by
    rw [z, h] at e
    cases e
    exact n _ rfl
  obtain ⟨ps, h1, h2, h3⟩ := t p hp
  refine ⟨ps, by rw [upd_ne (ne _ _ h1 (fun _ z => nomatch z))]; exact h1, h2, fun pos cv hc => ?_⟩
  obtain ⟨c, e1, e2⟩ := h3 pos cv hc
  exact ⟨c, e1, by rw [upd_ne (ne _ _ e2 (fun _ z => by unfold CodeO at z; cases z))]; exact e2⟩
theorem hdo_set {l : Addr} {H : Hp} {o : HO} : hdo (some l) (upd H l o) = hdo (some l) H := funext fun b => by
  unfold hdo
  by_cases h : l = b
  · rw [if_pos (by rw [h]), if_pos (by rw [h])]
  · rw [if_neg (fun z => h (Option.some.inj z)), if_neg (fun z => h (Option.some.inj z)), upd_ne (fun z => h z.symm)]
theorem RowsAt.ext {H H' : Hp} {xs : List V} (r : RowsAt K H xs) (e : ExtN H H') : RowsAt K H' xs := fun j v h => by
  obtain ⟨t, h1, h2⟩ := r j v h
  exact ⟨t, h1, h2.ext e⟩
theorem RowsAt.snoc {H : Hp} {xs : List V} {n : Nat} {t : Addr} (r : RowsAt K H xs) (hn : xs.length = n) (h : Row K H t (cA K n) (fA n)) : RowsAt K H (xs ++ [.ref t]) := fun j v e => by
  by_cases hj : j < xs.length
  · rw [List.getElem?_append_left hj] at e
    exact r j v e
  · rw [List.getElem?_append_right (Nat.le_of_not_lt hj)] at e
    have h0 : j - xs.length = 0 := by
      cases q : j - xs.length with
      | zero => rfl
      | succ m => rw [q] at e; cases e
    rw [h0] at e
    cases e
    have e2 : j = n := by omega
    rw [e2]
    exact ⟨t, rfl, h⟩
theorem app_eval {T : List (Addr × Str)} {qual x : Str} {params : Arguments} {scope : Scope} {n : Nat} {t1 t2 t3 : TE} {H : Hp} {d : PyData} {p1 p2 : Pos} {l : Addr} {xs : List V} {D : _} {u : TS} (hσ : σ[2]? = some (some (.ref l))) (M : Made K l H xs n) (hn : n < 1000) (hT : Tabs T H) (m1 : Mks K t1 σ d) (m2 : Mks K t2 σ d) (m3 : Mks K t3 σ d) (hd : SeqAt.shaped d = true)
    (hl : ∀ H lf, LamAt H lf qual params (.Attribute (.Name x p1) (fA n) p2) scope → FieldLam H lf (fA n))
    (k : ∀ H1 xs1, Made K l H1 xs1 (n + 1) → Tabs T H1 → (∀ H0, ExtN H0 (hdo (some l) H) → ExtN H0 (hdo (some l) H1)) → u D σ H1) :
    tSeq (tDrop (tBM K "list" rAppend (tVar 2) (tCons (tRow T qual params (.Attribute (.Name x p1) (fA n) p2) scope (cA K n) (fA n) t1 t2 t3) tNil))) u D σ H := by
  obtain ⟨h1, h2, h3⟩ := M
  refine ⟨_, hσ, .inl ⟨rfl, _, SqL.of h1⟩, row_eval hT m1 m2 m3 hd hl fun t H1 e T1 hr => ?_⟩
  have l1 := e _ _ h1 (fun _ z => nomatch z)
  refine ⟨l, xs, _, rfl, rfl, l1, by rw [h2]; exact Nat.lt_trans hn (by show 1000 < sizeLine; decide), ?_⟩
  refine k _ (xs ++ [.ref t]) ⟨upd_same, by rw [List.length_append, h2]; rfl, ?_⟩ (tabs_setl l1 T1) (fun H0 e0 => ?_)
  · rw [hdo_set]
    exact (h3.ext (hdo_ext e)).snoc h2 (hr (some l) fun a z => by cases z; exact ⟨_, h1⟩)
  · rw [hdo_set]
    exact e0.trans (hdo_ext e)
theorem first_eval {T : List (Addr × Str)} {qual x : Str} {params : Arguments} {scope : Scope} {C : Addr} {f : Str} {t1 t2 t3 : TE} {H : Hp} {d : PyData} {p1 p2 : Pos} {D : _} {u : TS} (hT : Tabs T H) (m1 : Mks K t1 σ d) (m2 : Mks K t2 σ d) (m3 : Mks K t3 σ d) (hd : SeqAt.shaped d = true)
    (hl : ∀ H lf, LamAt H lf qual params (.Attribute (.Name x p1) f p2) scope → FieldLam H lf f)
    (k : ∀ l t H1, ExtN H H1 → Tabs T H1 → Row K H1 t C f → H1 l = none → u D (σ.set 2 (some (.ref l))) (upd H1 l (.lst [.ref t]))) :
    tSeq (tAsg (tLst (tCons (tRow T qual params (.Attribute (.Name x p1) f p2) scope C f t1 t2 t3) tNil)) (gName 2)) u D σ H := by
  unfold tSeq tAsg tLst tCons
  refine row_eval hT m1 m2 m3 hd hl fun t H1 e T1 hr => ?_
  refine ⟨(by show 1 ≤ sizeLine; decide), fun l nl => ?_⟩
  have z := hr none fun a z => nomatch z
  rw [hdo_none] at z
  exact k l t H1 e T1 z nl
theorem last_eval {T : List (Addr × Str)} {qual x : Str} {params : Arguments} {scope : Scope} {n : Nat} {t1 t2 t3 : TE} {H : Hp} {d : PyData} {p1 p2 : Pos} {l : Addr} {xs : List V} {D : _} (hσ : σ[2]? = some (some (.ref l))) (M : Made K l H xs n) (hn : n < 1000) (hT : Tabs T H) (m1 : Mks K t1 σ d) (m2 : Mks K t2 σ d) (m3 : Mks K t3 σ d) (hd : SeqAt.shaped d = true)
    (hl : ∀ H lf, LamAt H lf qual params (.Attribute (.Name x p1) (fA n) p2) scope → FieldLam H lf (fA n))
    (k : ∀ p ys H1, ExtN H H1 → Tabs T H1 → H1 p = some (.lst ys) → ys.length = n + 1 → RowsAt K H1 ys → D.rt (.ref p) H1) :
    tRet (tOp rCat (tVar 2) (tLst (tCons (tRow T qual params (.Attribute (.Name x p1) (fA n) p2) scope (cA K n) (fA n) t1 t2 t3) tNil))) D σ H := by
  obtain ⟨m1', m2', m3'⟩ := M
  unfold tRet tOp tLst tCons
  refine ⟨_, hσ, row_eval hT m1 m2 m3 hd hl fun t H1 e1 T1 r1 => ?_⟩
  refine ⟨(by show 1 ≤ sizeLine; decide), fun b nb => ?_⟩
  have l1 := e1 _ _ m1' (fun _ z => nomatch z)
  refine ⟨l, b, xs, [.ref t], rfl, rfl, (by rw [upd_ne (ne_of_none l1 nb)]; exact l1), upd_same, (by rw [m2']; exact Nat.lt_trans (Nat.succ_lt_succ hn) (by show 1001 < sizeLine; decide) |> Nat.le_of_lt), fun p np => ?_⟩
  have np' : H1 p = none := by
    rw [upd_ne (fun z => by rw [z, upd_same] at np; cases np)] at np
    exact np
  have x0 : ∀ c o, H1 c = some o → upd (upd H1 b (.lst [.ref t])) p (.lst (xs ++ [.ref t])) c = some o := fun c o e => by
    rw [upd_ne (ne_of_none e np'), upd_ne (ne_of_none e nb)]
    exact e
  have x1 := ExtN.of x0
  have z := r1 none fun a z => nomatch z
  rw [hdo_none] at z
  exact k p _ _ (e1.trans x1) (T1.ext x0) upd_same (by rw [List.length_append, m2']; rfl) (((m3'.ext hdo_sub).ext (e1.trans x1)).snoc m2' (z.ext x1))
end
end K97
set_option Elab.async false
set_option linter.all false
set_option maxRecDepth 100000
set_option maxHeartbeats 4000000
namespace K97
open PySem PySem.Spec PyProof.Rows L2 LamX XQ
section
variable {P : Program} {w : World} {K : PySem.W.Frag} {mg : Str → Option Value} {base : Heap}
/-! ### the classes, made -/
structure Clss (K : PySem.W.Frag) : Prop where
  a0 : ClsF K "NoFit" "wants" "ValueError.__new__" (.type "ValueError" :: tE)
  a1 : ClsF K "NoForm" "at" "ValueError.__new__" (.type "ValueError" :: tE)
  a2 : ClsF K "NoBook" "thing" "ValueError.__new__" (.type "ValueError" :: tE)
  a3 : ClsF K "NoPlace" "thing" "ValueError.__new__" (.type "ValueError" :: tE)
  a4 : ClsF K "NoAsk" "number" "ValueError.__new__" (.type "ValueError" :: tE)
  a5 : ClsF K "NoOutcome" "thing" "ValueError.__new__" (.type "ValueError" :: tE)
  a6 : ClsF K "NoText" "part" "ValueError.__new__" (.type "ValueError" :: tE)
  a7 : ClsF K "NoRow" "row" "ValueError.__new__" (.type "ValueError" :: tE)
  a8 : ClsF K "NoPage" "page" "LookupError.__new__" (.type "KeyError" :: .type "LookupError" :: tE)
  a9 : ClsF K "NoClaim" "claim" "LookupError.__new__" (.type "KeyError" :: .type "LookupError" :: tE)
  a10 : ClsF K "NoLook" "name" "LookupError.__new__" (.type "KeyError" :: .type "LookupError" :: tE)
  a11 : ClsF K "NoName" "name" "LookupError.__new__" (.type "LookupError" :: tE)
  a12 : ClsF K "NoPiece" "number" "IndexError.__new__" (.type "IndexError" :: .type "LookupError" :: tE)
  a13 : ClsF K "NoJob" "number" "IndexError.__new__" (.type "IndexError" :: .type "LookupError" :: tE)
  a14 : ClsF K "TooMany" "many" "OverflowError.__new__" (.type "OverflowError" :: .type "ArithmeticError" :: tE)
  a15 : ClsF K "There" "name" "RuntimeError.__new__" (.type "RuntimeError" :: tE)
  a16 : ClsF K "Busy" "hand" "RuntimeError.__new__" (.type "RuntimeError" :: tE)
  a17 : ClsF K "Idle" "hand" "RuntimeError.__new__" (.type "RuntimeError" :: tE)
theorem Tx.clss (T : Tx K mg) : Clss K := by
  obtain ⟨_, h⟩ := He.ba T.e
  obtain ⟨h, b17⟩ := He.ba h
  obtain ⟨h, b16⟩ := He.ba h
  obtain ⟨h, b15⟩ := He.ba h
  obtain ⟨h, b14⟩ := He.ba h
  obtain ⟨h, b13⟩ := He.ba h
  obtain ⟨h, b12⟩ := He.ba h
  obtain ⟨h, b11⟩ := He.ba h
  obtain ⟨h, b10⟩ := He.ba h
  obtain ⟨h, b9⟩ := He.ba h
  obtain ⟨h, b8⟩ := He.ba h
  obtain ⟨h, b7⟩ := He.ba h
  obtain ⟨h, b6⟩ := He.ba h
  obtain ⟨h, b5⟩ := He.ba h
  obtain ⟨h, b4⟩ := He.ba h
  obtain ⟨h, b3⟩ := He.ba h
  obtain ⟨h, b2⟩ := He.ba h
  obtain ⟨h, b1⟩ := He.ba h
  have G := T.gen
  exact ⟨clsF_of G h, clsF_of G b1, clsF_of G b2, clsF_of G b3, clsF_of G b4, clsF_of G b5, clsF_of G b6, clsF_of G b7, clsF_of G b8, clsF_of G b9, clsF_of G b10, clsF_of G b11, clsF_of G b12, clsF_of G b13, clsF_of G b14, clsF_of G b15, clsF_of G b16, clsF_of G b17⟩
theorem mk0 (T : Tx K mg) (S : He.SaysD [] fn K) : MkX P w K mg base "NoFit" "wants" (He.ga K "NoFit") "ValueError.__new__" (.type "ValueError" :: tE) := by
  obtain ⟨fd, F⟩ := S.def_ 6 (d := e0) rfl
  have F : FunD K "__init__" "NoFit.__init__" (defArgs c0) (defBody c0) (defScope c0) [] [] (He.ma K (He.ga K "NoFit") "__init__") fd := F
  exact mkx (st := c0) (b := "PageError") ⟨by decide, by decide, by decide, by decide, by decide, by decide, by decide, fun _ _ => rfl⟩ bsV T.iniV T.clss.a0 T.glo F ⟨_, _, _, _, _, _, _, _, _, _, _, _, rfl, rfl, rfl, by decide⟩
    (fun _ _ _ _ _ _ us hl => match us, hl with | [_, _], _ => rfl) (fun _ _ _ _ _ _ _ _ => rfl)
theorem mk1 (T : Tx K mg) (S : He.SaysD [] fn K) : MkX P w K mg base "NoForm" "at" (He.ga K "NoForm") "ValueError.__new__" (.type "ValueError" :: tE) := by
  obtain ⟨fd, F⟩ := S.def_ 7 (d := e1) rfl
  have F : FunD K "__init__" "NoForm.__init__" (defArgs c1) (defBody c1) (defScope c1) [] [] (He.ma K (He.ga K "NoForm") "__init__") fd := F
  exact mkx (st := c1) (b := "PageError") ⟨by decide, by decide, by decide, by decide, by decide, by decide, by decide, fun _ _ => rfl⟩ bsV T.iniV T.clss.a1 T.glo F ⟨_, _, _, _, _, _, _, _, _, _, _, _, rfl, rfl, rfl, by decide⟩
    (fun _ _ _ _ _ _ us hl => match us, hl with | [_, _], _ => rfl) (fun _ _ _ _ _ _ _ _ => rfl)
theorem mk2 (T : Tx K mg) (S : He.SaysD [] fn K) : MkX P w K mg base "NoBook" "thing" (He.ga K "NoBook") "ValueError.__new__" (.type "ValueError" :: tE) := by
  obtain ⟨fd, F⟩ := S.def_ 8 (d := e2) rfl
  have F : FunD K "__init__" "NoBook.__init__" (defArgs c2) (defBody c2) (defScope c2) [] [] (He.ma K (He.ga K "NoBook") "__init__") fd := F
  exact mkx (st := c2) (b := "PageError") ⟨by decide, by decide, by decide, by decide, by decide, by decide, by decide, fun _ _ => rfl⟩ bsV T.iniV T.clss.a2 T.glo F ⟨_, _, _, _, _, _, _, _, _, _, _, _, rfl, rfl, rfl, by decide⟩
    (fun _ _ _ _ _ _ us hl => match us, hl with | [_, _], _ => rfl) (fun _ _ _ _ _ _ _ _ => rfl)
theorem mk3 (T : Tx K mg) (S : He.SaysD [] fn K) : MkX P w K mg base "NoPlace" "thing" (He.ga K "NoPlace") "ValueError.__new__" (.type "ValueError" :: tE) := by
  obtain ⟨fd, F⟩ := S.def_ 9 (d := e3) rfl
  have F : FunD K "__init__" "NoPlace.__init__" (defArgs c3) (defBody c3) (defScope c3) [] [] (He.ma K (He.ga K "NoPlace") "__init__") fd := F
  exact mkx (st := c3) (b := "PageError") ⟨by decide, by decide, by decide, by decide, by decide, by decide, by decide, fun _ _ => rfl⟩ bsV T.iniV T.clss.a3 T.glo F ⟨_, _, _, _, _, _, _, _, _, _, _, _, rfl, rfl, rfl, by decide⟩
    (fun _ _ _ _ _ _ us hl => match us, hl with | [_, _], _ => rfl) (fun _ _ _ _ _ _ _ _ => rfl)
theorem mk4 (T : Tx K mg) (S : He.SaysD [] fn K) : MkX P w K mg base "NoAsk" "number" (He.ga K "NoAsk") "ValueError.__new__" (.type "ValueError" :: tE) := by
  obtain ⟨fd, F⟩ := S.def_ 10 (d := e4) rfl
  have F : FunD K "__init__" "NoAsk.__init__" (defArgs c4) (defBody c4) (defScope c4) [] [] (He.ma K (He.ga K "NoAsk") "__init__") fd := F
  exact mkx (st := c4) (b := "PageError") ⟨by decide, by decide, by decide, by decide, by decide, by decide, by decide, fun _ _ => rfl⟩ bsV T.iniV T.clss.a4 T.glo F ⟨_, _, _, _, _, _, _, _, _, _, _, _, rfl, rfl, rfl, by decide⟩
    (fun _ _ _ _ _ _ us hl => match us, hl with | [_, _], _ => rfl) (fun _ _ _ _ _ _ _ _ => rfl)
theorem mk5 (T : Tx K mg) (S : He.SaysD [] fn K) : MkX P w K mg base "NoOutcome" "thing" (He.ga K "NoOutcome") "ValueError.__new__" (.type "ValueError" :: tE) := by
  obtain ⟨fd, F⟩ := S.def_ 11 (d := e5) rfl
  have F : FunD K "__init__" "NoOutcome.__init__" (defArgs c5) (defBody c5) (defScope c5) [] [] (He.ma K (He.ga K "NoOutcome") "__init__") fd := F
  exact mkx (st := c5) (b := "PageError") ⟨by decide, by decide, by decide, by decide, by decide, by decide, by decide, fun _ _ => rfl⟩ bsV T.iniV T.clss.a5 T.glo F ⟨_, _, _, _, _, _, _, _, _, _, _, _, rfl, rfl, rfl, by decide⟩
    (fun _ _ _ _ _ _ us hl => match us, hl with | [_, _], _ => rfl) (fun _ _ _ _ _ _ _ _ => rfl)
theorem mk6 (T : Tx K mg) (S : He.SaysD [] fn K) : MkX P w K mg base "NoText" "part" (He.ga K "NoText") "ValueError.__new__" (.type "ValueError" :: tE) := by
  obtain ⟨fd, F⟩ := S.def_ 12 (d := e6) rfl
  have F : FunD K "__init__" "NoText.__init__" (defArgs c6) (defBody c6) (defScope c6) [] [] (He.ma K (He.ga K "NoText") "__init__") fd := F
  exact mkx (st := c6) (b := "PageError") ⟨by decide, by decide, by decide, by decide, by decide, by decide, by decide, fun _ _ => rfl⟩ bsV T.iniV T.clss.a6 T.glo F ⟨_, _, _, _, _, _, _, _, _, _, _, _, rfl, rfl, rfl, by decide⟩
    (fun _ _ _ _ _ _ us hl => match us, hl with | [_, _], _ => rfl) (fun _ _ _ _ _ _ _ _ => rfl)
theorem mk7 (T : Tx K mg) (S : He.SaysD [] fn K) : MkX P w K mg base "NoRow" "row" (He.ga K "NoRow") "ValueError.__new__" (.type "ValueError" :: tE) := by
  obtain ⟨fd, F⟩ := S.def_ 13 (d := e7) rfl
  have F : FunD K "__init__" "NoRow.__init__" (defArgs c7) (defBody c7) (defScope c7) [] [] (He.ma K (He.ga K "NoRow") "__init__") fd := F
  exact mkx (st := c7) (b := "PageError") ⟨by decide, by decide, by decide, by decide, by decide, by decide, by decide, fun _ _ => rfl⟩ bsV T.iniV T.clss.a7 T.glo F ⟨_, _, _, _, _, _, _, _, _, _, _, _, rfl, rfl, rfl, by decide⟩
    (fun _ _ _ _ _ _ us hl => match us, hl with | [_, _], _ => rfl) (fun _ _ _ _ _ _ _ _ => rfl)
theorem mk8 (T : Tx K mg) (S : He.SaysD [] fn K) : MkX P w K mg base "NoPage" "page" (He.ga K "NoPage") "LookupError.__new__" (.type "KeyError" :: .type "LookupError" :: tE) := by
  obtain ⟨fd, F⟩ := S.def_ 14 (d := e8) rfl
  have F : FunD K "__init__" "NoPage.__init__" (defArgs c8) (defBody c8) (defScope c8) [] [] (He.ma K (He.ga K "NoPage") "__init__") fd := F
  exact mkx (st := c8) (b := "KeyError") ⟨by decide, by decide, by decide, by decide, by decide, by decide, by decide, fun _ _ => rfl⟩ bsK T.iniK T.clss.a8 T.glo F ⟨_, _, _, _, _, _, _, _, _, _, _, _, rfl, rfl, rfl, by decide⟩
    (fun _ _ _ _ _ _ us hl => match us, hl with | [_, _], _ => rfl) (fun _ _ _ _ _ _ _ _ => rfl)
theorem mk9 (T : Tx K mg) (S : He.SaysD [] fn K) : MkX P w K mg base "NoClaim" "claim" (He.ga K "NoClaim") "LookupError.__new__" (.type "KeyError" :: .type "LookupError" :: tE) := by
  obtain ⟨fd, F⟩ := S.def_ 15 (d := e9) rfl
  have F : FunD K "__init__" "NoClaim.__init__" (defArgs c9) (defBody c9) (defScope c9) [] [] (He.ma K (He.ga K "NoClaim") "__init__") fd := F
  exact mkx (st := c9) (b := "KeyError") ⟨by decide, by decide, by decide, by decide, by decide, by decide, by decide, fun _ _ => rfl⟩ bsK T.iniK T.clss.a9 T.glo F ⟨_, _, _, _, _, _, _, _, _, _, _, _, rfl, rfl, rfl, by decide⟩
    (fun _ _ _ _ _ _ us hl => match us, hl with | [_, _], _ => rfl) (fun _ _ _ _ _ _ _ _ => rfl)
theorem mk10 (T : Tx K mg) (S : He.SaysD [] fn K) : MkX P w K mg base "NoLook" "name" (He.ga K "NoLook") "LookupError.__new__" (.type "KeyError" :: .type "LookupError" :: tE) := by
  obtain ⟨fd, F⟩ := S.def_ 16 (d := e10) rfl
  have F : FunD K "__init__" "NoLook.__init__" (defArgs c10) (defBody c10) (defScope c10) [] [] (He.ma K (He.ga K "NoLook") "__init__") fd := F
  exact mkx (st := c10) (b := "KeyError") ⟨by decide, by decide, by decide, by decide, by decide, by decide, by decide, fun _ _ => rfl⟩ bsK T.iniK T.clss.a10 T.glo F ⟨_, _, _, _, _, _, _, _, _, _, _, _, rfl, rfl, rfl, by decide⟩
    (fun _ _ _ _ _ _ us hl => match us, hl with | [_, _], _ => rfl) (fun _ _ _ _ _ _ _ _ => rfl)
theorem mk11 (T : Tx K mg) (S : He.SaysD [] fn K) : MkX P w K mg base "NoName" "name" (He.ga K "NoName") "LookupError.__new__" (.type "LookupError" :: tE) := by
  obtain ⟨fd, F⟩ := S.def_ 17 (d := e11) rfl
  have F : FunD K "__init__" "NoName.__init__" (defArgs c11) (defBody c11) (defScope c11) [] [] (He.ma K (He.ga K "NoName") "__init__") fd := F
  exact mkx (st := c11) (b := "LookupError") ⟨by decide, by decide, by decide, by decide, by decide, by decide, by decide, fun _ _ => rfl⟩ bsL T.iniL T.clss.a11 T.glo F ⟨_, _, _, _, _, _, _, _, _, _, _, _, rfl, rfl, rfl, by decide⟩
    (fun _ _ _ _ _ _ us hl => match us, hl with | [_, _], _ => rfl) (fun _ _ _ _ _ _ _ _ => rfl)
theorem mk12 (T : Tx K mg) (S : He.SaysD [] fn K) : MkX P w K mg base "NoPiece" "number" (He.ga K "NoPiece") "IndexError.__new__" (.type "IndexError" :: .type "LookupError" :: tE) := by
  obtain ⟨fd, F⟩ := S.def_ 18 (d := e12) rfl
  have F : FunD K "__init__" "NoPiece.__init__" (defArgs c12) (defBody c12) (defScope c12) [] [] (He.ma K (He.ga K "NoPiece") "__init__") fd := F
  exact mkx (st := c12) (b := "IndexError") ⟨by decide, by decide, by decide, by decide, by decide, by decide, by decide, fun _ _ => rfl⟩ bsI T.iniI T.clss.a12 T.glo F ⟨_, _, _, _, _, _, _, _, _, _, _, _, rfl, rfl, rfl, by decide⟩
    (fun _ _ _ _ _ _ us hl => match us, hl with | [_, _], _ => rfl) (fun _ _ _ _ _ _ _ _ => rfl)
theorem mk13 (T : Tx K mg) (S : He.SaysD [] fn K) : MkX P w K mg base "NoJob" "number" (He.ga K "NoJob") "IndexError.__new__" (.type "IndexError" :: .type "LookupError" :: tE) := by
  obtain ⟨fd, F⟩ := S.def_ 19 (d := e13) rfl
  have F : FunD K "__init__" "NoJob.__init__" (defArgs c13) (defBody c13) (defScope c13) [] [] (He.ma K (He.ga K "NoJob") "__init__") fd := F
  exact mkx (st := c13) (b := "IndexError") ⟨by decide, by decide, by decide, by decide, by decide, by decide, by decide, fun _ _ => rfl⟩ bsI T.iniI T.clss.a13 T.glo F ⟨_, _, _, _, _, _, _, _, _, _, _, _, rfl, rfl, rfl, by decide⟩
    (fun _ _ _ _ _ _ us hl => match us, hl with | [_, _], _ => rfl) (fun _ _ _ _ _ _ _ _ => rfl)
theorem mk14 (T : Tx K mg) (S : He.SaysD [] fn K) : MkX P w K mg base "TooMany" "many" (He.ga K "TooMany") "OverflowError.__new__" (.type "OverflowError" :: .type "ArithmeticError" :: tE) := by
  obtain ⟨fd, F⟩ := S.def_ 20 (d := e14) rfl
  have F : FunD K "__init__" "TooMany.__init__" (defArgs c14) (defBody c14) (defScope c14) [] [] (He.ma K (He.ga K "TooMany") "__init__") fd := F
  exact mkx (st := c14) (b := "OverflowError") ⟨by decide, by decide, by decide, by decide, by decide, by decide, by decide, fun _ _ => rfl⟩ bsO T.iniO T.clss.a14 T.glo F ⟨_, _, _, _, _, _, _, _, _, _, _, _, rfl, rfl, rfl, by decide⟩
    (fun _ _ _ _ _ _ us hl => match us, hl with | [_, _], _ => rfl) (fun _ _ _ _ _ _ _ _ => rfl)
theorem mk15 (T : Tx K mg) (S : He.SaysD [] fn K) : MkX P w K mg base "There" "name" (He.ga K "There") "RuntimeError.__new__" (.type "RuntimeError" :: tE) := by
  obtain ⟨fd, F⟩ := S.def_ 21 (d := e15) rfl
  have F : FunD K "__init__" "There.__init__" (defArgs c15) (defBody c15) (defScope c15) [] [] (He.ma K (He.ga K "There") "__init__") fd := F
  exact mkx (st := c15) (b := "RuntimeError") ⟨by decide, by decide, by decide, by decide, by decide, by decide, by decide, fun _ _ => rfl⟩ bsR T.iniR T.clss.a15 T.glo F ⟨_, _, _, _, _, _, _, _, _, _, _, _, rfl, rfl, rfl, by decide⟩
    (fun _ _ _ _ _ _ us hl => match us, hl with | [_, _], _ => rfl) (fun _ _ _ _ _ _ _ _ => rfl)
theorem mk16 (T : Tx K mg) (S : He.SaysD [] fn K) : MkX P w K mg base "Busy" "hand" (He.ga K "Busy") "RuntimeError.__new__" (.type "RuntimeError" :: tE) := by
  obtain ⟨fd, F⟩ := S.def_ 22 (d := e16) rfl
  have F : FunD K "__init__" "Busy.__init__" (defArgs c16) (defBody c16) (defScope c16) [] [] (He.ma K (He.ga K "Busy") "__init__") fd := F
  exact mkx (st := c16) (b := "RuntimeError") ⟨by decide, by decide, by decide, by decide, by decide, by decide, by decide, fun _ _ => rfl⟩ bsR T.iniR T.clss.a16 T.glo F ⟨_, _, _, _, _, _, _, _, _, _, _, _, rfl, rfl, rfl, by decide⟩
    (fun _ _ _ _ _ _ us hl => match us, hl with | [_, _], _ => rfl) (fun _ _ _ _ _ _ _ _ => rfl)
theorem mk17 (T : Tx K mg) (S : He.SaysD [] fn K) : MkX P w K mg base "Idle" "hand" (He.ga K "Idle") "RuntimeError.__new__" (.type "RuntimeError" :: tE) := by
  obtain ⟨fd, F⟩ := S.def_ 23 (d := e17) rfl
  have F : FunD K "__init__" "Idle.__init__" (defArgs c17) (defBody c17) (defScope c17) [] [] (He.ma K (He.ga K "Idle") "__init__") fd := F
  exact mkx (st := c17) (b := "RuntimeError") ⟨by decide, by decide, by decide, by decide, by decide, by decide, by decide, fun _ _ => rfl⟩ bsR T.iniR T.clss.a17 T.glo F ⟨_, _, _, _, _, _, _, _, _, _, _, _, rfl, rfl, rfl, by decide⟩
    (fun _ _ _ _ _ _ us hl => match us, hl with | [_, _], _ => rfl) (fun _ _ _ _ _ _ _ _ => rfl)
end
end K97
set_option Elab.async false
set_option linter.all false
set_option maxRecDepth 100000
set_option maxHeartbeats 4000000
namespace K97
open PySem PySem.Spec PyProof.Rows L2 LamX XQ
section
variable {P : Program} {w : World} {K : PySem.W.Frag} {mg : Str → Option Value} {base : Heap}
/-! ### all made -/
theorem pl_int (i : Int) : Plain (.int i) (.int i) := fun _ _ => .int i
theorem pl_str (x : Str) : Plain (.str x) (.str x) := fun _ _ => .str x
theorem pl_non : Plain .non .none := fun _ _ => .non
theorem sh_l1 {x : Str} (h : SeqAt.shaped (.str x) = true) : SeqAt.shaped (.list [.str x]) = true := by
  have e : PyData.canLay0 (.str x) = true := SeqAt.canLay_of_shaped h
  show (PyData.canLay0 (.str x) && true && _) = true
  rw [e]
  rfl
theorem sh_t2 {x : Str} (h : SeqAt.shaped (.str x) = true) : SeqAt.shaped (.tuple [.str x, .str "c"]) = true := by
  have e : PyData.canLay0 (.str x) = true := SeqAt.canLay_of_shaped h
  have e2 : PyData.canLay0 (.str "c") = true := by decide +kernel
  show (PyData.canLay0 (.str x) && (PyData.canLay0 (.str "c") && true) && _) = true
  rw [e, e2]
  rfl
/-- the table of the made lambdas -/
def TM (K : PySem.W.Frag) : List (Addr × Str) := [((He.cT K ("_law_made", none)).2, ("_law_made" : Str) ++ ".<locals>." ++ "<lambda>")]
def spMade (K : PySem.W.Frag) : Sp := fun vs H Q _ => ∃ (fig : Int) (word : Str), vs = [.int fig, .str word] ∧ SeqAt.shaped (.str word) = true ∧ Tabs (TM K) H ∧ ∀ p xs H1, ExtN H H1 → Tabs (TM K) H1 → H1 p = some (.lst xs) → xs.length = 18 → RowsAt K H1 xs → Q (.ref p) H1
theorem scMade : FnScope ["_law_figure", "_law_word", "_law_some"] ["_law_figure", "_law_word"] (defScope s2) := ⟨rfl, rfl, rfl, by decide +kernel, rfl, by decide +kernel, by decide +kernel⟩
/-- a def whose code object is named -/
theorem okC {CX : CXT} {x qual : Str} {params : Arguments} {body : List Stmt} {scope : Scope} {dvs : List V} {kws : List (Str × V)} {d : Str × Option Str} {fd : FuncData} {N ps : List Str} {k : Nat} {sp : Sp} (F : FunD K x qual params body scope dvs kws (He.fAd K d) fd) (S : FnScope N ps scope) (len : ∀ vs H Q E, sp vs H Q E → vs.length = ps.length)
    (hbody : ∀ (A : Around) (outer : List Env) (s : Shared) (H : Hp) (vs : List V) (Q : VK) (E : XK), Room k (A.deeper (envOfC qual scope s.heap.objs.size (He.fAd K d) (.ref (He.codeOf K d)))) → sp vs H Q E →
      ∃ t, PSs (cxOf CX P w K mg base N qual scope (He.fAd K d) (.ref (He.codeOf K d)) A outer s H E) body t ∧ t { nx := fun _ H' => Q .non H', rt := Q } (start N vs) H) : FnOk P w K mg base CX (k + 1) (He.fAd K d) fd ps sp := by
  obtain ⟨oc, od, dV, kV, doc, pm, an, cdv, ct, osl, rfl, lk, hcd, _, _⟩ := F.ex
  obtain ⟨c, rfl⟩ := He.codeIn_ref hcd
  have e := He.codeOf_eq lk rfl
  subst e
  exact fn_of lk hcd S len fun A outer s H vs Q E hr hsp => hbody A outer s H vs Q E hr hsp
theorem ok_made {fd : FuncData} (F : FnP K "_law_made" s2 (He.fAd K ("_law_made", none)) fd) (T : Tx K mg) (S : He.SaysD [] fn K) (TB : TabB base mg (He.cT K ("_law_made", none)).1 (He.cT K ("_law_made", none)).2) : FnOk P w K mg base CX0 4 (He.fAd K ("_law_made", none)) fd ["_law_figure", "_law_word"] (spMade K) := by
  refine okC F scMade (fun vs H Q E h => ?_) (fun A outer s H vs Q E hr0 h => ?_)
  · obtain ⟨fig, word, rfl, _⟩ := h
    rfl
  · obtain ⟨fig, word, rfl, hw, hT, q⟩ := h
    have hr : Room 2 _ := hr0.mono (by decide)
    refine ⟨_, PSs.nox (pss_cons (ps_set (i := 2) scMade.nd rfl (.inl rfl) (pe_lst (pa_cons (pe_tup (pa_cons (pe_xnew (mk0 T S) hr (by rfl) (pa_cons (pv 0) pa_nil)) (pa_cons (pe_xnewK (mk0 T S) hr (by rfl) (pk_cons (pv 0) pk_nil)) (pa_cons (pe_lamb TB rfl (List.mem_singleton.mpr rfl) (fun p hp _ => by rw [List.mem_singleton.mp hp]) (by rfl) (by rfl)) (pa_cons (pv 0) pa_nil))))) pa_nil)))
      (pss_cons (ps_expr (pe_bm PySem.F.plainAttrs_list PySem.F.slot_list_append PySem.F.type_list_append mt_append (pv 2) (pa_cons (pe_tup (pa_cons (pe_xnew (mk1 T S) hr (by rfl) (pa_cons (pv 0) pa_nil)) (pa_cons (pe_xnewK (mk1 T S) hr (by rfl) (pk_cons (pv 0) pk_nil)) (pa_cons (pe_lamb TB rfl (List.mem_singleton.mpr rfl) (fun p hp _ => by rw [List.mem_singleton.mp hp]) (by rfl) (by rfl)) (pa_cons (pv 0) pa_nil))))) pa_nil)))
      (pss_cons (ps_expr (pe_bm PySem.F.plainAttrs_list PySem.F.slot_list_append PySem.F.type_list_append mt_append (pv 2) (pa_cons (pe_tup (pa_cons (pe_xnew (mk2 T S) hr (by rfl) (pa_cons (pe_lst (pa_cons (pv 1) pa_nil)) pa_nil)) (pa_cons (pe_xnewK (mk2 T S) hr (by rfl) (pk_cons (pe_lst (pa_cons (pv 1) pa_nil)) pk_nil)) (pa_cons (pe_lamb TB rfl (List.mem_singleton.mpr rfl) (fun p hp _ => by rw [List.mem_singleton.mp hp]) (by rfl) (by rfl)) (pa_cons (pe_lst (pa_cons (pv 1) pa_nil)) pa_nil))))) pa_nil)))
      (pss_cons (ps_expr (pe_bm PySem.F.plainAttrs_list PySem.F.slot_list_append PySem.F.type_list_append mt_append (pv 2) (pa_cons (pe_tup (pa_cons (pe_xnew (mk3 T S) hr (by rfl) (pa_cons (pv 0) pa_nil)) (pa_cons (pe_xnewK (mk3 T S) hr (by rfl) (pk_cons (pv 0) pk_nil)) (pa_cons (pe_lamb TB rfl (List.mem_singleton.mpr rfl) (fun p hp _ => by rw [List.mem_singleton.mp hp]) (by rfl) (by rfl)) (pa_cons (pv 0) pa_nil))))) pa_nil)))
      (pss_cons (ps_expr (pe_bm PySem.F.plainAttrs_list PySem.F.slot_list_append PySem.F.type_list_append mt_append (pv 2) (pa_cons (pe_tup (pa_cons (pe_xnew (mk4 T S) hr (by rfl) (pa_cons (pv 0) pa_nil)) (pa_cons (pe_xnewK (mk4 T S) hr (by rfl) (pk_cons (pv 0) pk_nil)) (pa_cons (pe_lamb TB rfl (List.mem_singleton.mpr rfl) (fun p hp _ => by rw [List.mem_singleton.mp hp]) (by rfl) (by rfl)) (pa_cons (pv 0) pa_nil))))) pa_nil)))
      (pss_cons (ps_expr (pe_bm PySem.F.plainAttrs_list PySem.F.slot_list_append PySem.F.type_list_append mt_append (pv 2) (pa_cons (pe_tup (pa_cons (pe_xnew (mk5 T S) hr (by rfl) (pa_cons pe_non pa_nil)) (pa_cons (pe_xnewK (mk5 T S) hr (by rfl) (pk_cons pe_non pk_nil)) (pa_cons (pe_lamb TB rfl (List.mem_singleton.mpr rfl) (fun p hp _ => by rw [List.mem_singleton.mp hp]) (by rfl) (by rfl)) (pa_cons pe_non pa_nil))))) pa_nil)))
      (pss_cons (ps_expr (pe_bm PySem.F.plainAttrs_list PySem.F.slot_list_append PySem.F.type_list_append mt_append (pv 2) (pa_cons (pe_tup (pa_cons (pe_xnew (mk6 T S) hr (by rfl) (pa_cons (pv 0) pa_nil)) (pa_cons (pe_xnewK (mk6 T S) hr (by rfl) (pk_cons (pv 0) pk_nil)) (pa_cons (pe_lamb TB rfl (List.mem_singleton.mpr rfl) (fun p hp _ => by rw [List.mem_singleton.mp hp]) (by rfl) (by rfl)) (pa_cons (pv 0) pa_nil))))) pa_nil)))
      (pss_cons (ps_expr (pe_bm PySem.F.plainAttrs_list PySem.F.slot_list_append PySem.F.type_list_append mt_append (pv 2) (pa_cons (pe_tup (pa_cons (pe_xnew (mk7 T S) hr (by rfl) (pa_cons (pv 1) pa_nil)) (pa_cons (pe_xnewK (mk7 T S) hr (by rfl) (pk_cons (pv 1) pk_nil)) (pa_cons (pe_lamb TB rfl (List.mem_singleton.mpr rfl) (fun p hp _ => by rw [List.mem_singleton.mp hp]) (by rfl) (by rfl)) (pa_cons (pv 1) pa_nil))))) pa_nil)))
      (pss_cons (ps_expr (pe_bm PySem.F.plainAttrs_list PySem.F.slot_list_append PySem.F.type_list_append mt_append (pv 2) (pa_cons (pe_tup (pa_cons (pe_xnew (mk8 T S) hr (by rfl) (pa_cons (pv 1) pa_nil)) (pa_cons (pe_xnewK (mk8 T S) hr (by rfl) (pk_cons (pv 1) pk_nil)) (pa_cons (pe_lamb TB rfl (List.mem_singleton.mpr rfl) (fun p hp _ => by rw [List.mem_singleton.mp hp]) (by rfl) (by rfl)) (pa_cons (pv 1) pa_nil))))) pa_nil)))
      (pss_cons (ps_expr (pe_bm PySem.F.plainAttrs_list PySem.F.slot_list_append PySem.F.type_list_append mt_append (pv 2) (pa_cons (pe_tup (pa_cons (pe_xnew (mk9 T S) hr (by rfl) (pa_cons (pe_tup (pa_cons (pv 1) (pa_cons pe_str pa_nil))) pa_nil)) (pa_cons (pe_xnewK (mk9 T S) hr (by rfl) (pk_cons (pe_tup (pa_cons (pv 1) (pa_cons pe_str pa_nil))) pk_nil)) (pa_cons (pe_lamb TB rfl (List.mem_singleton.mpr rfl) (fun p hp _ => by rw [List.mem_singleton.mp hp]) (by rfl) (by rfl)) (pa_cons (pe_tup (pa_cons (pv 1) (pa_cons pe_str pa_nil))) pa_nil))))) pa_nil)))
      (pss_cons (ps_expr (pe_bm PySem.F.plainAttrs_list PySem.F.slot_list_append PySem.F.type_list_append mt_append (pv 2) (pa_cons (pe_tup (pa_cons (pe_xnew (mk10 T S) hr (by rfl) (pa_cons (pv 1) pa_nil)) (pa_cons (pe_xnewK (mk10 T S) hr (by rfl) (pk_cons (pv 1) pk_nil)) (pa_cons (pe_lamb TB rfl (List.mem_singleton.mpr rfl) (fun p hp _ => by rw [List.mem_singleton.mp hp]) (by rfl) (by rfl)) (pa_cons (pv 1) pa_nil))))) pa_nil)))
      (pss_cons (ps_expr (pe_bm PySem.F.plainAttrs_list PySem.F.slot_list_append PySem.F.type_list_append mt_append (pv 2) (pa_cons (pe_tup (pa_cons (pe_xnew (mk11 T S) hr (by rfl) (pa_cons (pv 1) pa_nil)) (pa_cons (pe_xnewK (mk11 T S) hr (by rfl) (pk_cons (pv 1) pk_nil)) (pa_cons (pe_lamb TB rfl (List.mem_singleton.mpr rfl) (fun p hp _ => by rw [List.mem_singleton.mp hp]) (by rfl) (by rfl)) (pa_cons (pv 1) pa_nil))))) pa_nil)))
      (pss_cons (ps_expr (pe_bm PySem.F.plainAttrs_list PySem.F.slot_list_append PySem.F.type_list_append mt_append (pv 2) (pa_cons (pe_tup (pa_cons (pe_xnew (mk12 T S) hr (by rfl) (pa_cons (pv 0) pa_nil)) (pa_cons (pe_xnewK (mk12 T S) hr (by rfl) (pk_cons (pv 0) pk_nil)) (pa_cons (pe_lamb TB rfl (List.mem_singleton.mpr rfl) (fun p hp _ => by rw [List.mem_singleton.mp hp]) (by rfl) (by rfl)) (pa_cons (pv 0) pa_nil))))) pa_nil)))
      (pss_cons (ps_expr (pe_bm PySem.F.plainAttrs_list PySem.F.slot_list_append PySem.F.type_list_append mt_append (pv 2) (pa_cons (pe_tup (pa_cons (pe_xnew (mk13 T S) hr (by rfl) (pa_cons (pv 0) pa_nil)) (pa_cons (pe_xnewK (mk13 T S) hr (by rfl) (pk_cons (pv 0) pk_nil)) (pa_cons (pe_lamb TB rfl (List.mem_singleton.mpr rfl) (fun p hp _ => by rw [List.mem_singleton.mp hp]) (by rfl) (by rfl)) (pa_cons (pv 0) pa_nil))))) pa_nil)))
      (pss_cons (ps_expr (pe_bm PySem.F.plainAttrs_list PySem.F.slot_list_append PySem.F.type_list_append mt_append (pv 2) (pa_cons (pe_tup (pa_cons (pe_xnew (mk14 T S) hr (by rfl) (pa_cons (pv 0) pa_nil)) (pa_cons (pe_xnewK (mk14 T S) hr (by rfl) (pk_cons (pv 0) pk_nil)) (pa_cons (pe_lamb TB rfl (List.mem_singleton.mpr rfl) (fun p hp _ => by rw [List.mem_singleton.mp hp]) (by rfl) (by rfl)) (pa_cons (pv 0) pa_nil))))) pa_nil)))
      (pss_cons (ps_expr (pe_bm PySem.F.plainAttrs_list PySem.F.slot_list_append PySem.F.type_list_append mt_append (pv 2) (pa_cons (pe_tup (pa_cons (pe_xnew (mk15 T S) hr (by rfl) (pa_cons (pv 1) pa_nil)) (pa_cons (pe_xnewK (mk15 T S) hr (by rfl) (pk_cons (pv 1) pk_nil)) (pa_cons (pe_lamb TB rfl (List.mem_singleton.mpr rfl) (fun p hp _ => by rw [List.mem_singleton.mp hp]) (by rfl) (by rfl)) (pa_cons (pv 1) pa_nil))))) pa_nil)))
      (pss_cons (ps_expr (pe_bm PySem.F.plainAttrs_list PySem.F.slot_list_append PySem.F.type_list_append mt_append (pv 2) (pa_cons (pe_tup (pa_cons (pe_xnew (mk16 T S) hr (by rfl) (pa_cons (pv 1) pa_nil)) (pa_cons (pe_xnewK (mk16 T S) hr (by rfl) (pk_cons (pv 1) pk_nil)) (pa_cons (pe_lamb TB rfl (List.mem_singleton.mpr rfl) (fun p hp _ => by rw [List.mem_singleton.mp hp]) (by rfl) (by rfl)) (pa_cons (pv 1) pa_nil))))) pa_nil)))
      (pss_one (ps_ret (pe_op op_cat (pv 2) (pe_lst (pa_cons (pe_tup (pa_cons (pe_xnew (mk17 T S) hr (by rfl) (pa_cons (pv 1) pa_nil)) (pa_cons (pe_xnewK (mk17 T S) hr (by rfl) (pk_cons (pv 1) pk_nil)) (pa_cons (pe_lamb TB rfl (List.mem_singleton.mpr rfl) (fun p hp _ => by rw [List.mem_singleton.mp hp]) (by rfl) (by rfl)) (pa_cons (pv 1) pa_nil))))) pa_nil)))))))))))))))))))))), ?_⟩
    refine first_eval (K := K) (C := cA K 0) (f := fA 0) (d := .int fig) hT ?_ ?_ ?_ (by rfl) ?_ fun l t0 H0 e0 T0 z nl => ?_
    · exact mks_var rfl (pl_int _)
    · exact mks_var rfl (pl_int _)
    · exact mks_var rfl (pl_int _)
    · intro _ _ h
      exact ⟨_, _, _, _, _, _, h, ⟨rfl, rfl, rfl, by decide +kernel, rfl, by decide +kernel, by decide +kernel⟩, rfl, by decide, by decide, fun _ => rfl, fun _ _ _ us hl => match us, hl with | [_], _ => rfl⟩
    have M0 : Made K l (upd H0 l (.lst [.ref t0])) [.ref t0] 1 := ⟨upd_same, rfl, fun j v e => by
      cases j with
      | zero =>
        cases e
        refine ⟨t0, rfl, ?_⟩
        refine z.ext (ExtN.of fun b o e => ?_)
        have ne := ne_of_none e nl
        rw [hdo_at (fun z => ne (Option.some.inj z).symm), upd_ne ne]
        exact e
      | succ j => cases e⟩
    have E0 : ExtN H (hdo (some l) (upd H0 l (.lst [.ref t0]))) := fun b o e n => by
      have e1 := e0 b o e n
      have ne := ne_of_none e1 nl
      rw [hdo_at (fun z => ne (Option.some.inj z).symm), upd_ne ne]
      exact e1
    have T0 := T0.ext (H' := upd H0 l (.lst [.ref t0])) fun b o e => by
      rw [upd_ne (ne_of_none e nl)]
      exact e
    refine app_eval (n := 1) (d := .int fig) rfl M0 (by decide) T0 ?_ ?_ ?_ (by rfl) ?_ fun H1 xs1 M1 T1 k1 => ?_
    · exact mks_var rfl (pl_int _)
    · exact mks_var rfl (pl_int _)
    · exact mks_var rfl (pl_int _)
    · intro _ _ h
      exact ⟨_, _, _, _, _, _, h, ⟨rfl, rfl, rfl, by decide +kernel, rfl, by decide +kernel, by decide +kernel⟩, rfl, by decide, by decide, fun _ => rfl, fun _ _ _ us hl => match us, hl with | [_], _ => rfl⟩
    have E1 := k1 _ E0
    refine app_eval (n := 2) (d := .list [.str word]) rfl M1 (by decide) T1 ?_ ?_ ?_ (sh_l1 hw) ?_ fun H2 xs2 M2 T2 k2 => ?_
    · exact mks_l1 (var_at rfl) (pl_str _)
    · exact mks_l1 (var_at rfl) (pl_str _)
    · exact mks_l1 (var_at rfl) (pl_str _)
    · intro _ _ h
      exact ⟨_, _, _, _, _, _, h, ⟨rfl, rfl, rfl, by decide +kernel, rfl, by decide +kernel, by decide +kernel⟩, rfl, by decide, by decide, fun _ => rfl, fun _ _ _ us hl => match us, hl with | [_], _ => rfl⟩
    have E2 := k2 _ E1
    refine app_eval (n := 3) (d := .int fig) rfl M2 (by decide) T2 ?_ ?_ ?_ (by rfl) ?_ fun H3 xs3 M3 T3 k3 => ?_
    · exact mks_var rfl (pl_int _)
    · exact mks_var rfl (pl_int _)
    · exact mks_var rfl (pl_int _)
    · intro _ _ h
      exact ⟨_, _, _, _, _, _, h, ⟨rfl, rfl, rfl, by decide +kernel, rfl, by decide +kernel, by decide +kernel⟩, rfl, by decide, by decide, fun _ => rfl, fun _ _ _ us hl => match us, hl with | [_], _ => rfl⟩
    have E3 := k3 _ E2
    refine app_eval (n := 4) (d := .int fig) rfl M3 (by decide) T3 ?_ ?_ ?_ (by rfl) ?_ fun H4 xs4 M4 T4 k4 => ?_
    · exact mks_var rfl (pl_int _)
    · exact mks_var rfl (pl_int _)
    · exact mks_var rfl (pl_int _)
    · intro _ _ h
      exact ⟨_, _, _, _, _, _, h, ⟨rfl, rfl, rfl, by decide +kernel, rfl, by decide +kernel, by decide +kernel⟩, rfl, by decide, by decide, fun _ => rfl, fun _ _ _ us hl => match us, hl with | [_], _ => rfl⟩
    have E4 := k4 _ E3
    refine app_eval (n := 5) (d := .none) rfl M4 (by decide) T4 ?_ ?_ ?_ (by rfl) ?_ fun H5 xs5 M5 T5 k5 => ?_
    · exact mks_c pl_non
    · exact mks_c pl_non
    · exact mks_c pl_non
    · intro _ _ h
      exact ⟨_, _, _, _, _, _, h, ⟨rfl, rfl, rfl, by decide +kernel, rfl, by decide +kernel, by decide +kernel⟩, rfl, by decide, by decide, fun _ => rfl, fun _ _ _ us hl => match us, hl with | [_], _ => rfl⟩
    have E5 := k5 _ E4
    refine app_eval (n := 6) (d := .int fig) rfl M5 (by decide) T5 ?_ ?_ ?_ (by rfl) ?_ fun H6 xs6 M6 T6 k6 => ?_
    · exact mks_var rfl (pl_int _)
    · exact mks_var rfl (pl_int _)
    · exact mks_var rfl (pl_int _)
    · intro _ _ h
      exact ⟨_, _, _, _, _, _, h, ⟨rfl, rfl, rfl, by decide +kernel, rfl, by decide +kernel, by decide +kernel⟩, rfl, by decide, by decide, fun _ => rfl, fun _ _ _ us hl => match us, hl with | [_], _ => rfl⟩
    have E6 := k6 _ E5
    refine app_eval (n := 7) (d := .str word) rfl M6 (by decide) T6 ?_ ?_ ?_ hw ?_ fun H7 xs7 M7 T7 k7 => ?_
    · exact mks_var rfl (pl_str _)
    · exact mks_var rfl (pl_str _)
    · exact mks_var rfl (pl_str _)
    · intro _ _ h
      exact ⟨_, _, _, _, _, _, h, ⟨rfl, rfl, rfl, by decide +kernel, rfl, by decide +kernel, by decide +kernel⟩, rfl, by decide, by decide, fun _ => rfl, fun _ _ _ us hl => match us, hl with | [_], _ => rfl⟩
    have E7 := k7 _ E6
    refine app_eval (n := 8) (d := .str word) rfl M7 (by decide) T7 ?_ ?_ ?_ hw ?_ fun H8 xs8 M8 T8 k8 => ?_
    · exact mks_var rfl (pl_str _)
    · exact mks_var rfl (pl_str _)
    · exact mks_var rfl (pl_str _)
    · intro _ _ h
      exact ⟨_, _, _, _, _, _, h, ⟨rfl, rfl, rfl, by decide +kernel, rfl, by decide +kernel, by decide +kernel⟩, rfl, by decide, by decide, fun _ => rfl, fun _ _ _ us hl => match us, hl with | [_], _ => rfl⟩
    have E8 := k8 _ E7
    refine app_eval (n := 9) (d := .tuple [.str word, .str "c"]) rfl M8 (by decide) T8 ?_ ?_ ?_ (sh_t2 hw) ?_ fun H9 xs9 M9 T9 k9 => ?_
    · exact mks_t2 (var_at rfl) (pl_str _) (pl_str _)
    · exact mks_t2 (var_at rfl) (pl_str _) (pl_str _)
    · exact mks_t2 (var_at rfl) (pl_str _) (pl_str _)
    · intro _ _ h
      exact ⟨_, _, _, _, _, _, h, ⟨rfl, rfl, rfl, by decide +kernel, rfl, by decide +kernel, by decide +kernel⟩, rfl, by decide, by decide, fun _ => rfl, fun _ _ _ us hl => match us, hl with | [_], _ => rfl⟩
    have E9 := k9 _ E8
    refine app_eval (n := 10) (d := .str word) rfl M9 (by decide) T9 ?_ ?_ ?_ hw ?_ fun H10 xs10 M10 T10 k10 => ?_
    · exact mks_var rfl (pl_str _)
    · exact mks_var rfl (pl_str _)
    · exact mks_var rfl (pl_str _)
    · intro _ _ h
      exact ⟨_, _, _, _, _, _, h, ⟨rfl, rfl, rfl, by decide +kernel, rfl, by decide +kernel, by decide +kernel⟩, rfl, by decide, by decide, fun _ => rfl, fun _ _ _ us hl => match us, hl with | [_], _ => rfl⟩
    have E10 := k10 _ E9
    refine app_eval (n := 11) (d := .str word) rfl M10 (by decide) T10 ?_ ?_ ?_ hw ?_ fun H11 xs11 M11 T11 k11 => ?_
    · exact mks_var rfl (pl_str _)
    · exact mks_var rfl (pl_str _)
    · exact mks_var rfl (pl_str _)
    · intro _ _ h
      exact ⟨_, _, _, _, _, _, h, ⟨rfl, rfl, rfl, by decide +kernel, rfl, by decide +kernel, by decide +kernel⟩, rfl, by decide, by decide, fun _ => rfl, fun _ _ _ us hl => match us, hl with | [_], _ => rfl⟩
    have E11 := k11 _ E10
    refine app_eval (n := 12) (d := .int fig) rfl M11 (by decide) T11 ?_ ?_ ?_ (by rfl) ?_ fun H12 xs12 M12 T12 k12 => ?_
    · exact mks_var rfl (pl_int _)
    · exact mks_var rfl (pl_int _)
    · exact mks_var rfl (pl_int _)
    · intro _ _ h
      exact ⟨_, _, _, _, _, _, h, ⟨rfl, rfl, rfl, by decide +kernel, rfl, by decide +kernel, by decide +kernel⟩, rfl, by decide, by decide, fun _ => rfl, fun _ _ _ us hl => match us, hl with | [_], _ => rfl⟩
    have E12 := k12 _ E11
    refine app_eval (n := 13) (d := .int fig) rfl M12 (by decide) T12 ?_ ?_ ?_ (by rfl) ?_ fun H13 xs13 M13 T13 k13 => ?_
    · exact mks_var rfl (pl_int _)
    · exact mks_var rfl (pl_int _)
    · exact mks_var rfl (pl_int _)
    · intro _ _ h
      exact ⟨_, _, _, _, _, _, h, ⟨rfl, rfl, rfl, by decide +kernel, rfl, by decide +kernel, by decide +kernel⟩, rfl, by decide, by decide, fun _ => rfl, fun _ _ _ us hl => match us, hl with | [_], _ => rfl⟩
    have E13 := k13 _ E12
    refine app_eval (n := 14) (d := .int fig) rfl M13 (by decide) T13 ?_ ?_ ?_ (by rfl) ?_ fun H14 xs14 M14 T14 k14 => ?_
    · exact mks_var rfl (pl_int _)
    · exact mks_var rfl (pl_int _)
    · exact mks_var rfl (pl_int _)
    · intro _ _ h
      exact ⟨_, _, _, _, _, _, h, ⟨rfl, rfl, rfl, by decide +kernel, rfl, by decide +kernel, by decide +kernel⟩, rfl, by decide, by decide, fun _ => rfl, fun _ _ _ us hl => match us, hl with | [_], _ => rfl⟩
    have E14 := k14 _ E13
    refine app_eval (n := 15) (d := .str word) rfl M14 (by decide) T14 ?_ ?_ ?_ hw ?_ fun H15 xs15 M15 T15 k15 => ?_
    · exact mks_var rfl (pl_str _)
    · exact mks_var rfl (pl_str _)
    · exact mks_var rfl (pl_str _)
    · intro _ _ h
      exact ⟨_, _, _, _, _, _, h, ⟨rfl, rfl, rfl, by decide +kernel, rfl, by decide +kernel, by decide +kernel⟩, rfl, by decide, by decide, fun _ => rfl, fun _ _ _ us hl => match us, hl with | [_], _ => rfl⟩
    have E15 := k15 _ E14
    refine app_eval (n := 16) (d := .str word) rfl M15 (by decide) T15 ?_ ?_ ?_ hw ?_ fun H16 xs16 M16 T16 k16 => ?_
    · exact mks_var rfl (pl_str _)
    · exact mks_var rfl (pl_str _)
    · exact mks_var rfl (pl_str _)
    · intro _ _ h
      exact ⟨_, _, _, _, _, _, h, ⟨rfl, rfl, rfl, by decide +kernel, rfl, by decide +kernel, by decide +kernel⟩, rfl, by decide, by decide, fun _ => rfl, fun _ _ _ us hl => match us, hl with | [_], _ => rfl⟩
    have E16 := k16 _ E15
    refine last_eval (n := 17) (d := .str word) rfl M16 (by decide) T16 ?_ ?_ ?_ hw ?_ fun p xs H1 e1 T1 h1 h2 h3 => ?_
    · exact mks_var rfl (pl_str _)
    · exact mks_var rfl (pl_str _)
    · exact mks_var rfl (pl_str _)
    · intro _ _ h
      exact ⟨_, _, _, _, _, _, h, ⟨rfl, rfl, rfl, by decide +kernel, rfl, by decide +kernel, by decide +kernel⟩, rfl, by decide, by decide, fun _ => rfl, fun _ _ _ us hl => match us, hl with | [_], _ => rfl⟩
    exact q p _ _ ((E16.trans hdo_sub).trans e1) T1 h1 h2 h3
end
end K97
set_option Elab.async false
set_option linter.all false
set_option maxRecDepth 100000
set_option maxHeartbeats 4000000
namespace K97
open PySem PySem.Spec PyProof.Rows L2 LamX XQ
section
variable {P : Program} {w : World} {K : PySem.W.Frag} {mg : Str → Option Value} {base : Heap} {f : Addr} {fd : FuncData}
theorem Clss.at_ (c : Clss K) : ∀ i, i < 18 → XRd K (cA K i) ∧ NoAttr K (cA K i) (fA i)
  | 0, _ => ⟨c.a0.rd, c.a0.no⟩
  | 1, _ => ⟨c.a1.rd, c.a1.no⟩
  | 2, _ => ⟨c.a2.rd, c.a2.no⟩
  | 3, _ => ⟨c.a3.rd, c.a3.no⟩
  | 4, _ => ⟨c.a4.rd, c.a4.no⟩
  | 5, _ => ⟨c.a5.rd, c.a5.no⟩
  | 6, _ => ⟨c.a6.rd, c.a6.no⟩
  | 7, _ => ⟨c.a7.rd, c.a7.no⟩
  | 8, _ => ⟨c.a8.rd, c.a8.no⟩
  | 9, _ => ⟨c.a9.rd, c.a9.no⟩
  | 10, _ => ⟨c.a10.rd, c.a10.no⟩
  | 11, _ => ⟨c.a11.rd, c.a11.no⟩
  | 12, _ => ⟨c.a12.rd, c.a12.no⟩
  | 13, _ => ⟨c.a13.rd, c.a13.no⟩
  | 14, _ => ⟨c.a14.rd, c.a14.no⟩
  | 15, _ => ⟨c.a15.rd, c.a15.no⟩
  | 16, _ => ⟨c.a16.rd, c.a16.no⟩
  | 17, _ => ⟨c.a17.rd, c.a17.no⟩
  | n + 18, h => absurd h (by omega)
/-- all that was there stays -/
def Keeps (H H' : Hp) : Prop := ∀ b o, H b = some o → H' b = some o
theorem keeps_new {H : Hp} {p : Addr} {o : HO} (n : H p = none) : Keeps H (upd H p o) := fun b u e => by
  rw [upd_ne (ne_of_none e n)]
  exact e
theorem Keeps.refl (H : Hp) : Keeps H H := fun _ _ e => e
theorem Keeps.trans {H H1 H2 : Hp} (a : Keeps H H1) (b : Keeps H1 H2) : Keeps H H2 := fun c o e => b c o (a c o e)
theorem Keeps.xat {H H' : Hp} (k : Keeps H H') {a C : Addr} {g : Str} {y : V} (h : XAt H a C g y) : XAt H' a C g y := xat_ext (ExtN.of k) h
theorem keepAt {H H1 : Hp} {p : Addr} {o : HO} (k : Keeps H H1) (n : H1 p = none) : Keeps H (upd H1 p o) ∧ upd H1 p o p = some o := ⟨k.trans (keeps_new n), upd_same⟩
def eqs (i : Nat) : List V := (List.range 18).map fun j => .bl (decide (i = j))
def spKinds (K : PySem.W.Frag) : Sp := fun vs H Q _ => ∃ (a : Addr) (i : Nat) (y : V), vs = [.ref a] ∧ i < 18 ∧ XAt H a (cA K i) (fA i) y ∧ ∀ p H1, Keeps H H1 → H1 p = some (.lst (eqs i)) → Q (.ref p) H1
theorem scKinds : FnScope ["_law_error", "_law_found"] ["_law_error"] (defScope s3) := ⟨rfl, rfl, rfl, by decide +kernel, rfl, by decide +kernel, by decide +kernel⟩
theorem ok_kinds (F : FnP K "_law_kinds" s3 f fd) (T : Tx K mg) : FnOk P w K mg base CX0 1 f fd ["_law_error"] (spKinds K) := by
  refine F.ok scKinds (fun vs H Q E h => ?_) (fun cdv A outer s H vs Q E hr h => ?_)
  · obtain ⟨a, i, y, rfl, _⟩ := h
    rfl
  · obtain ⟨a, i, y, rfl, hi, hx, q⟩ := h
    have Kd := T.kinds hi
    obtain ⟨rd, no⟩ := T.clss.at_ i hi
    refine ⟨_, PSs.nox (pss_cons (ps_set (i := 1) scKinds.nd rfl (.inl rfl) (pe_lst (pa_cons (pe_callB call_isX (by rfl) T.free (by decide +kernel) (pa_cons (pv 0) (pa_cons (pe_glob (v := .ref (He.ga K "NoFit")) (by rfl) T.glo rfl) pa_nil))) (pa_cons (pe_callB call_isX (by rfl) T.free (by decide +kernel) (pa_cons (pv 0) (pa_cons (pe_glob (v := .ref (He.ga K "NoForm")) (by rfl) T.glo rfl) pa_nil))) (pa_cons (pe_callB call_isX (by rfl) T.free (by decide +kernel) (pa_cons (pv 0) (pa_cons (pe_glob (v := .ref (He.ga K "NoBook")) (by rfl) T.glo rfl) pa_nil))) (pa_cons (pe_callB call_isX (by rfl) T.free (by decide +kernel) (pa_cons (pv 0) (pa_cons (pe_glob (v := .ref (He.ga K "NoPlace")) (by rfl) T.glo rfl) pa_nil))) pa_nil))))))
      (pss_cons (ps_set (i := 1) scKinds.nd rfl (.inl rfl) (pe_op op_cat (pv 1) (pe_lst (pa_cons (pe_callB call_isX (by rfl) T.free (by decide +kernel) (pa_cons (pv 0) (pa_cons (pe_glob (v := .ref (He.ga K "NoAsk")) (by rfl) T.glo rfl) pa_nil))) (pa_cons (pe_callB call_isX (by rfl) T.free (by decide +kernel) (pa_cons (pv 0) (pa_cons (pe_glob (v := .ref (He.ga K "NoOutcome")) (by rfl) T.glo rfl) pa_nil))) (pa_cons (pe_callB call_isX (by rfl) T.free (by decide +kernel) (pa_cons (pv 0) (pa_cons (pe_glob (v := .ref (He.ga K "NoText")) (by rfl) T.glo rfl) pa_nil))) pa_nil))))))
      (pss_cons (ps_set (i := 1) scKinds.nd rfl (.inl rfl) (pe_op op_cat (pv 1) (pe_lst (pa_cons (pe_callB call_isX (by rfl) T.free (by decide +kernel) (pa_cons (pv 0) (pa_cons (pe_glob (v := .ref (He.ga K "NoRow")) (by rfl) T.glo rfl) pa_nil))) (pa_cons (pe_callB call_isX (by rfl) T.free (by decide +kernel) (pa_cons (pv 0) (pa_cons (pe_glob (v := .ref (He.ga K "NoPage")) (by rfl) T.glo rfl) pa_nil))) (pa_cons (pe_callB call_isX (by rfl) T.free (by decide +kernel) (pa_cons (pv 0) (pa_cons (pe_glob (v := .ref (He.ga K "NoClaim")) (by rfl) T.glo rfl) pa_nil))) pa_nil))))))
      (pss_cons (ps_set (i := 1) scKinds.nd rfl (.inl rfl) (pe_op op_cat (pv 1) (pe_lst (pa_cons (pe_callB call_isX (by rfl) T.free (by decide +kernel) (pa_cons (pv 0) (pa_cons (pe_glob (v := .ref (He.ga K "NoLook")) (by rfl) T.glo rfl) pa_nil))) (pa_cons (pe_callB call_isX (by rfl) T.free (by decide +kernel) (pa_cons (pv 0) (pa_cons (pe_glob (v := .ref (He.ga K "NoName")) (by rfl) T.glo rfl) pa_nil))) (pa_cons (pe_callB call_isX (by rfl) T.free (by decide +kernel) (pa_cons (pv 0) (pa_cons (pe_glob (v := .ref (He.ga K "NoPiece")) (by rfl) T.glo rfl) pa_nil))) pa_nil))))))
      (pss_cons (ps_set (i := 1) scKinds.nd rfl (.inl rfl) (pe_op op_cat (pv 1) (pe_lst (pa_cons (pe_callB call_isX (by rfl) T.free (by decide +kernel) (pa_cons (pv 0) (pa_cons (pe_glob (v := .ref (He.ga K "NoJob")) (by rfl) T.glo rfl) pa_nil))) (pa_cons (pe_callB call_isX (by rfl) T.free (by decide +kernel) (pa_cons (pv 0) (pa_cons (pe_glob (v := .ref (He.ga K "TooMany")) (by rfl) T.glo rfl) pa_nil))) (pa_cons (pe_callB call_isX (by rfl) T.free (by decide +kernel) (pa_cons (pv 0) (pa_cons (pe_glob (v := .ref (He.ga K "There")) (by rfl) T.glo rfl) pa_nil))) pa_nil))))))
      (pss_one (ps_ret (pe_op op_cat (pv 1) (pe_lst (pa_cons (pe_callB call_isX (by rfl) T.free (by decide +kernel) (pa_cons (pv 0) (pa_cons (pe_glob (v := .ref (He.ga K "Busy")) (by rfl) T.glo rfl) pa_nil))) (pa_cons (pe_callB call_isX (by rfl) T.free (by decide +kernel) (pa_cons (pv 0) (pa_cons (pe_glob (v := .ref (He.ga K "Idle")) (by rfl) T.glo rfl) pa_nil))) pa_nil))))))))))), ?_⟩
    refine ⟨_, rfl, a, _, _, y, _, _, _, rfl, hx, rd, ClsV.own _, Kd.own 0 (by decide), _, rfl, a, _, _, y, _, _, _, rfl, hx, rd, ClsV.own _, Kd.own 1 (by decide), _, rfl, a, _, _, y, _, _, _, rfl, hx, rd, ClsV.own _, Kd.own 2 (by decide), _, rfl, a, _, _, y, _, _, _, rfl, hx, rd, ClsV.own _, Kd.own 3 (by decide), (by show 4 ≤ sizeLine; decide), fun l0 n0 => ?_⟩
    obtain ⟨k0, m0⟩ := keepAt (o := .lst (([0, 1, 2, 3] : List Nat).map fun j => V.bl (decide (i = j)))) (Keeps.refl H) n0
    have x1 := k0.xat hx
    refine ⟨_, rfl, _, rfl, a, _, _, y, _, _, _, rfl, x1, rd, ClsV.own _, Kd.own 4 (by decide), _, rfl, a, _, _, y, _, _, _, rfl, x1, rd, ClsV.own _, Kd.own 5 (by decide), _, rfl, a, _, _, y, _, _, _, rfl, x1, rd, ClsV.own _, Kd.own 6 (by decide), (by show 3 ≤ sizeLine; decide), fun b1 nb1 => ?_⟩
    obtain ⟨kb1, mb1⟩ := keepAt (o := .lst (([4, 5, 6] : List Nat).map fun j => V.bl (decide (i = j)))) k0 nb1
    refine ⟨l0, b1, (([0, 1, 2, 3] : List Nat).map fun j => V.bl (decide (i = j))), (([4, 5, 6] : List Nat).map fun j => V.bl (decide (i = j))), rfl, rfl, keeps_new nb1 _ _ m0, mb1, (by show 4 + 3 ≤ sizeLine; decide), fun l1 n1 => ?_⟩
    obtain ⟨k1, m1⟩ := keepAt (o := .lst (([0, 1, 2, 3, 4, 5, 6] : List Nat).map fun j => V.bl (decide (i = j)))) kb1 n1
    have x2 := k1.xat hx
    refine ⟨_, rfl, _, rfl, a, _, _, y, _, _, _, rfl, x2, rd, ClsV.own _, Kd.own 7 (by decide), _, rfl, a, _, _, y, _, _, _, rfl, x2, rd, ClsV.own _, Kd.own 8 (by decide), _, rfl, a, _, _, y, _, _, _, rfl, x2, rd, ClsV.own _, Kd.own 9 (by decide), (by show 3 ≤ sizeLine; decide), fun b2 nb2 => ?_⟩
    obtain ⟨kb2, mb2⟩ := keepAt (o := .lst (([7, 8, 9] : List Nat).map fun j => V.bl (decide (i = j)))) k1 nb2
    refine ⟨l1, b2, (([0, 1, 2, 3, 4, 5, 6] : List Nat).map fun j => V.bl (decide (i = j))), (([7, 8, 9] : List Nat).map fun j => V.bl (decide (i = j))), rfl, rfl, keeps_new nb2 _ _ m1, mb2, (by show 7 + 3 ≤ sizeLine; decide), fun l2 n2 => ?_⟩
    obtain ⟨k2, m2⟩ := keepAt (o := .lst (([0, 1, 2, 3, 4, 5, 6, 7, 8, 9] : List Nat).map fun j => V.bl (decide (i = j)))) kb2 n2
    have x3 := k2.xat hx
    refine ⟨_, rfl, _, rfl, a, _, _, y, _, _, _, rfl, x3, rd, ClsV.own _, Kd.own 10 (by decide), _, rfl, a, _, _, y, _, _, _, rfl, x3, rd, ClsV.own _, Kd.own 11 (by decide), _, rfl, a, _, _, y, _, _, _, rfl, x3, rd, ClsV.own _, Kd.own 12 (by decide), (by show 3 ≤ sizeLine; decide), fun b3 nb3 => ?_⟩
    obtain ⟨kb3, mb3⟩ := keepAt (o := .lst (([10, 11, 12] : List Nat).map fun j => V.bl (decide (i = j)))) k2 nb3
    refine ⟨l2, b3, (([0, 1, 2, 3, 4, 5, 6, 7, 8, 9] : List Nat).map fun j => V.bl (decide (i = j))), (([10, 11, 12] : List Nat).map fun j => V.bl (decide (i = j))), rfl, rfl, keeps_new nb3 _ _ m2, mb3, (by show 10 + 3 ≤ sizeLine; decide), fun l3 n3 => ?_⟩
    obtain ⟨k3, m3⟩ := keepAt (o := .lst (([0, 1, 2, 3, 4, 5, 6, 7, 8, 9, 10, 11, 12] : List Nat).map fun j => V.bl (decide (i = j)))) kb3 n3
    have x4 := k3.xat hx
    refine ⟨_, rfl, _, rfl, a, _, _, y, _, _, _, rfl, x4, rd, ClsV.own _, Kd.own 13 (by decide), _, rfl, a, _, _, y, _, _, _, rfl, x4, rd, ClsV.own _, Kd.own 14 (by decide), _, rfl, a, _, _, y, _, _, _, rfl, x4, rd, ClsV.own _, Kd.own 15 (by decide), (by show 3 ≤ sizeLine; decide), fun b4 nb4 => ?_⟩
    obtain ⟨kb4, mb4⟩ := keepAt (o := .lst (([13, 14, 15] : List Nat).map fun j => V.bl (decide (i = j)))) k3 nb4
    refine ⟨l3, b4, (([0, 1, 2, 3, 4, 5, 6, 7, 8, 9, 10, 11, 12] : List Nat).map fun j => V.bl (decide (i = j))), (([13, 14, 15] : List Nat).map fun j => V.bl (decide (i = j))), rfl, rfl, keeps_new nb4 _ _ m3, mb4, (by show 13 + 3 ≤ sizeLine; decide), fun l4 n4 => ?_⟩
    obtain ⟨k4, m4⟩ := keepAt (o := .lst (([0, 1, 2, 3, 4, 5, 6, 7, 8, 9, 10, 11, 12, 13, 14, 15] : List Nat).map fun j => V.bl (decide (i = j)))) kb4 n4
    have x5 := k4.xat hx
    refine ⟨_, rfl, _, rfl, a, _, _, y, _, _, _, rfl, x5, rd, ClsV.own _, Kd.own 16 (by decide), _, rfl, a, _, _, y, _, _, _, rfl, x5, rd, ClsV.own _, Kd.own 17 (by decide), (by show 2 ≤ sizeLine; decide), fun b5 nb5 => ?_⟩
    obtain ⟨kb5, mb5⟩ := keepAt (o := .lst (([16, 17] : List Nat).map fun j => V.bl (decide (i = j)))) k4 nb5
    refine ⟨l4, b5, (([0, 1, 2, 3, 4, 5, 6, 7, 8, 9, 10, 11, 12, 13, 14, 15] : List Nat).map fun j => V.bl (decide (i = j))), (([16, 17] : List Nat).map fun j => V.bl (decide (i = j))), rfl, rfl, keeps_new nb5 _ _ m4, mb5, (by show 16 + 2 ≤ sizeLine; decide), fun l5 n5 => ?_⟩
    obtain ⟨k5, m5⟩ := keepAt (o := .lst (([0, 1, 2, 3, 4, 5, 6, 7, 8, 9, 10, 11, 12, 13, 14, 15, 16, 17] : List Nat).map fun j => V.bl (decide (i = j)))) kb5 n5
    exact q l5 _ k5 m5
def dues (i : Nat) : List Bool := [decide (i < 8), decide (i < 8), decide (8 ≤ i ∧ i < 11), decide (8 ≤ i ∧ i < 14), decide (i = 12 ∨ i = 13), decide (i = 14), decide (14 < i)]
def dueV (i : Nat) : List V := [.bl (decide ((i : Int) < 8)), .bl (decide ((i : Int) < 8)), .bl (decide ((8 : Int) ≤ i ∧ (i : Int) < 11)), .bl (decide ((8 : Int) ≤ i ∧ (i : Int) < 14)), .bl (inV (.int i) [.int 12, .int 13]), .bl (decide (V.int i = V.int 14)), .bl (decide ((14 : Int) < i))]
theorem dues_eq : ∀ i, i < 18 → dueV i = (dues i).map V.bl
  | 0, _ => rfl
  | 1, _ => rfl
  | 2, _ => rfl
  | 3, _ => rfl
  | 4, _ => rfl
  | 5, _ => rfl
  | 6, _ => rfl
  | 7, _ => rfl
  | 8, _ => rfl
  | 9, _ => rfl
  | 10, _ => rfl
  | 11, _ => rfl
  | 12, _ => rfl
  | 13, _ => rfl
  | 14, _ => rfl
  | 15, _ => rfl
  | 16, _ => rfl
  | 17, _ => rfl
  | n + 18, h => absurd h (by omega)
theorem chain_le_lt {lo hi p : Int} {σ : L2.St} {H : Hp} {Q : VK} {i : Nat} (hσ : σ[i]? = some (some (.int p))) (h : Q (.bl (decide (lo ≤ p ∧ p < hi))) H) :
    tChain (rI0 fun i j => .bl (decide (i ≤ j))) (rI0 fun i j => .bl (decide (i < j))) (tC (.int lo)) (tVar i) (tC (.int hi)) σ H Q := by
  refine ⟨_, hσ, _, _, rfl, rfl, _, rfl, ite2 (fun h1 => ⟨_, _, rfl, rfl, ?_⟩) (fun h1 => ?_)⟩
  · have e : decide (p < hi) = decide (lo ≤ p ∧ p < hi) := decide_eq_decide.mpr ⟨fun z => ⟨of_decide_eq_true h1, z⟩, fun z => z.2⟩
    show Q (.bl (decide (p < hi))) H
    rw [e]
    exact h
  · have e : decide (lo ≤ p ∧ p < hi) = false := decide_eq_false fun z => h1 (decide_eq_true z.1)
    rw [e] at h
    exact h
def spBases (K : PySem.W.Frag) : Sp := fun vs H Q _ => ∃ (a : Addr) (i : Nat) (y : V), vs = [.ref a, .int i] ∧ i < 18 ∧ XAt H a (cA K i) (fA i) y ∧ ∀ H1, Keeps H H1 → Q (.bl true) H1
theorem scBases : FnScope ["_law_error", "_law_place", "_law_due", "_law_found"] ["_law_error", "_law_place"] (defScope s4) := ⟨rfl, rfl, rfl, by decide +kernel, rfl, by decide +kernel, by decide +kernel⟩
theorem dp_bools {H : Hp} : ∀ bs : List Bool, DpAll K H (bs.map V.bl) (bs.map PyData.bool)
  | [] => .nil
  | b :: r => .cons (.bl b) (dp_bools r)
theorem eqv_bools : ∀ bs : List Bool, PyData.eqvAll (bs.map PyData.bool) (bs.map PyData.bool) = true
  | [] => rfl
  | b :: r => by
    show (PyData.eqv (.bool b) (.bool b) && PyData.eqvAll (r.map PyData.bool) (r.map PyData.bool)) = true
    rw [eqv_bools r]
    cases b <;> rfl
theorem ok_bases (F : FnP K "_law_bases" s4 f fd) (T : Tx K mg) : FnOk P w K mg base CX0 1 f fd ["_law_error", "_law_place"] (spBases K) := by
  refine F.ok scBases (fun vs H Q E h => ?_) (fun cdv A outer s H vs Q E hr h => ?_)
  · obtain ⟨a, i, y, rfl, _⟩ := h
    rfl
  · obtain ⟨a, i, y, rfl, hi, hx, q⟩ := h
    have Kd := T.kinds hi
    obtain ⟨rd, no⟩ := T.clss.at_ i hi
    refine ⟨_, PSs.nox (pss_cons (ps_set (i := 2) scBases.nd rfl (.inl rfl) (pe_lst (pa_cons (pe_cmpR op_lt (pv 1) pe_int (nomark _)) (pa_cons (pe_cmpR op_lt (pv 1) pe_int (nomark _)) (pa_cons (pe_chain op_le op_lt pe_int (pv 1) pe_int) (pa_cons (pe_chain op_le op_lt pe_int (pv 1) pe_int) (pa_cons (pe_cmpR op_in_seq (pv 1) (pe_tup (pa_cons pe_int (pa_cons pe_int pa_nil))) (by rfl)) (pa_cons (pe_cmpR op_eq (pv 1) pe_int (nomark _)) (pa_cons (pe_cmpR op_gt (pv 1) pe_int (nomark _)) pa_nil)))))))))
      (pss_cons (ps_set (i := 3) scBases.nd rfl (.inl rfl) (pe_lst (pa_cons (pe_callB call_isX (by rfl) T.free (by decide +kernel) (pa_cons (pv 0) (pa_cons (pe_glob (v := .ref (He.ga K "PageError")) (by rfl) T.glo rfl) pa_nil))) (pa_cons (pe_callB call_isX (by rfl) T.free (by decide +kernel) (pa_cons (pv 0) (pa_cons (pe_bltn (v := .ty "ValueError") (by rfl) T.free (by decide +kernel) rfl) pa_nil))) (pa_cons (pe_callB call_isX (by rfl) T.free (by decide +kernel) (pa_cons (pv 0) (pa_cons (pe_bltn (v := .ty "KeyError") (by rfl) T.free (by decide +kernel) rfl) pa_nil))) pa_nil)))))
      (pss_cons (ps_set (i := 3) scBases.nd rfl (.inl rfl) (pe_op op_cat (pv 3) (pe_lst (pa_cons (pe_callB call_isX (by rfl) T.free (by decide +kernel) (pa_cons (pv 0) (pa_cons (pe_bltn (v := .ty "LookupError") (by rfl) T.free (by decide +kernel) rfl) pa_nil))) (pa_cons (pe_callB call_isX (by rfl) T.free (by decide +kernel) (pa_cons (pv 0) (pa_cons (pe_bltn (v := .ty "IndexError") (by rfl) T.free (by decide +kernel) rfl) pa_nil))) pa_nil)))))
      (pss_one (ps_ret (pe_cmpR (op_eqD hr.units) (pe_op op_cat (pv 3) (pe_lst (pa_cons (pe_callB call_isX (by rfl) T.free (by decide +kernel) (pa_cons (pv 0) (pa_cons (pe_bltn (v := .ty "OverflowError") (by rfl) T.free (by decide +kernel) rfl) pa_nil))) (pa_cons (pe_callB call_isX (by rfl) T.free (by decide +kernel) (pa_cons (pv 0) (pa_cons (pe_bltn (v := .ty "RuntimeError") (by rfl) T.free (by decide +kernel) rfl) pa_nil))) pa_nil)))) (pv 2) (nomark _))))))), ?_⟩
    refine ⟨_, rfl, _, _, rfl, rfl, _, rfl, _, _, rfl, rfl, chain_le_lt rfl (chain_le_lt rfl ⟨_, rfl, (by show 2 ≤ sizeLine; decide), fun tp nt => ⟨tp, _, rfl, .inr (.inl (.inl upd_same)), rfl, rfl, _, rfl, rfl, _, rfl, _, _, rfl, rfl, (by show 7 ≤ sizeLine; decide), fun ld nd => ?_⟩⟩)⟩
    obtain ⟨kt, _⟩ := keepAt (o := .tup [.int 12, .int 13]) (Keeps.refl H) nt
    obtain ⟨kd, md⟩ := keepAt (o := .lst (dueV i)) kt nd
    have x1 := kd.xat hx
    refine ⟨_, rfl, a, _, _, y, _, _, _, rfl, x1, rd, ClsV.own _, Kd.pe, _, rfl, a, _, _, y, _, _, _, rfl, x1, rd, ClsV.ty _, Kd.ve, _, rfl, a, _, _, y, _, _, _, rfl, x1, rd, ClsV.ty _, Kd.ke, (by show 3 ≤ sizeLine; decide), fun l1 n1 => ?_⟩
    obtain ⟨k1, m1⟩ := keepAt (o := .lst [V.bl (decide (i < 8)), V.bl (decide (i < 8)), V.bl (decide (8 ≤ i ∧ i < 11))]) kd n1
    have x2 := k1.xat hx
    refine ⟨_, rfl, _, rfl, a, _, _, y, _, _, _, rfl, x2, rd, ClsV.ty _, Kd.le, _, rfl, a, _, _, y, _, _, _, rfl, x2, rd, ClsV.ty _, Kd.ie, (by show 2 ≤ sizeLine; decide), fun b2 nb2 => ?_⟩
    obtain ⟨kb2, mb2⟩ := keepAt (o := .lst [V.bl (decide (8 ≤ i ∧ i < 14)), V.bl (decide (i = 12 ∨ i = 13))]) k1 nb2
    refine ⟨l1, b2, [V.bl (decide (i < 8)), V.bl (decide (i < 8)), V.bl (decide (8 ≤ i ∧ i < 11))], [V.bl (decide (8 ≤ i ∧ i < 14)), V.bl (decide (i = 12 ∨ i = 13))], rfl, rfl, keeps_new nb2 _ _ m1, mb2, (by show 3 + 2 ≤ sizeLine; decide), fun l2 n2 => ?_⟩
    obtain ⟨k2, m2⟩ := keepAt (o := .lst [V.bl (decide (i < 8)), V.bl (decide (i < 8)), V.bl (decide (8 ≤ i ∧ i < 11)), V.bl (decide (8 ≤ i ∧ i < 14)), V.bl (decide (i = 12 ∨ i = 13))]) kb2 n2
    have x3 := k2.xat hx
    refine ⟨_, rfl, _, rfl, a, _, _, y, _, _, _, rfl, x3, rd, ClsV.ty _, Kd.oe, _, rfl, a, _, _, y, _, _, _, rfl, x3, rd, ClsV.ty _, Kd.re, (by show 2 ≤ sizeLine; decide), fun b3 nb3 => ?_⟩
    obtain ⟨kb3, mb3⟩ := keepAt (o := .lst [V.bl (decide (i = 14)), V.bl (decide (14 < i))]) k2 nb3
    refine ⟨l2, b3, [V.bl (decide (i < 8)), V.bl (decide (i < 8)), V.bl (decide (8 ≤ i ∧ i < 11)), V.bl (decide (8 ≤ i ∧ i < 14)), V.bl (decide (i = 12 ∨ i = 13))], [V.bl (decide (i = 14)), V.bl (decide (14 < i))], rfl, rfl, keeps_new nb3 _ _ m2, mb3, (by show 5 + 2 ≤ sizeLine; decide), fun l3 n3 => ?_⟩
    obtain ⟨k3, m3⟩ := keepAt (o := .lst [V.bl (decide (i < 8)), V.bl (decide (i < 8)), V.bl (decide (8 ≤ i ∧ i < 11)), V.bl (decide (8 ≤ i ∧ i < 14)), V.bl (decide (i = 12 ∨ i = 13)), V.bl (decide (i = 14)), V.bl (decide (14 < i))]) kb3 n3
    refine ⟨_, rfl, .list ((dues i).map PyData.bool), .list ((dues i).map PyData.bool), .lst (.inl (.inl m3)) (dp_bools (dues i)), .lst (.inl (.inl ?_)) (dp_bools (dues i)), rfl, rfl, ?_⟩
    · exact (keeps_new n3 _ _ (keeps_new nb3 _ _ (keeps_new n2 _ _ (keeps_new nb2 _ _ (keeps_new n1 _ _ md))))).trans (congrArg (fun z => some (HO.lst z)) (dues_eq i hi))
    · show Q (.bl (PyData.eqvAll ((dues i).map PyData.bool) ((dues i).map PyData.bool))) _
      rw [eqv_bools]
      exact q _ k3
end
end K97
set_option Elab.async false
set_option linter.all false
set_option maxRecDepth 100000
set_option maxHeartbeats 4000000
namespace K97
open PySem PySem.Spec PyProof.Rows L2 LamX XQ
section
variable {P : Program} {w : World} {K : PySem.W.Frag} {mg : Str → Option Value} {base : Heap} {f : Addr} {fd : FuncData}
def spLaw (K : PySem.W.Frag) : Sp := fun vs H Q _ => ∃ (a : Addr) (ns : List Int), vs = [.ref a] ∧ SqL K H a (ns.map V.int) ∧ ns.length ≤ 63 ∧ Tabs (TM K) H ∧ ∀ H', Q (.bl true) H'
def NL : List Str := ["_law_script", "_law_k", "_law_pool_here", "_law_figure", "_law_word", "_law_place", "_law_one", "_law_other", "_law_reads", "_law_due", "_law_error", "_law_spot"]
theorem scL : FnScope NL ["_law_script"] (defScope s5) := ⟨rfl, rfl, rfl, by decide +kernel, rfl, by decide +kernel, by decide +kernel⟩
theorem iteN {b : Bool} {A B : Prop} (h : b = true) (q : B) : if (!b) = true then A else B := by
  rw [h]
  exact iteF q
theorem ext_keeps {H0 H H' : Hp} (e : ExtN H0 H) (k : Keeps H H') : ExtN H0 H' := e.trans (ExtN.of k)
theorem ext_setl {H0 H H' : Hp} {p : Addr} {o : HO} (e : ExtN H0 H) (n : H p = none) (k : Keeps H H') : ExtN H0 (upd H' p o) := fun b u h t => by
  have z := e b u h t
  rw [upd_ne (ne_of_none z n)]
  exact k _ _ z
theorem sql_ext {H H' : Hp} {a : Addr} {xs : List V} (e : ExtN H H') (h : SqL K H a xs) : SqL K H' a xs := by
  rcases h with (h | ⟨o, h⟩) | h
  · exact .inl (.inl (e _ _ h (fun _ z => nomatch z)))
  · exact .inl (.inr ⟨o, e _ _ h (fun _ z => nomatch z)⟩)
  · exact .inr h
theorem word_at {r : Int} (h0 : 0 ≤ r) (h1 : r < 5) : ∃ x : Str, ([.str "p", .str "zz", .str "abcdefgh", .str "q", .str ""] : List V)[r.toNat]? = some (.str x) ∧ SeqAt.shaped (.str x) = true := by
  have e : r.toNat = 0 ∨ r.toNat = 1 ∨ r.toNat = 2 ∨ r.toNat = 3 ∨ r.toNat = 4 := by omega
  rcases e with e | e | e | e | e <;> rw [e] <;> exact ⟨_, rfl, by decide +kernel⟩
theorem sh_bools {i : Nat} : SeqAt.shaped (.list (((List.range 18).map fun j => decide (i = j)).map PyData.bool)) = true := rfl
theorem eqs_bl {i : Nat} : eqs i = ((List.range 18).map fun j => decide (i = j)).map V.bl := rfl
structure DefsL (P : Program) (w : World) (K : PySem.W.Frag) (mg : Str → Option Value) (base : Heap) : Prop where
  pool : ∃ fd, FnP K "_law_pool" s0 (He.ga K "_law_pool") fd
  take : ∃ fd, FnP K "_law_take" s1 (He.ga K "_law_take") fd
  made : ∃ fd, FnP K "_law_made" s2 (He.ga K "_law_made") fd
  kinds : ∃ fd, FnP K "_law_kinds" s3 (He.ga K "_law_kinds") fd
  bases : ∃ fd, FnP K "_law_bases" s4 (He.ga K "_law_bases") fd
theorem ok_law (F : FnP K "law" s5 f fd) (T : Tx K mg) (S : He.SaysD [] fn K) (TB : TabB base mg (He.cT K ("_law_made", none)).1 (He.cT K ("_law_made", none)).2) : FnOk P w K mg base CX0 5 f fd ["_law_script"] (spLaw K) := by
  obtain ⟨fd0, F0⟩ := S.def_ 0 (d := d0) rfl
  obtain ⟨fd1, F1⟩ := S.def_ 1 (d := d1) rfl
  obtain ⟨fd2, F2⟩ := S.def_ 2 (d := d2) rfl
  obtain ⟨fd3, F3⟩ := S.def_ 3 (d := d3) rfl
  obtain ⟨fd4, F4⟩ := S.def_ 4 (d := d4) rfl
  have F0 : FnP K "_law_pool" s0 (He.ga K "_law_pool") fd0 := F0
  have F1 : FnP K "_law_take" s1 (He.ga K "_law_take") fd1 := F1
  have F2 : FnP K "_law_made" s2 (He.fAd K ("_law_made", none)) fd2 := F2
  have F3 : FnP K "_law_kinds" s3 (He.ga K "_law_kinds") fd3 := F3
  have F4 : FnP K "_law_bases" s4 (He.ga K "_law_bases") fd4 := F4
  have G0 : FnOk P w K mg base CX0 1 _ fd0 ["_law_script", "_law_k"] (spPool K) := ok_pool F0 T
  have G1 : FnOk P w K mg base CX0 1 _ fd1 ["_law_pool_here", "_law_top"] spTake := ok_take F1
  have G2 : FnOk P w K mg base CX0 4 _ fd2 ["_law_figure", "_law_word"] (spMade K) := ok_made F2 T S TB
  have G3 : FnOk P w K mg base CX0 1 _ fd3 ["_law_error"] (spKinds K) := ok_kinds F3 T
  have G4 : FnOk P w K mg base CX0 1 _ fd4 ["_law_error", "_law_place"] (spBases K) := ok_bases F4 T
  have b0 : Binds K fd0 ["_law_script", "_law_k"] [] := F0.bindsN fun _ _ _ _ _ _ us hl => match us, hl with | [_, _], _ => rfl
  have b1 : Binds K fd1 ["_law_pool_here", "_law_top"] [] := F1.bindsN fun _ _ _ _ _ _ us hl => match us, hl with | [_, _], _ => rfl
  have b2 : Binds K fd2 ["_law_figure", "_law_word"] [] := F2.bindsN fun _ _ _ _ _ _ us hl => match us, hl with | [_, _], _ => rfl
  have b3 : Binds K fd3 ["_law_error"] [] := F3.bindsN fun _ _ _ _ _ _ us hl => match us, hl with | [_], _ => rfl
  have b4 : Binds K fd4 ["_law_error", "_law_place"] [] := F4.bindsN fun _ _ _ _ _ _ us hl => match us, hl with | [_, _], _ => rfl
  refine F.ok scL (fun vs H Q E h => ?_) (fun cdv A outer s H vs Q E hr h => ?_)
  · obtain ⟨a, ns, rfl, _⟩ := h
    rfl
  · obtain ⟨a, ns, rfl, hS, hlen, hT, q⟩ := h
    have hr1 : Room 1 _ := hr.mono (by decide)
    have hr2 : Room 2 _ := hr.mono (by decide)
    refine ⟨_, PSs.nox (pss_cons (ps_for PassesOwn.never rfl (pi_range1 (by rfl) T.free (pa_cons (pe_callB (call_max2 rfl) (by rfl) T.free (by decide +kernel) (pa_cons pe_int (pa_cons (pe_callB (call_min2 rfl) (by rfl) T.free (by decide +kernel) (pa_cons (pe_callB call_len (by rfl) T.free boot_len (pa_cons (pv 0) pa_nil)) (pa_cons pe_int pa_nil))) pa_nil))) pa_nil)) (pg_name (i := 1) scL.nd rfl (.inl rfl))
      (pss_cons (ps_set (i := 2) scL.nd rfl (.inl rfl) (pe_call G0 hr1 (by rfl) T.glo F0.kp b0 .nil pass0 (pa_cons (pv 0) (pa_cons (pv 1) pa_nil))))
      (pss_cons (ps_par (i := 3) (j := 4) rfl scL.nd rfl rfl (by decide) rfl rfl (pa_cons (pe_call G1 hr1 (by rfl) T.glo F1.kp b1 .nil pass0 (pa_cons (pv 2) (pa_cons pe_int pa_nil)))
        (pa_cons (pe_ix ix_list (pe_lst (pa_cons pe_str (pa_cons pe_str (pa_cons pe_str (pa_cons pe_str (pa_cons pe_str pa_nil)))))) (pe_call G1 hr1 (by rfl) T.glo F1.kp b1 .nil pass0 (pa_cons (pv 2) (pa_cons pe_int pa_nil))) (fun _ _ => rfl)) pa_nil)) (by rfl))
      (pss_one (ps_for PassesOwn.never rfl (pi_enum (by rfl) T.free (pa_cons (pe_call G2 hr (by rfl) T.glo F2.kp b2 .nil pass0 (pa_cons (pv 3) (pa_cons (pv 4) pa_nil))) pa_nil))
          (pg_tup rfl (pgs_cons (pg_name (i := 5) scL.nd rfl (.inr rfl)) (pgs_cons (pg_tup rfl (pgs_cons (pg_name (i := 6) scL.nd rfl (.inl rfl)) (pgs_cons (pg_name (i := 7) scL.nd rfl (.inl rfl)) (pgs_cons (pg_name (i := 8) scL.nd rfl (.inl rfl)) (pgs_cons (pg_name (i := 9) scL.nd rfl (.inl rfl)) pgs_nil))))) pgs_nil)))
        (pss_cons (ps_if (PW.pt (pw_or (pt_cmpR (op_neD hr.units) (pe_reads (i := 8) hr2 rfl (.inl rfl) (pa_cons (pv 6) pa_nil)) (pv 9) (nomark _)) (pw_or1 (pt_cmpR (op_neD hr.units) (pe_reads (i := 8) hr2 rfl (.inl rfl) (pa_cons (pv 7) pa_nil)) (pv 9) (nomark _))))) (pss_one (ps_ret pe_bl)) pss_nil)
        (pss_one (ps_for PassesOwn.never rfl (pi_list (pe_lst (pa_cons (pv 6) (pa_cons (pv 7) pa_nil)))) (pg_name (i := 10) scL.nd rfl (.inl rfl))
          (pss_one (ps_if (PW.pt (pw_or (pt_cmpR (op_neD hr.units) (pe_call G3 hr1 (by rfl) T.glo F3.kp b3 .nil pass0 (pa_cons (pv 10) pa_nil)) (pe_lc (own := [("_law_spot", 11)]) (g := gName 11) (tt := tYes) rfl scL.nd (pi_range1 (by rfl) T.free (pa_cons pe_int pa_nil)) (blkOk_by (N := NL) (sc := defScope s5) (by decide +kernel))
              (fun _ _ _ _ _ => pg_name (i := 11) scL.nd rfl (Or.inl rfl)) (fun _ _ _ _ _ => pts_nil) (fun _ _ _ _ _ => pe_cmpR op_eq (pv 11) (pv 5) (nomark _))) (nomark _))
            (pw_or1 (pt_not (pt_val (pe_call G4 hr1 (by rfl) T.glo F4.kp b4 .nil pass0 (pa_cons (pv 10) (pa_cons (pv 5) pa_nil)))))))) (pss_one (ps_ret pe_bl)) pss_nil))))))))))
      (pss_one (ps_ret pe_bl))), ?_⟩
    refine ⟨_, rfl, _, _, rfl, .inl ⟨_, hS, rfl⟩, _, _, rfl, _, _, rfl, _, rfl, ?_⟩
    have hJ : ∀ m : Int, -(2 ^ 62) ≤ (if (if (6 : Int) < m then 6 else m) > 1 then (if (6 : Int) < m then 6 else m) else 1) ∧ (if (if (6 : Int) < m then 6 else m) > 1 then (if (6 : Int) < m then 6 else m) else 1) ≤ 6 := fun m => by
      split <;> split <;> omega
    refine ⟨(hJ _).1, Int.lt_of_le_of_lt (hJ _).2 (by decide), ?_⟩
    have h6 := (hJ ((ns.map V.int).length : Int)).2
    refine for_range (fun _ σ H' => (∃ v1 v2 v3 v4 v5 v6 v7 v8 v9 v10 v11, σ = [some (.ref a), v1, v2, v3, v4, v5, v6, v7, v8, v9, v10, v11]) ∧ ExtN H H' ∧ Tabs (TM K) H') ⟨⟨_, _, _, _, _, _, _, _, _, _, _, rfl⟩, ExtN.refl _, hT⟩ ?_ (fun σ H' _ => q H')
    rintro k σ H1 hk ⟨⟨v1, v2, v3, v4, v5, v6, v7, v8, v9, v10, v11, rfl⟩, e1, T1⟩
    have hk6 : (k : Int) < 6 := Int.lt_of_lt_of_le (Int.lt_toNat.mp hk) h6
    -- the pool, the two draws
    refine ⟨_, rfl, _, rfl, a, ns, (0 : Int) + (k : Int), rfl, sql_ext e1 hS, by omega, by omega, fun p x y H2 np kp hp hx hy hy2 => ?_⟩
    have e2 := ext_keeps e1 kp
    have T2 := T1.ext kp
    refine ⟨_, rfl, p, 100, x, y, rfl, hp, hx, hy, by omega, by decide, by decide, fun r x' y' r0 r1 hx' hy' hy2' => ?_⟩
    refine ⟨(by show 5 ≤ sizeLine; decide), fun ql nq => ?_⟩
    have npq : p ≠ ql := fun z => by
      rw [← z, upd_same] at nq
      cases nq
    refine ⟨_, rfl, p, 5, x', y', rfl, (by rw [upd_ne npq, upd_same]), hx', hy', hy2', by decide, by decide, fun r2 x2 y2 r20 r21 hx2 hy2' hy22 => ?_⟩
    obtain ⟨word, hw, shw⟩ := word_at r20 r21
    refine ⟨ql, _, r2, .str word, rfl, rfl, SqL.of (by rw [upd_ne npq.symm, upd_same]), at_of (j := r2.toNat) (by omega) hw, _, _, rfl, ?_⟩
    -- the rows
    have nq2 : H2 ql = none := by
      rw [upd_ne npq.symm] at nq
      exact nq
    have e3 : ExtN H (upd (upd (upd H2 p (.lst [.int x', .int y'])) ql (.lst [.str "p", .str "zz", .str "abcdefgh", .str "q", .str ""])) p (.lst [.int x2, .int y2])) := by
      refine ext_setl (H := H1) (H' := upd (upd H2 p (.lst [.int x', .int y'])) ql (.lst [.str "p", .str "zz", .str "abcdefgh", .str "q", .str ""])) e1 np fun b o e => ?_
      have eb := kp b o e
      rw [upd_ne (ne_of_none eb nq2), upd_ne (ne_of_none e np)]
      exact eb
    have T3 : Tabs (TM K) (upd (upd (upd H2 p (.lst [.int x', .int y'])) ql (.lst [.str "p", .str "zz", .str "abcdefgh", .str "q", .str ""])) p (.lst [.int x2, .int y2])) := by
      have t1 : Tabs (TM K) (upd H2 p (.lst [.int x', .int y'])) := tabs_setl hp T2
      have t2 : Tabs (TM K) (upd (upd H2 p (.lst [.int x', .int y'])) ql (.lst [.str "p", .str "zz", .str "abcdefgh", .str "q", .str ""])) := t1.ext (keeps_new nq)
      exact tabs_setl (xs := [.int x', .int y']) (by rw [upd_ne npq, upd_same]) t2
    refine ⟨_, rfl, _, rfl, r, word, rfl, shw, T3, fun pl xs H4 e4 T4 h1 h2 h3 => ?_⟩
    have e4 := e3.trans e4
    refine ⟨pl, xs, rfl, SqL.of h1, ?_⟩
    refine for_it walk_enum (fun _ σ H' => (∃ v1 v2 v3 v4 v5 v6 v7 v8 v9 v10 v11, σ = [some (.ref a), v1, v2, v3, v4, v5, v6, v7, v8, v9, v10, v11]) ∧ Keeps H4 H') ⟨⟨_, _, _, _, _, _, _, _, _, _, _, rfl⟩, Keeps.refl _⟩ (fun i σ H' _ z => SqL.of (z.2 _ _ h1)) ?_ (fun σ H' z => ⟨z.1, ext_keeps e4 z.2, T4.ext z.2⟩)
    rintro i v σ H5 H6 hi ⟨⟨w1, w2, w3, w4, w5, w6, w7, w8, w9, w10, w11, rfl⟩, k5⟩ ⟨tp, ix, row, rfl, ntp, rfl, eix, erow⟩
    cases eix
    obtain ⟨tr, rfl, hrow⟩ := h3 i row erow
    have k6 : Keeps H4 (upd H5 tp (.tup [.int (i : Nat), .ref tr])) := k5.trans (keeps_new ntp)
    obtain ⟨ea, eb, lf, y1, y2, y3, d, ht, xa, xb, hL, da, db, dc, shd⟩ := hrow.ext (ExtN.of k6)
    refine ⟨tp, _, rfl, SqT.of upd_same, rfl, _, _, rfl, _, _, rfl, ⟨tr, _, rfl, SqT.of ht, rfl, _, _, rfl, _, _, rfl, _, _, rfl, _, _, rfl, rfl, rfl, ?_⟩⟩
    have hi18 : i < 18 := by rw [h2] at hi; exact hi
    obtain ⟨rd, no⟩ := T.clss.at_ i hi18
    have eqd : PyData.eqv d d = true := SeqAt.eqv_refl d (SeqAt.canLay_of_shaped shd)
    refine ⟨lf, fA i, rfl, hL, _, rfl, ea, cA K i, y1, rfl, ExtN.refl _, xa, rd, no, _, rfl, d, d, da, dc, shd, shd, _, rfl, iteN eqd ?_⟩
    refine ⟨lf, fA i, rfl, hL, _, rfl, eb, cA K i, y2, rfl, ExtN.refl _, xb, rd, no, _, rfl, d, d, db, dc, shd, shd, _, rfl, iteN eqd ?_⟩
    -- both errors
    refine ⟨_, rfl, _, rfl, (by show 2 ≤ sizeLine; decide), fun lq nlq => ⟨lq, rfl, ⟨_, SqL.of upd_same⟩, ?_⟩⟩
    have k7 := keeps_new (o := .lst [.ref ea, .ref eb]) nlq
    refine for_list (xs := [.ref ea, .ref eb]) (fun _ σ H' => (∃ v10 v11, σ = [some (.ref a), w1, w2, w3, w4, some (.int (i : Nat)), some (.ref ea), some (.ref eb), some (.ref lf), some y3, v10, v11]) ∧ Keeps (upd (upd H5 tp (.tup [.int (i : Nat), .ref tr])) lq (.lst [.ref ea, .ref eb])) H') ⟨⟨_, _, rfl⟩, Keeps.refl _⟩ (fun _ σ H' _ z => SqL.of (z.2 _ _ upd_same)) ?_ (fun σ H' z => ⟨?_, (k6.trans k7).trans z.2⟩)
    · rintro j x σ H7 hx ⟨⟨u10, u11, rfl⟩, k8⟩
      have k9 := k7.trans k8
      obtain ⟨e, y, rfl, xe⟩ : ∃ e y, x = V.ref e ∧ XAt (upd H5 tp (.tup [.int (i : Nat), .ref tr])) e (cA K i) (fA i) y := by
        cases j with
        | zero =>
          cases hx
          exact ⟨ea, y1, rfl, xa⟩
        | succ j =>
          cases j with
          | zero =>
            cases hx
            exact ⟨eb, y2, rfl, xb⟩
          | succ j => cases hx
      have xe := k9.xat xe
      refine ⟨_, rfl, e, i, y, rfl, hi18, xe, fun p1 H8 k10 hp1 => ?_⟩
      refine ⟨18, rfl, by decide, by decide, fun D nD => ?_⟩
      refine lc_range (fun n H' => Keeps H8 H' ∧ H' D = some (.lst ((List.range n).map fun j => .bl (decide (V.int (0 + (j : Nat)) = V.int (i : Nat)))))) ⟨keeps_new nD, upd_same⟩ (fun n H' hn z => ?_) (fun H' z => ?_)
      · refine ⟨rfl, _, rfl, _, rfl, rfl, _, z.2, (by rw [List.length_map, List.length_range]; exact Nat.lt_trans hn (by show (18 : Int).toNat < sizeLine; decide)), fun b o eb => ?_, ?_⟩
        · rw [upd_ne (ne_of_none eb nD)]
          exact z.1 b o eb
        · rw [upd_same, List.range_succ, List.map_append]
          rfl
      · have e18 : ((List.range 18).map fun j => V.bl (decide (V.int (0 + (j : Nat)) = V.int (i : Nat)))) = ((List.range 18).map fun j => decide (i = j)).map V.bl := by
          rw [List.map_map]
          refine List.map_congr_left fun j _ => ?_
          show V.bl _ = V.bl _
          congr 1
          refine decide_eq_decide.mpr ⟨fun h => ?_, fun h => ?_⟩
          · injection h with h
            omega
          · rw [h, Int.zero_add]
        have z2 : H' D = some (.lst (((List.range 18).map fun j => decide (i = j)).map V.bl)) := z.2.trans (congrArg (fun z => some (HO.lst z)) e18)
        refine ⟨.list (((List.range 18).map fun j => decide (i = j)).map PyData.bool), .list (((List.range 18).map fun j => decide (i = j)).map PyData.bool), .lst (.inl (.inl (z.1 _ _ hp1))) (dp_bools ((List.range 18).map fun j => decide (i = j))), .lst (.inl (.inl z2)) (dp_bools _), sh_bools, sh_bools, _, rfl, iteN (eqv_bools _) ?_⟩
        refine ⟨_, rfl, _, rfl, e, i, y, rfl, hi18, (k10.trans z.1).xat xe, fun H9 k11 => ⟨true, rfl, ?_⟩⟩
        exact ⟨⟨_, _, rfl⟩, ((k8.trans k10).trans z.1).trans k11⟩
    · obtain ⟨⟨u10, u11, rfl⟩, _⟩ := z
      exact ⟨_, _, _, _, _, _, _, _, _, _, _, rfl⟩
end
end K97
set_option Elab.async false
set_option linter.all false
set_option maxRecDepth 100000
set_option maxHeartbeats 0
namespace K97
open PySem PySem.Spec PyProof.Rows L2 LamX XQ
theorem lawAt {w : World} {mg : Str → Option Value} {f : Addr} {h : Heap} {K : PySem.W.Frag} (X : K.In h) (G : h.Ns mainGlobals mg) (hfa : mg ("law" : Str) = some (.ref f)) (c : HQ.Says fn [("_law_made", none)] ex h K) :
    LawAtS PySem.Challenge.rw_pagesofproofs_k97_refusals_made w K CX0 5 63 "_law_script" mg f h := by
  have T : Tx K mg := ⟨⟨h, X, G⟩, c.more⟩
  have e := hfa.symm.trans (T.glo (x := "law"))
  cases e
  obtain ⟨fd, F⟩ := c.defs.def_ 5 (d := d5) rfl
  have F : FnP K "law" s5 (He.ga K "law") fd := F
  have m1 : (("_law_made", none) : He.Defn) ∈ ([("_law_made", none)] : List He.Defn) := List.mem_singleton.mpr rfl
  have b := FunD.bindsA (ps := ["_law_script"]) F fun _ _ _ _ _ _ us hl => match us, hl with | [_], _ => rfl
  refine ⟨fd, [He.cT K ("_law_made", none)], spLaw K, fun p hp => ?_, fun p hp => ?_, fun p hp => ?_, fun s v => b s [v] rfl, fun H a ns hl _ hT hS => ⟨a, ns, rfl, hS, hl, fun p hp => ?_, fun _ => rfl⟩, fun base KB GB TB => ok_law F T c.defs (TB _ (List.mem_singleton.mpr rfl))⟩
  · rw [List.mem_singleton.mp hp]
    exact c.empty _ m1
  · rw [List.mem_singleton.mp hp]
    exact c.out _ m1
  · rw [List.mem_singleton.mp hp]
    exact PySem.W.codeHd_of_K X (c.hd _ m1)
  · rw [List.mem_singleton.mp hp]
    exact TabS.nil (hT _ (List.mem_singleton.mpr rfl))
end K97
open PySem PySem.W PySem.Calls PyProof.Rows
theorem PySem.Challenge.cw_pagesofproofs_k97_refusals_made_holds : PySem.Challenge.rw_pagesofproofs_k97_refusals_made.Holds := by
  w_on; o_law
  refine HandSHeadRun.head_any (r := OpenLaw.row PySem.Challenge.rw_pagesofproofs_k97_refusals_made) (q := view (OpenLaw.row PySem.Challenge.rw_pagesofproofs_k97_refusals_made).prog [26]) (H := K97.hk) (ob := K97.ob) (M := 6000) (loose := K97.loose) (d := HandSHeadRun.topDef (OpenLaw.row PySem.Challenge.rw_pagesofproofs_k97_refusals_made).prog 26) (kwd := []) K97.ob_eq
    (by kernel_rfl) (fun s => by kernel_rfl) K97.run (by kernel_rfl) (by kernel_rfl) (by kernel_rfl) (by rfl) (by first | assumption | decide +kernel) (by decide +kernel) ⟨rfl, rfl, rfl, rfl, rfl, by decide +kernel⟩ ?hw ?hc
  case hw => w_witness2
  case hc =>
    refine LamX.walk_ofTsE (l := PySem.Challenge.rw_pagesofproofs_k97_refusals_made) (n := 63) (k := 5) (x := "_law_script") (CX := fun _ => L2.CX0) rfl (by decide) (by kernel_rfl) ⟨rfl, by decide, by decide⟩ ?F (fun _ _ _ _ _ z => z)
    intro w mg fa h Y G hmg0
    obtain ⟨K, KX, c⟩ := Y
    have hmg : mg ("law" : PySem.Str) = some (.ref fa) := by
      have e : (HandSHeadRun.topDef (OpenLaw.row PySem.Challenge.rw_pagesofproofs_k97_refusals_made).prog 26).name = ("law" : PySem.Str) := by kernel_rfl
      rw [← e]
      exact hmg0
    exact ⟨K, KX, K97.lawAt KX G hmg c⟩
