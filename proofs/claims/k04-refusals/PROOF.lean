import PyProof.Rows.All
import Wide.All
import OpenK.AllK
import Wide.FinOn
import PyProof.ExcBaseAll.ValueError
import PyProof.ExcBaseAll.IndexError
import PyProof.ExcBaseAll.LookupError
import PyProof.ExcBaseAll.RuntimeError
import PyProof.ExcBaseAll.ArithmeticError
import PyProof.ExcBaseAll.OverflowError
import PyProof.InstStoreFacts
import HandS.ForMost
import HandS.IsInst
import HandS.TupAny
import HandS.WordsExc
import HandS.ExcInit
import HandS.ExcValue
import HandS.ExcField
import HandS.ExcIs
import HandS.Defaults
import HandS.Deep
import HandS.More
import HandS.RaiseMore
import HandS.Flow
import HandS.CallSlots
import HandS.NoneIn
import HandS.Style
import PyProof.StrLawsRepr
import PyProof.FitsInt
import KE.IntTextLaws
import PySem.Challenge.RW_websplit_k04_refusals_by_their_kinds
set_option Elab.async false
set_option linter.all false
set_option maxRecDepth 100000
/-! Xc0: the classes of Python's own under which a program's refusals stand. -/
namespace Mir
open PySem L2 PyProof.Rows
/-- the classes of Python's own -/
inductive Xb where
  | val | index | lookup | run | arith | over | key
  deriving DecidableEq
def Xb.nm : Xb → String
  | .val => "ValueError" | .index => "IndexError" | .lookup => "LookupError" | .run => "RuntimeError" | .arith => "ArithmeticError" | .over => "OverflowError" | .key => "KeyError"
def Xb.new : Xb → String
  | .val => "ValueError.__new__" | .index => "IndexError.__new__" | .lookup => "LookupError.__new__" | .run => "RuntimeError.__new__" | .arith => "ArithmeticError.__new__" | .over => "OverflowError.__new__" | .key => "LookupError.__new__"
def Xb.ini : Xb → String
  | .val => "ValueError.__init__" | .index => "IndexError.__init__" | .lookup => "LookupError.__init__" | .run => "RuntimeError.__init__" | .arith => "ArithmeticError.__init__" | .over => "OverflowError.__init__" | .key => "KeyError.__init__"
def excTail : List Value := [.type "Exception", .type "BaseException", .type "object"]
def Xb.bm : Xb → List Value
  | .val => [.type "ValueError", .type "Exception", .type "BaseException", .type "object"]
  | .index => [.type "IndexError", .type "LookupError", .type "Exception", .type "BaseException", .type "object"]
  | .lookup => [.type "LookupError", .type "Exception", .type "BaseException", .type "object"]
  | .run => [.type "RuntimeError", .type "Exception", .type "BaseException", .type "object"]
  | .arith => [.type "ArithmeticError", .type "Exception", .type "BaseException", .type "object"]
  | .over => [.type "OverflowError", .type "ArithmeticError", .type "Exception", .type "BaseException", .type "object"]
  | .key => [.type "KeyError", .type "LookupError", .type "Exception", .type "BaseException", .type "object"]
/-- a stands under b -/
def Xb.le : Xb → Xb → Bool
  | .index, .lookup => true
  | .over, .arith => true
  | .key, .lookup => true
  | a, b => decide (a = b)
/-- what is known of a class of Python's own that own classes stand under -/
structure XB (B newId initId : String) (bm : List Value) : Prop where
  call : ∀ {prog : Program} {w : World} {A : Around} {R : Result → Shared → Prop} {h : Heap} {g : Array GenState} {d : Drawn} {t : Nat} {os : OsState} {nm q : Str} {C N : Addr} {bs : List Value} {hdct : Bool} {sn : List Str} {sub : List Value} {ab : Bool} {col : Option Bool} {dd : Option Addr}
    {k0 k1 k2 k3 k5 : Option Value} {rest : List Value} {fI : Addr}, h.get? C = some (excClassObj nm q C N bs bm hdct sn sub ab col dd k0 k1 k2 k3 k5 newId) → PySem.W.Looks (model prog w) h (typeLookup (.ref C) "__init__") (some (.ref fI)) →
    (∀ self, PySem.W.Looks (model prog w) h (bindSpecial (.ref fI) self) (.ref fI, [self])) → rest.length ≤ sizeLine →
    codeAny (model prog w) (A.under (.builtin "type.__call__" ⟨.ref C :: rest, []⟩)) (.call (.ref fI) ⟨.ref (h.objs.size + 1) :: rest, []⟩) (PySem.W.InitBack (h.objs.size + 1) R) ⟨(h.push (PySem.W.kdv_tup rest)).push (PySem.HandSPX.excO C h.objs.size), g, d, t, os⟩ →
    codeAny (model prog w) A (.call (.ref C) ⟨rest, []⟩) R ⟨h, g, d, t, os⟩
  init : ∀ {prog : Program} {w : World} {A : Around} {R : Result → Shared → Prop} {h : Heap} {g : Array GenState} {d : Drawn} {t : Nat} {os : OsState} {nm q : Str} {C N : Addr} {bs : List Value} {hdct : Bool} {sn : List Str} {sub : List Value} {ab : Bool} {col : Option Bool} {dd : Option Addr}
    {k0 k1 k2 k3 k5 : Option Value} {rest : List Value} {e t0 : Addr}, h.get? C = some (excClassObj nm q C N bs bm hdct sn sub ab col dd k0 k1 k2 k3 k5 newId) → h.get? e = some (PySem.HandSPX.excO C t0) → rest.length ≤ sizeLine →
    (∀ h' t1, (∀ b o, b ≠ e → h.get? b = some o → h'.get? b = some o) → h'.get? e = some (PySem.HandSPX.excO C t1) → R (.ok (.ret .none)) ⟨h', g, d, t, os⟩) → codeAny (model prog w) A (.call (.builtin initId) ⟨.ref e :: rest, []⟩) R ⟨h, g, d, t, os⟩
  pass : ∀ self : Value, refuseLoop self "__setattr__" bm = pure ()
  obj : bm.contains (.type "object") = true
  ne : bm.isEmpty = false
  typ : typeOf (.type B) = pure (.type "type")
  stub : Manifest.isStub B = false
  hand : PySem.W.handedIn (.builtin initId) = true
  boot : bootBuiltins (Str.ofString B) = some (.type B)
theorem XB.of {B newId initId : String} {bm : List Value} (F : ExcBaseFacts B newId initId bm) (pass : ∀ self : Value, refuseLoop self "__setattr__" bm = pure ()) (obj : bm.contains (.type "object") = true) (ne : bm.isEmpty = false) (typ : typeOf (.type B) = pure (.type "type"))
    (stub : Manifest.isStub B = false) (hand : PySem.W.handedIn (.builtin initId) = true) (boot : bootBuiltins (Str.ofString B) = some (.type B)) : XB B newId initId bm where
  call := fun hC hi hb hr hq => PySem.HandSPX.call_own F (fun _ => rfl) hC hi hb hr hq
  init := fun hC he hr hq => PySem.HandSPX.init_base F (fun _ => rfl) hC he hr hq
  pass := pass
  obj := obj
  ne := ne
  typ := typ
  stub := stub
  hand := hand
  boot := boot
/-! ### a class whose __new__ is that of what stands above it -/
section
variable {M : Model} {A : Around} {E : Value → Shared → Prop} {h : Heap} {g : Array GenState} {d : Drawn} {t : Nat} {os : OsState}
variable {nm q : Str} {C N : Addr} {bs bm bmB : List Value} {hdct : Bool} {sn : List Str} {sub : List Value} {ab : Bool} {col : Option Bool} {dd : Option Addr} {k0 k1 k2 k3 k5 : Option Value} {B newId initId : String}
theorem up_check (F : ExcBaseFacts B newId initId bmB) (z1 : (Value.ref C :: bm).contains (.type B) = true) {rest : List Value} {Q : Unit → Shared → Prop} (hC : h.get? C = some (excClassObj nm q C N bs bm hdct sn sub ab col dd k0 k1 k2 k3 k5 newId)) (hq : Q () ⟨h, g, d, t, os⟩) :
    wpAny M A (checkBuiltinCall newId ⟨.ref C :: rest, []⟩) Q E ⟨h, g, d, t, os⟩ := by
  have ns := F.noStar
  simp only [checkBuiltinCall, F.newKind, F.newSplit, F.newRow]
  repeat (first | refine wpAny_loadPart_at hC ?_ | (refine wpAny_isSubtype_exc hC ?_; rw [z1]) | refine wpAny_staticBase_exc hC ?_ | refine wpAny_madeBy_exc hC ?_ | simp only [bne_self_eq_false, Bool.false_eq_true, if_false] | wp_step)
  exact hq
end
section
variable {prog : Program} {w : World} {A : Around} {E : Value → Shared → Prop} {R : Result → Shared → Prop} {h : Heap} {g : Array GenState} {d : Drawn} {t : Nat} {os : OsState}
variable {nm q : Str} {C N : Addr} {bs bm bmB : List Value} {hdct : Bool} {sn : List Str} {sub : List Value} {ab : Bool} {col : Option Bool} {dd : Option Addr} {k0 k1 k2 k3 k5 : Option Value} {B newId initId : String} {rest : List Value}
theorem up_new (F : ExcBaseFacts B newId initId bmB) (z1 : (Value.ref C :: bm).contains (.type B) = true) (z2 : (Value.ref C :: bm).contains (.type "AttributeError") = false) (z3 : (Value.ref C :: bm).contains (.type "NameError") = false)
    (hC : h.get? C = some (excClassObj nm q C N bs bm hdct sn sub ab col dd k0 k1 k2 k3 k5 newId)) (hq : R (.ok (.ret (.ref (h.objs.size + 1)))) ⟨(h.push (PySem.W.kdv_tup rest)).push (PySem.HandSPX.excO C h.objs.size), g, d, t, os⟩) (fits : rest.length ≤ sizeLine) :
    codeAny (model prog w) A (.builtin newId ⟨.ref C :: rest, []⟩) R ⟨h, g, d, t, os⟩ := by
  have e0 := F.ends
  refine codeAny_builtinAt F.entry ?_
  unfold Builtin.«BaseException.__new__»
  refine PySem.wpAt_bind ?_
  show PySem.wpAt _ _ _ (stack >>= _) _ _ _
  refine PySem.wpAt_bind (PySem.wpAt_stack fun p below => PySem.wpAt_of_wpAny ?_)
  wp_walk
  refine PySem.wpAt_of_wpAny ?_
  rw [F.owner]
  repeat (first | with_reducible refine wpAny_madeHere_exc F.canon hC ?_ | with_reducible refine wpAny_loadPart_at hC ?_ | (with_reducible refine wpAny_isSubtype_exc hC ?_; first | rw [z1] | rw [z2] | rw [z3]) | wp_step)
  show R _ _
  rw [Heap.size_push]
  exact hq
theorem up_type (F : ExcBaseFacts B newId initId bmB) (z1 : (Value.ref C :: bm).contains (.type B) = true) (z2 : (Value.ref C :: bm).contains (.type "AttributeError") = false) (z3 : (Value.ref C :: bm).contains (.type "NameError") = false) {fI : Addr} {Q : Fin → Shared → Prop}
    (hC : h.get? C = some (excClassObj nm q C N bs bm hdct sn sub ab col dd k0 k1 k2 k3 k5 newId)) (hi : PySem.W.Looks (model prog w) h (typeLookup (.ref C) "__init__") (some (.ref fI))) (hb : ∀ self, PySem.W.Looks (model prog w) h (bindSpecial (.ref fI) self) (.ref fI, [self])) (fits : rest.length ≤ sizeLine)
    (hq : codeAny (model prog w) A (.call (.ref fI) ⟨.ref (h.objs.size + 1) :: rest, []⟩) (fun r s' => match r with | .ok (.ret v) => v = .none ∧ Q (.done (.ret (.ref (h.objs.size + 1)))) s' | .ok _ => False | .error e => E e s') ⟨(h.push (PySem.W.kdv_tup rest)).push (PySem.HandSPX.excO C h.objs.size), g, d, t, os⟩) :
    wpAny (model prog w) A (Builtin.«type.__call__» ⟨.ref C :: rest, []⟩) Q E ⟨h, g, d, t, os⟩ := by
  repeat (first | with_reducible refine wpAny_loadPart_at hC ?_ | with_reducible refine wpAny_madeBy_exc hC ?_ | wp_step)
  refine codeAny_call_builtin_code (Code.quiet_builtin _ F.quiet) (up_check F z1 hC (up_new F z1 z2 z3 hC ?_ fits))
  show wpAny _ _ _ _ _ _
  have kp : ∀ b o, h.get? b = some o → ((h.push (PySem.W.kdv_tup rest)).push (PySem.HandSPX.excO C h.objs.size)).get? b = some o := fun b o e => Heap.get?_push_of_some _ (Heap.get?_push_of_some _ e)
  have c1 := kp _ _ hC
  have at1 : ((h.push (PySem.W.kdv_tup rest)).push (PySem.HandSPX.excO C h.objs.size)).get? (h.objs.size + 1) = some (PySem.HandSPX.excO C h.objs.size) := by heap_get
  have own : (Value.ref C :: bm).contains (.ref C) = true := by simp
  have li := hi.keeps kp
  have lb := (hb (.ref (h.objs.size + 1))).keeps kp
  unfold isInstance
  repeat (first | with_reducible refine wpAny_loadPart_at at1 ?_ | (with_reducible refine wpAny_isSubtype_exc c1 ?_; rw [own]) | wp_step)
  show wpAny _ _ (typeLookup (.ref C) _) _ _ _
  refine li.at (wpAny_holding (wpAny_bind (lb.at (wpAny_bind (wpAny_call (codeAny_mono hq fun r s' z => ?_))))))
  rcases r with e | (v | _ | _ | _) <;> first | exact z | exact z.elim | skip
  obtain ⟨rfl, z⟩ := z
  first
    | exact wpAny_pure (wpAny_pure z)
    | (wp_walk; exact z)
theorem up_call (F : ExcBaseFacts B newId initId bmB) (z1 : (Value.ref C :: bm).contains (.type B) = true) (z2 : (Value.ref C :: bm).contains (.type "AttributeError") = false) (z3 : (Value.ref C :: bm).contains (.type "NameError") = false) {fI : Addr}
    (hC : h.get? C = some (excClassObj nm q C N bs bm hdct sn sub ab col dd k0 k1 k2 k3 k5 newId)) (hi : PySem.W.Looks (model prog w) h (typeLookup (.ref C) "__init__") (some (.ref fI))) (hb : ∀ self, PySem.W.Looks (model prog w) h (bindSpecial (.ref fI) self) (.ref fI, [self])) (fits : rest.length ≤ sizeLine)
    (hq : codeAny (model prog w) (A.under (.builtin "type.__call__" ⟨.ref C :: rest, []⟩)) (.call (.ref fI) ⟨.ref (h.objs.size + 1) :: rest, []⟩) (PySem.W.InitBack (h.objs.size + 1) R) ⟨(h.push (PySem.W.kdv_tup rest)).push (PySem.HandSPX.excO C h.objs.size), g, d, t, os⟩) :
    codeAny (model prog w) A (.call (.ref C) ⟨rest, []⟩) R ⟨h, g, d, t, os⟩ := by
  have u1 := tc_lookup
  have u2 := tc_bind (.ref C)
  have u3 : (⟨h, g, d, t, os⟩ : Shared).TypeIs (.ref C) "type" := ⟨_, hC, rfl⟩
  refine codeAny_of_tree ?_
  show wpAny _ _ (callAny (.ref C) _) _ _ _
  repeat (any_goals (first | assumption | with_reducible refine wpAny_loadPart_at hC ?_ | wp_step))
  refine ⟨rfl, codeAny_call_builtin_at (Code.quiet_builtin _ (by decide +kernel)) entry_typeCall (wpAny_check_type_call_sub hC (up_type F z1 z2 z3 hC hi hb fits ?_))⟩
  refine codeAny_mono hq fun r s' z => ?_
  rcases r with e | (v | _ | _ | _) <;> exact z
theorem key_check {e : Addr} {oe : Obj} {Q : Unit → Shared → Prop} (z1 : (Value.ref C :: bm).contains (.type "KeyError") = true) (hC : h.get? C = some (excClassObj nm q C N bs bm hdct sn sub ab col dd k0 k1 k2 k3 k5 newId)) (he : h.get? e = some oe) (hcls : oe.cls = .ref C) (hq : Q () ⟨h, g, d, t, os⟩) :
    wpAny (model prog w) A (checkBuiltinCall "KeyError.__init__" ⟨.ref e :: rest, []⟩) Q E ⟨h, g, d, t, os⟩ := by
  have x1 : builtinKind "KeyError.__init__" = some .slot := by kernel_rfl
  have x2 : splitId "KeyError.__init__" = some ("KeyError", "__init__") := by kernel_rfl
  have x3 : Manifest.signature? "KeyError.__init__" = some ⟨.positional, "*", "KeyError", .self, [⟨"args", .varPos, false⟩]⟩ := by kernel_rfl
  have x4 : ("KeyError" != "*") = true := by decide +kernel
  simp only [checkBuiltinCall, x1, x2, x3]
  repeat (first | (with_reducible refine wpAny_loadPart_at he ?_; rw [hcls]) | with_reducible refine wpAny_loadPart_at hC ?_ | (with_reducible refine wpAny_isSubtype_exc hC ?_; rw [z1]) | wp_step)
  refine wpAny_onRaise ?_
  rw [show ∀ (a b : String) (n : Nat), Bind.check ⟨.positional, "*", "KeyError", .self, [⟨"args", .varPos, false⟩]⟩ a b n (List.map (fun x => x.fst) ({ pos := Value.ref e :: rest } : Args).kw) = pure () from fun a b n => check_star_args _ _ _ _ _ _]
  exact wpAny_pure hq
theorem key_init {e t0 : Addr} (z1 : (Value.ref C :: bm).contains (.type "KeyError") = true) (hC : h.get? C = some (excClassObj nm q C N bs bm hdct sn sub ab col dd k0 k1 k2 k3 k5 newId)) (he : h.get? e = some (PySem.HandSPX.excO C t0)) (fits : rest.length ≤ sizeLine)
    (hq : ∀ h' t1, (∀ b o, b ≠ e → h.get? b = some o → h'.get? b = some o) → h'.get? e = some (PySem.HandSPX.excO C t1) → R (.ok (.ret .none)) ⟨h', g, d, t, os⟩) : codeAny (model prog w) A (.call (.builtin "KeyError.__init__") ⟨.ref e :: rest, []⟩) R ⟨h, g, d, t, os⟩ := by
  refine codeAny_call_builtin (b := Builtin.«BaseException.__init__») (by decide +kernel) (entryFor_alias (id' := "BaseException.__init__") (by rw [fastTable_eq_tree]; kernel_rfl) (by first | rfl | decide +kernel) (by decide +kernel) (by rw [fastTable_eq_tree]; kernel_rfl)) (key_check z1 hC he rfl ?_)
  wp_walk
  refine hq _ h.objs.size (fun b o hb ho => ?_) ?_
  · rw [Heap.get?_update_other _ _ (Ne.symm hb), Heap.get?_push_of_some _ ho]
  · rw [Heap.get?_update_self _ (Heap.get?_push_of_some _ he) rfl]
    rfl
end
theorem Xb.ok : ∀ b : Xb, XB b.nm b.new b.ini b.bm
  | .val => XB.of F.excBase_ValueError (fun self => by kernel_rfl) (by decide +kernel) rfl (by kernel_rfl) (by decide +kernel) (by decide +kernel) (by decide +kernel)
  | .index => XB.of F.excBase_IndexError (fun self => by kernel_rfl) (by decide +kernel) rfl (by kernel_rfl) (by decide +kernel) (by decide +kernel) (by decide +kernel)
  | .lookup => XB.of F.excBase_LookupError (fun self => by kernel_rfl) (by decide +kernel) rfl (by kernel_rfl) (by decide +kernel) (by decide +kernel) (by decide +kernel)
  | .run => XB.of F.excBase_RuntimeError (fun self => by kernel_rfl) (by decide +kernel) rfl (by kernel_rfl) (by decide +kernel) (by decide +kernel) (by decide +kernel)
  | .arith => XB.of F.excBase_ArithmeticError (fun self => by kernel_rfl) (by decide +kernel) rfl (by kernel_rfl) (by decide +kernel) (by decide +kernel) (by decide +kernel)
  | .key => {
      call := fun hC hi hb hr hq => up_call (bm := Xb.bm .key) F.excBase_LookupError (by rw [List.contains_cons, Bool.or_eq_true]; right; decide +kernel) (by rw [List.contains_cons, Bool.or_eq_false_iff]; exact ⟨by simp, by decide +kernel⟩) (by rw [List.contains_cons, Bool.or_eq_false_iff]; exact ⟨by simp, by decide +kernel⟩) hC hi hb hr hq
      init := fun hC he hr hq => key_init (bm := Xb.bm .key) (by rw [List.contains_cons, Bool.or_eq_true]; right; decide +kernel) hC he hr hq
      pass := fun self => by kernel_rfl
      obj := by decide +kernel
      ne := rfl
      typ := by kernel_rfl
      stub := by decide +kernel
      hand := by decide +kernel
      boot := by decide +kernel }
  | .over => XB.of F.excBase_OverflowError (fun self => by kernel_rfl) (by decide +kernel) rfl (by kernel_rfl) (by decide +kernel) (by decide +kernel) (by decide +kernel)
end Mir

set_option maxHeartbeats 4000000
/-! Xc1: own exception classes over any of Python's own: how they are made. -/
namespace Mir
open PySem L2 PyProof.Rows

/-- an own class under it -/
structure XC (K : PySem.W.Frag) (C : Addr) (nm : Str) (b : Xb) : Prop where
  cls : ∃ q N bs sn sub ab col dd k0 k1 k2 k3 k5, K.lookup C = some (excClassObj nm q C N bs b.bm true sn sub ab col dd k0 k1 k2 k3 k5 b.new)
  sa : PySem.W.findIn K (.ref C) "__setattr__" = some (some (.builtin "object.__setattr__"))
  ga : PySem.W.findIn K (.ref C) "__getattribute__" = some (some (.builtin "BaseException.__getattribute__"))
  gg : PySem.W.findIn K (.ref C) "__getattr__" = some none
  exC : PySem.W.subIn K (.ref C) (.type "BaseException") = some true
  tyC : PySem.W.typeIn K (.ref C) = some (.type "type")
  kC : PySem.W.keepIn K (.ref C) = true
  ca : PySem.W.findIn K (.ref C) "__class__" = some (some (.builtin "object.__class__"))
  cn : PySem.W.specialIn K (.builtin "object.__class__") "__get__" = some (some (.builtin "getset_descriptor.__get__"))
  ct : PySem.W.takesIn K (.builtin "object.__class__") = some true
theorem XC.b {K : PySem.W.Frag} {C : Addr} {nm : Str} {b : Xb} (_ : XC K C nm b) : XB b.nm b.new b.ini b.bm := b.ok
section
variable {K : PySem.W.Frag} {C : Addr} {nm : Str} {b : Xb}
theorem XC.cd (T : XC K C nm b) : ∃ cd : ClassData, PySem.W.clsIn K C = some cd ∧ cd.mro = .ref C :: b.bm ∧ cd.hasDict = true := by
  obtain ⟨q, N, bs, sn, sub, ab, col, dd, k0, k1, k2, k3, k5, hC⟩ := T.cls
  refine ⟨{ name := nm, bases := bs, mro := .ref C :: b.bm, ns := N, qualname := q, hasDict := true, slotNames := sn, subclasses := sub, abstract := ab, collection := col, hasDel := false }, ?_, rfl, rfl⟩
  unfold PySem.W.clsIn
  rw [hC] <;> rfl
theorem XC.has (T : XC K C nm b) : PySem.W.hasDictIn K C = true := by
  obtain ⟨cd, h1, _, h2⟩ := T.cd
  unfold PySem.W.hasDictIn
  rw [h1]
  exact h2
theorem XC.pass (T : XC K C nm b) {cd : ClassData} (h : cd.mro = .ref C :: b.bm) (self : Value) : refuseLoop self "__setattr__" cd.mro = pure () := by
  rw [h, refuseLoop_ref]
  exact T.b.pass self
theorem XC.mro (T : XC K C nm b) (x : Value) : PySem.W.mroIn K C x = some ((Value.ref C :: b.bm).contains x) := by
  obtain ⟨cd, h1, h2, _⟩ := T.cd
  unfold PySem.W.mroIn
  rw [h1, Option.bind_some, h2]
  rfl
end
section
open Builtin Builtin.ObjectAttr
variable {prog : Program} {w : World} {A : Around} {E : Value → Shared → Prop} {R : Result → Shared → Prop} {hp : Heap} {g : Array GenState} {d : Drawn} {t : Nat} {os : OsState}
  {K : PySem.W.Frag} {C : Addr} {nm : Str} {b : Xb}
/-- the way to the store itself -/
theorem osa_way {name : Str} {tk : Tok} {v : Value} {x : Addr} {ox : Obj} {od : Option Obj} (T : XC K C nm b) (X : K.In hp) (I : PySem.W.InstAt hp x ox C od) (ha : PySem.W.findIn K (.ref C) name = some none)
    (hq : wpAny (model prog w) A.in1 (storeInOwnDict (.ref x) (.ref C) (.str name tk) name v false)
      (fun fin s' => match fin with | .done f => R (.ok f) s' | .again c' => c'.quiet = true ∧ codeAny (model prog w) A c' R s') (fun e s' => R (.error e) s') ⟨hp, g, d, t, os⟩) :
    codeAny (model prog w) A (.call (.builtin "object.__setattr__") ⟨[.ref x, .str name tk, v], []⟩) R ⟨hp, g, d, t, os⟩ := by
  obtain ⟨cd, c1, c2, c3⟩ := T.cd
  have so := F.store_object
  have top : (Value.ref C :: b.bm).contains (.type "object") = true := by rw [List.contains_cons, T.b.obj, Bool.or_true]
  have look1 : PySem.W.Looks (model prog w) hp (isInstance (.ref x) (.type "object")) true := I.type.andThen (PySem.W.looks_mroIn X (by rw [T.mro, top]))
  have look2 : PySem.W.Looks (model prog w) hp (mroOf (.ref C)) cd.mro := (PySem.W.looks_clsIn X c1).andThen .now
  have look3 : PySem.W.Looks (model prog w) hp (storeTaker? none) none := .now
  refine codeAny_call_builtin so.slot.plain so.entry (@PySem.W.check_slot (model prog w) _ _ ⟨hp, g, d, t, os⟩ "object.__setattr__" "object" "__setattr__" (.ref x) [.str name tk, v] [] _ so.kind so.split look1 (so.args (.ref x) (.str name tk) v) ?_)
  rw [PySem.W.osa_eq, refuse_eq]
  refine wpAny_bind (wpAny_bind (I.type.at (wpAny_bind (look2.at ?_))))
  rw [T.pass c2]
  exact wpAny_pure (wpAny_bind (I.type.at (wpAny_bind ((PySem.W.looks_findIn X ha).at (wpAny_bind (look3.at hq))))))
theorem osa_first {name : Str} {tk : Tok} {v : Value} {x : Addr} {fv : Array Value} (T : XC K C nm b) (X : K.In hp) (hx : hp.get? x = some { cls := .ref C, data := .fields fv }) (ha : PySem.W.findIn K (.ref C) name = some none)
    (hq : ∀ h' tk' dx, (∀ b o, b ≠ x → hp.get? b = some o → h'.get? b = some o) → hp.objs.size ≤ dx → dx ≠ x → h'.get? x = some { cls := .ref C, dict := some dx, data := .fields fv } →
      h'.Ns1 dx (fun y => if y = name then some v else none) → R (.ok (.ret .none)) ⟨h', g, d, tk', os⟩) :
    codeAny (model prog w) A (.call (.builtin "object.__setattr__") ⟨[.ref x, .str name tk, v], []⟩) R ⟨hp, g, d, t, os⟩ := by
  obtain ⟨cd, c1, c2, c3⟩ := T.cd
  have xs : x ≠ hp.objs.size := Nat.ne_of_lt (Heap.lt_size hx)
  have lc : PySem.W.Looks (model prog w) hp (classData C) cd := PySem.W.looks_clsIn X c1
  refine osa_way T X (ox := { cls := .ref C, data := .fields fv }) (od := none) ⟨hx, rfl, rfl, trivial⟩ ha ?_
  obtain ⟨nm', bs, mro, ns, qn, hd, sn, sb, ab, col, del⟩ := cd
  dsimp only at c3
  subst c3
  unfold storeInOwnDict ownDictForStores
  repeat (first | with_reducible refine PySem.HandSPX.store_in_new ?_ ?_ | with_reducible refine wpAny_loadPart_at hx ?_ | with_reducible refine lc.at ?_ | wp_step)
  · exact ⟨_, #[], _, (Heap.get?_update_ne _ _ _ _ xs.symm).trans (Heap.get?_push_at rfl rfl), rfl, fun e he => absurd he (by simp), fun _ => rfl⟩
  · intro h' tk' n1 n2
    have hx1 : (hp.push { cls := .type "dict", data := .dict #[] }).get? x = some { cls := .ref C, data := .fields fv } := Heap.get?_push_of_some _ hx
    refine hq h' tk' hp.objs.size (fun b o hb ho => ?_) (Nat.le_refl _) xs.symm ?_ n1
    · rw [n2.2 b (Nat.ne_of_lt (Heap.lt_size ho)), Heap.get?_update_ne _ _ _ _ hb]
      exact Heap.get?_push_of_some _ ho
    · rw [n2.2 x xs]
      exact Heap.get?_update_self _ hx1 rfl
theorem osa_next {name : Str} {tk : Tok} {v : Value} {x dx : Addr} {fv : Array Value} {m0 : Str → Option Value} {nl : List Str} (T : XC K C nm b) (X : K.In hp) (hx : hp.get? x = some { cls := .ref C, dict := some dx, data := .fields fv })
    (hns : hp.Ns1 dx m0) (hw : Within m0 nl) (hz : nl.length ≤ 1000) (ha : PySem.W.findIn K (.ref C) name = some none)
    (hq : ∀ h' tk', (∀ b o, b ≠ dx → hp.get? b = some o → h'.get? b = some o) → h'.Ns1 dx (fun y => if y = name then some v else m0 y) → R (.ok (.ret .none)) ⟨h', g, d, tk', os⟩) :
    codeAny (model prog w) A (.call (.builtin "object.__setattr__") ⟨[.ref x, .str name tk, v], []⟩) R ⟨hp, g, d, t, os⟩ := by
  obtain ⟨cd, c1, c2, c3⟩ := T.cd
  obtain ⟨oD, _, _, hoD, _, _⟩ := hns.count hw
  have lc : PySem.W.Looks (model prog w) hp (classData C) cd := PySem.W.looks_clsIn X c1
  refine osa_way T X (ox := { cls := .ref C, dict := some dx, data := .fields fv }) (od := some oD) ⟨hx, rfl, rfl, hoD⟩ ha ?_
  obtain ⟨nm', bs, mro, ns, qn, hd, sn, sb, ab, col, del⟩ := cd
  dsimp only at c3
  subst c3
  unfold storeInOwnDict ownDictForStores
  repeat (first | with_reducible refine PySem.OEX.store_in_old hns hw hz ?_ | with_reducible refine wpAny_loadPart_at hx ?_ | with_reducible refine lc.at ?_ | wp_step)
  intro h' tk' n1 n2
  exact hq h' tk' (fun b o hb ho => by rw [n2.2 b hb]; exact ho) n1
end
end Mir

set_option maxHeartbeats 4000000
/-! Xc2: an own exception's __init__, by the layer's heap. -/
namespace Mir
open PySem L2 PyProof.Rows
section
variable {X : Cx} {pins : List (Addr × Obj)} {σ : L2.St} {H : Hp} {s : Shared} {a C dx : Addr} {f : Str} {y : V} {u : Value} {fs : List (Str × V)} {Q : Unit → Shared → Prop} {E : Value → Shared → Prop} {A : Around}
  {nm : Str} {b : Xb}
/-- self.f = y, the first one -/
theorem xst_first (T : XC X.K C nm b) (I : Inv X pins σ H s) (ea : H a = some (exo a C none)) (hno : PySem.W.findIn X.K (.ref C) f = some none) (ry : RelV y u)
    (h : ∀ dx s', H dx = none → dx ≠ a → Inv X pins σ (upd (upd H dx (exd dx [(f, y)])) a (exo a C (some dx))) s' → Q () s') : wpAny (model X.prog X.w) A (setAttr (.ref a) f u) Q E s := by
  obtain ⟨t1, ho⟩ := exo_at I.hok ea
  obtain ⟨hp, g, d, t, os⟩ := s
  refine PySem.W.set_plain I.kIn (ox := { cls := .ref C, dict := none, data := .fields #[.ref t1, .none, .none, .none, .bool false, .none] }) (od := none) ⟨ho, rfl, rfl, trivial⟩ T.sa (osa_first T I.kIn ho hno fun h' tk' dx k dn dne hx hn => ?_)
  have z0 : H dx = none := I.hok.fresh dn
  have z1 : ∀ {b : Addr} {o : Obj}, hp.get? b = some o → b ≠ dx := fun {b o} q => Nat.ne_of_lt (Nat.lt_of_lt_of_le (Heap.lt_size q) dn)
  have z2 : ∀ {b : Addr}, H b = none → b ≠ a := fun {b} n e => by rw [e, ea] at n; cases n
  have un : Un X.fs [] H (upd (upd H dx (exd dx [(f, y)])) a (exo a C (some dx))) hp h' := ⟨fun b o q n _ _ => k b o (z2 n) q, fun b o q n _ _ => ⟨o.slots, k b o (z2 n) q⟩,
    fun b o q n _ => by rw [upd_ne (z2 n), upd_ne (z1 q)]; exact n,
    fun b o q _ => by
      by_cases hb : b = a
      · exact ⟨_, by rw [hb]; exact hx⟩
      · exact ⟨o, k b o hb q⟩,
    fun b xs q => by rw [upd_ne (at_ne ea q exo_tup), upd_ne (ne_of_none q z0)]; exact q,
    fun b o v q => by rw [upd_ne (at_ne ea q exo_frz), upd_ne (ne_of_none q z0)]; exact q,
    fun b ps q => ⟨#[], by rw [upd_ne (at_ne ea q exo_tbl), upd_ne (ne_of_none q z0), q]; simp⟩⟩
  refine h dx _ z0 dne (I.un (t' := tk') un fun b o q => ?_)
  by_cases hb : b = a
  · subst hb
    rw [upd_same] at q
    cases q
    exact exo_ok hx
  rw [upd_ne hb] at q
  by_cases hd : b = dx
  · subst hd
    rw [upd_same] at q
    cases q
    exact exd_ok hn (relO_put (fs := []) ry fun g => True.intro)
  rw [upd_ne hd] at q
  refine (I.hok b o q).stay (fun c v hc z => k c v ?_ z) (fun c hc => ?_) fun c xs hc => ?_
  · rcases hc with hc | hc
    · rw [hc]; exact hb
    · exact at_ne ea hc exo_own
  · rw [upd_ne (at_ne ea hc exo_own), upd_ne (ne_of_none hc z0)]; exact hc
  · rw [upd_ne (at_ne ea hc exo_tup), upd_ne (ne_of_none hc z0)]; exact hc
/-- self.f = y, a further one -/
theorem xst_next (T : XC X.K C nm b) (I : Inv X pins σ H s) (ea : H a = some (exo a C (some dx))) (ed : H dx = some (exd dx fs)) (hl : fs.length ≤ 900) (hno : PySem.W.findIn X.K (.ref C) f = some none) (ry : RelV y u)
    (h : ∀ s', Inv X pins σ (upd H dx (exd dx ((f, y) :: fs))) s' → Q () s') : wpAny (model X.prog X.w) A (setAttr (.ref a) f u) Q E s := by
  obtain ⟨t1, ho⟩ := exo_at I.hok ea
  obtain ⟨mA, hns, rel⟩ := exd_at I.hok ed
  have hw := within_of rel
  obtain ⟨hp, g, d, t, os⟩ := s
  obtain ⟨oD, _, _, hoD, _, _⟩ := hns.count hw
  refine PySem.W.set_plain I.kIn (ox := { cls := .ref C, dict := some dx, data := .fields #[.ref t1, .none, .none, .none, .bool false, .none] }) (od := some oD) ⟨ho, rfl, rfl, hoD⟩ T.sa ?_
  refine osa_next T I.kIn ho hns hw (by rw [List.length_map]; omega) hno fun h' tk' k hn => ?_
  have hd : ∃ o, h'.get? dx = some o := let ⟨o, _, _, e', _⟩ := hn; ⟨o, e'⟩
  exact h _ (I.write (t' := tk') (x := dx) (e := dx) (o := exd dx ((f, y) :: fs)) (by rw [ed]; exact True.intro) (.inl rfl) k hd (exd_ok hn (relO_put ry rel)))
/-- B.__init__(self, ..) -/
theorem xin_ok {us : List Value} {Q : Value → Shared → Prop} (T : XC X.K C nm b) (I : Inv X pins σ H s) (ea : H a = some (exo a C none)) (hl : us.length ≤ sizeLine) (h : ∀ s', Inv X pins σ H s' → Q .none s') :
    wpAny (model X.prog X.w) A (call (.builtin b.ini) (.ref a :: us)) Q E s := by
  obtain ⟨q, N, bs, sn, sub, ab, col, dd, k0, k1, k2, k3, k5, hC⟩ := T.cls
  obtain ⟨t1, ho⟩ := exo_at I.hok ea
  obtain ⟨hp, g, d, t, os⟩ := s
  refine wpAny_call (T.b.init (I.kIn _ _ hC) ho hl fun h' t2 k hx => h _ ?_)
  have J := I.write (t' := t) (x := a) (e := a) (o := exo a C none) (by rw [ea]; exact True.intro) (.inl rfl) k ⟨_, hx⟩ (exo_ok hx)
  have eu : upd H a (exo a C none) = H := by
    funext b
    by_cases hb : b = a
    · rw [hb, upd_same, ea]
    · rw [upd_ne hb]
  rw [eu] at J
  exact J
end
/-- B.__init__(self, ..) as a reading -/
def tXi (K : PySem.W.Frag) (nm : Str) (b : Xb) (ta : TA) : TE := fun σ H Q => ta σ H fun vs H1 => ∃ (a C : Addr) (ws : List V), vs = .ref a :: ws ∧ ws.length ≤ 1000 ∧ XC K C nm b ∧ H1 a = some (exo a C none) ∧ Q .non H1
/-- self.f = e as a reading -/
def tXs (K : PySem.W.Frag) (nm : Str) (b : Xb) (f : Str) (to te : TE) : TS := fun D σ H => te σ H fun y H1 => to σ H1 fun x H2 => ∃ a C : Addr, x = .ref a ∧ XC K C nm b ∧ PySem.W.findIn K (.ref C) f = some none ∧
  ((H2 a = some (exo a C none) ∧ ∀ dx, H2 dx = none → dx ≠ a → D.nx σ (upd (upd H2 dx (exd dx [(f, y)])) a (exo a C (some dx)))) ∨
    ∃ (dx : Addr) (fs : List (Str × V)), H2 a = some (exo a C (some dx)) ∧ H2 dx = some (exd dx fs) ∧ fs.length ≤ 900 ∧ D.nx σ (upd H2 dx (exd dx ((f, y) :: fs))))
section
variable {X : Cx} {o e : Expr} {es : List Expr} {to te : TE} {ta : TA} {f : Str} {p p' p1 p2 pos : Pos} {nm : Str} {b : Xb}
theorem pe_xinit {pl : Sem Bool} (hg : Gl X (Str.ofString b.nm)) (hm : X.mg (Str.ofString b.nm) = none) (hn : Str.ofString b.nm ≠ "__name__") (hdb : (Str.ofString b.nm == ("__debug__" : Str)) = false)
    (vV : PySem.W.findCls X.K (.type b.nm) (.type "type") "__init__" = some (.val (.builtin b.ini))) (ha : PA X (e :: es) ta)
    (hc : eval (.Call (.Attribute (.Name (Str.ofString b.nm) p1) "__init__" p2) (e :: es) [] pos) X.env = (do
      let ov ← eval (.Name (Str.ofString b.nm) p1) X.env
      standAt p2.atName
      let (f, first) ← holding [ov] (getMethod ov "__init__" pl)
      callWith pos f first (backTo pos (starEach (e :: es) X.env)) (backToKw pos (keywordEach [] X.env))))
    (he : starEach (e :: es) X.env = (false, eval e X.env) :: starEach es X.env) (hpl : (backTo pos (starEach es X.env)).any (·.1) = false) :
    PE X (.Call (.Attribute (.Name (Str.ofString b.nm) p1) "__init__" p2) (e :: es) [] pos) (tXi X.K nm b ta) := by
  refine ⟨fun pins s σ H Q I h => ?_⟩
  refine PySem.W.methodCall_KW (ld_blt I hg hm b.ok.boot ?_ hn hdb) hc
  obtain ⟨m, fr⟩ := I.fr
  refine PySem.W.method_type fr I.ok.mod.kin b.ok.typ b.ok.stub vV b.ok.hand ?_
  show wpAny _ _ (callWith pos (Value.builtin b.ini) [] (backTo pos (starEach (e :: es) X.env)) []) _ _ _
  refine PyProof.Rows.callWith_method1 (thn (ha.run pos pins _ σ H _ (I.tok _) h) fun us s1 ⟨vs, H1, I1, r1, a, C, ws, ev, hl, T, ea, q⟩ => ?_) he hpl
  subst ev
  cases r1 with
  | @cons _ u0 _ ur ra rw' =>
    obtain rfl : u0 = Value.ref a := ra
    refine xin_ok T I1 ea ?_ fun s' J => ⟨.non, H1, J, rfl, q⟩
    rw [← Paired.length rw', sizeLine_eq]
    omega
theorem ps_xst (ho : PE X o to) (he : PE X e te) (hs : swapsWith e (some (.Attribute o f p')) pos.line X.env = pure false) : PS X (.Assign [.Attribute o f p'] e pos) (tXs X.K nm b f to te) := by
  refine ⟨fun pins s σ H D I h => ?_⟩
  refine plainObj_wpAny_Assign_Attribute (thn (he.run pins s σ H _ I h) fun v s1 ⟨y, H1, I1, r1, q1⟩ => thn (ho.run pins s1 σ H1 _ I1 q1) fun u s2 ⟨x, H2, I2, r2, a, C, ex, T, hno, q⟩ => ?_) hs
  subst ex
  obtain rfl : u = Value.ref a := r2
  rcases q with ⟨ea, q⟩ | ⟨dx, fs, ea, ed, hl, q⟩
  · exact xst_first T I2 ea hno r1 fun dx s' n ne J => ⟨σ, _, J, q dx n ne⟩
  · exact xst_next T I2 ea ed hl hno r1 fun s' J => ⟨σ, _, J, q⟩
end
end Mir

set_option maxHeartbeats 4000000
/-! Xc3: an own exception class called. -/
namespace Mir
open PySem L2 PyProof.Rows
theorem pss_imp {X : Cx} {e : List Stmt} {t t' : TS} (h : PSs X e t) (i : ∀ D σ H, t' D σ H → t D σ H) : PSs X e t' := ⟨fun pins s σ H D I q => h.run pins s σ H D I (i D σ H q)⟩
/-- the fields that are stored: name, slot -/
abbrev Flds := List (Str × Nat)
def fvV (σ : L2.St) : Flds → List (Str × V) → List (Str × V)
  | [], acc => acc
  | (f, i) :: r, acc => fvV σ r (match σ[i]? with
    | some (some v) => (f, v) :: acc
    | _ => acc)
/-- what is wished of the rest of an __init__ -/
def wishF (D : Ends) (σ : L2.St) (a C : Addr) : Flds → Option (Addr × List (Str × V)) → Hp → Prop
  | [], _, H => D.nx σ H
  | (f, i) :: r, none, H => ∃ y, σ[i]? = some (some y) ∧ ∀ dx, H dx = none → dx ≠ a → wishF D σ a C r (some (dx, [(f, y)])) (upd (upd H dx (exd dx [(f, y)])) a (exo a C (some dx)))
  | (f, i) :: r, some (dx, fs), H => ∃ y, σ[i]? = some (some y) ∧ wishF D σ a C r (some (dx, (f, y) :: fs)) (upd H dx (exd dx ((f, y) :: fs)))
def stIs (a C : Addr) (H : Hp) : Option (Addr × List (Str × V)) → Prop
  | none => H a = some (exo a C none)
  | some (dx, fs) => H a = some (exo a C (some dx)) ∧ H dx = some (exd dx fs) ∧ dx ≠ a
def stLen : Option (Addr × List (Str × V)) → Nat
  | none => 0
  | some (_, fs) => fs.length
/-- self.f = x, .. -/
inductive FldB (N : List Str) : List Stmt → Flds → Prop
  | nil : FldB N [] []
  | cons {sts : List Stmt} {fl : Flds} {f x : Str} {i : Nat} {q1 q2 q3 q4 : Pos} : N[i]? = some x → FldB N sts fl → FldB N (.Assign [.Attribute (.Name "self" q1) f q2] (.Name x q3) q4 :: sts) ((f, i) :: fl)
section
variable {X : Cx} {nm : Str} {b : Xb} {C : Addr}
theorem flds_ss (T : XC X.K C nm b) (h0 : X.N[0]? = some ("self" : Str)) (hv : ∀ x ∈ X.N, Vis X.env.scope x ∧ (x == ("__debug__" : Str)) = false ∧ (x == ("__classdict__" : Str)) = false) {sts : List Stmt} {fl : Flds} (h : FldB X.N sts fl)
    (hno : ∀ p ∈ fl, PySem.W.findIn X.K (.ref C) p.1 = some none) :
    PSs X sts (fun D σ H => ∃ a st, σ[0]? = some (some (.ref a)) ∧ stIs a C H st ∧ stLen st + fl.length ≤ 900 ∧ wishF D σ a C fl st H) := by
  induction h with
  | nil => exact pss_imp pss_nil fun D σ H ⟨a, st, _, _, _, w⟩ => w
  | @cons sts fl f x i q1 q2 q3 q4 hi hb ih =>
    have ih := ih fun p hp => hno p (.tail _ hp)
    have hs := hv "self" (List.mem_of_getElem? h0)
    have hx := hv x (List.mem_of_getElem? hi)
    refine pss_imp (pss_cons (ps_xst (nm := nm) (b := b) (f := f) (pe_var (i := 0) h0 hs.1 hs.2.1 hs.2.2) (pe_var (i := i) hi hx.1 hx.2.1 hx.2.2) rfl) ih) ?_
    rintro D σ H ⟨a, st, e0, hst, hl, w⟩
    simp only [List.length_cons] at hl
    cases st with
    | none =>
      obtain ⟨y, ey, w⟩ := w
      refine ⟨y, ey, .ref a, e0, a, C, rfl, T, hno _ (.head _), .inl ⟨hst, fun dx hd hne => ⟨a, some (dx, [(f, y)]), e0, ⟨upd_same, ?_, hne⟩, ?_, w dx hd hne⟩⟩⟩
      · rw [upd_ne hne, upd_same]
      · simp only [stLen, List.length_cons, List.length_nil] at hl ⊢; omega
    | some z =>
      obtain ⟨dx, fs⟩ := z
      obtain ⟨y, ey, w⟩ := w
      obtain ⟨s1, s2, s3⟩ := hst
      refine ⟨y, ey, .ref a, e0, a, C, rfl, T, hno _ (.head _), .inr ⟨dx, fs, s1, s2, by simp only [stLen] at hl; omega, a, some (dx, (f, y) :: fs), e0, ⟨?_, upd_same, s3⟩, ?_, w⟩⟩
      · rw [upd_ne (Ne.symm s3)]; exact s1
      · simp only [stLen, List.length_cons] at hl ⊢; omega
/-- the wish, from what is to hold at the end -/
theorem wish_some {D : Ends} {σ : L2.St} {a : Addr} : ∀ {fl : Flds} {dx : Addr} {fs : List (Str × V)} {H : Hp}, (∀ p ∈ fl, ∃ y, σ[p.2]? = some (some y)) → H dx = some (exd dx fs) → D.nx σ (upd H dx (exd dx (fvV σ fl fs))) → wishF D σ a C fl (some (dx, fs)) H
  | [], dx, fs, H, _, hd, q => by
    have e : upd H dx (exd dx fs) = H := by
      funext b
      by_cases hb : b = dx
      · rw [hb, upd_same, hd]
      · rw [upd_ne hb]
    simp only [fvV, e] at q
    exact q
  | (f, i) :: r, dx, fs, H, hy, hd, q => by
    obtain ⟨y, ey⟩ := hy (f, i) (.head _)
    refine ⟨y, ey, wish_some (fun p hp => hy p (.tail _ hp)) upd_same ?_⟩
    rw [upd_upd]
    simp only [fvV, ey] at q
    exact q
theorem wish_none {D : Ends} {σ : L2.St} {a : Addr} {fl : Flds} {H : Hp} (hy : ∀ p ∈ fl, ∃ y, σ[p.2]? = some (some y)) (q0 : fl = [] → D.nx σ H) (q1 : fl ≠ [] → ∀ dx, H dx = none → dx ≠ a → D.nx σ (upd (upd H dx (exd dx (fvV σ fl []))) a (exo a C (some dx)))) : wishF D σ a C fl none H := by
  cases fl with
  | nil => exact q0 rfl
  | cons p r =>
    obtain ⟨f, i⟩ := p
    obtain ⟨y, ey⟩ := hy (f, i) (.head _)
    refine ⟨y, ey, fun dx hd hne => wish_some (fun p hp => hy p (.tail _ hp)) (by rw [upd_ne hne, upd_same]) ?_⟩
    have := q1 (by simp) dx hd hne
    simp only [fvV, ey] at this
    have e : ∀ o, upd (upd (upd H dx (exd dx [(f, y)])) a (exo a C (some dx))) dx o = upd (upd H dx o) a (exo a C (some dx)) := by
      intro o
      funext b
      by_cases hb : b = dx
      · subst hb; rw [upd_same, upd_ne hne, upd_same]
      · by_cases hb' : b = a
        · subst hb'; rw [upd_ne hb, upd_same, upd_same]
        · rw [upd_ne hb, upd_ne hb', upd_ne hb', upd_ne hb, upd_ne hb]
    rw [e]
    exact this
end
/-- a class that the program has under one of Python's own: its __init__ calls that one's, then stores fields -/
inductive IniB (N : List Str) (b : Xb) : List Stmt → Flds → Prop
  | mk {sts : List Stmt} {fl : Flds} {c : Str} {n : Nat} {p1 p2 p3 p4 p5 p6 : Pos} : FldB N sts fl → (p2.endLine == p5.line) = true →
    IniB N b (.Expr (.Call (.Attribute (.Name (Str.ofString b.nm) p1) "__init__" p2) [.Name "self" p3, .Constant (.str c) n p4] [] p5) p6 :: sts) fl
/-- the promise of such an __init__ -/
def spI (C : Addr) (N : List Str) (n : Nat) (fl : Flds) : Sp := fun vs H Q _ => ∃ (a : Addr) (ws : List V), vs = .ref a :: ws ∧ ws.length + 1 = n ∧ H a = some (exo a C none) ∧
  (fl = [] → Q .non H) ∧ (fl ≠ [] → ∀ dx, H dx = none → dx ≠ a → Q .non (upd (upd H dx (exd dx (fvV (L2.start N vs) fl []))) a (exo a C (some dx))))
section
variable {P : Program} {w : World} {K : PySem.W.Frag} {mg : Str → Option Value} {base : Heap} {CX : CXT} {nm : Str} {b : Xb} {C f : Addr}
theorem fn_init {name qual : Str} {params : Arguments} {body : List Stmt} {scope : Scope} {dV kV doc pm cdv ct oc : Value} {an od : Option Addr} {osl : Array (Option Value)} {N ps : List Str} {fl : Flds}
    (lk : K.lookup f = some ⟨oc, od, .func (PySem.W.fnOf name qual params body scope dV kV doc pm an cdv ct), osl⟩) (hcd : PySem.W.codeIn K cdv qual = true) (S : FnScope N ps scope) (T : XC K C nm b) (hb : IniB N b body fl)
    (hN : N = ps) (h0 : N[0]? = some ("self" : Str)) (hfl : fl.length ≤ 800) (hi : ∀ p ∈ fl, p.2 < ps.length) (hno : ∀ p ∈ fl, PySem.W.findIn K (.ref C) p.1 = some none)
    (hnm : ∀ x ∈ N, (x == ("__debug__" : Str)) = false ∧ (x == ("__classdict__" : Str)) = false) (hg : scope.names.lookup (Str.ofString b.nm) = some .globalImplicit) (hm : mg (Str.ofString b.nm) = none) (hn1 : Str.ofString b.nm ≠ "__name__") (hn2 : (Str.ofString b.nm == ("__debug__" : Str)) = false)
    (vV : PySem.W.findCls K (.type b.nm) (.type "type") "__init__" = some (.val (.builtin b.ini))) (k : Nat) : FnOk P w K mg base CX (k + 1) f (PySem.W.fnOf name qual params body scope dV kV doc pm an cdv ct) ps (spI C N ps.length fl) := by
  refine fn_of lk hcd S (fun vs H Q E h => ?_) fun A outer s H vs Q E hr h => ?_
  · obtain ⟨a, ws, rfl, hl, _⟩ := h
    exact hl
  obtain ⟨a, ws, rfl, hl, ha, q0, q1⟩ := h
  have vis : ∀ x ∈ N, Vis scope x := fun x hx => (S.par x (by rw [← hN]; exact hx)).elim .inl fun z => .inr (.inl z)
  cases hb with
  | @mk sts fl c n p1 p2 p3 p4 p5 p6 hb hln =>
    have hc : ∀ env : Env, eval (.Call (.Attribute (.Name (Str.ofString b.nm) p1) "__init__" p2) [.Name "self" p3, .Constant (.str c) n p4] [] p5) env = (do
        let ov ← eval (.Name (Str.ofString b.nm) p1) env
        standAt p2.atName
        let (f, first) ← holding [ov] (getMethod ov "__init__" (do return (← importBound (.Name (Str.ofString b.nm) p1) env).getD true))
        callWith p5 f first (backTo p5 (starEach [.Name "self" p3, .Constant (.str c) n p4] env)) (backToKw p5 (keywordEach [] env))) := by
      intro env
      rw [arm_eval_Call]
      have e1 : ∀ o : Expr, methodCallPos true o env p2 p5 = pure p5 := fun o => by
        unfold methodCallPos
        rw [hln]
        rfl
      show (do
        let ov ← eval (.Name (Str.ofString b.nm) p1) env
        standAt p2.atName
        let (f, first) ← holding [ov] (getMethod ov "__init__" (do return (← importBound (.Name (Str.ofString b.nm) p1) env).getD true))
        let callPos ← methodCallPos true (.Name (Str.ofString b.nm) p1) env p2 p5
        callWith callPos f first (backTo p5 (starEach [.Name "self" p3, .Constant (.str c) n p4] env)) (backToKw p5 (keywordEach [] env))) = _
      rw [e1]
      rfl
    have vS := vis "self" (List.mem_of_getElem? h0)
    have nS := hnm "self" (List.mem_of_getElem? h0)
    have e0 : (L2.start N (.ref a :: ws))[0]? = some (some (.ref a)) := by simp [L2.start]
    refine ⟨_, pss_cons (ps_expr (pe_xinit (nm := nm) hg hm hn1 hn2 vV (pa_cons (pe_var (i := 0) h0 vS nS.1 nS.2) (pa_cons pe_str pa_nil rfl) rfl) (hc _) rfl rfl) rfl)
      (flds_ss (X := cxOf CX P w K mg base N qual scope f cdv A outer s H E) T h0 (fun x hx => ⟨vis x hx, hnm x hx⟩) hb hno), ?_⟩
    refine ⟨.ref a, e0, a, C, [.str c], rfl, by simp, T, ha, a, none, e0, ha, by simp only [stLen]; omega, wish_none ?_ ?_ ?_⟩
    · intro p hp
      have h2 := hi p hp
      have h3 : p.2 < (V.ref a :: ws).length := by rw [List.length_cons]; omega
      refine ⟨(V.ref a :: ws)[p.2], ?_⟩
      unfold L2.start
      rw [List.getElem?_append_left (by rw [List.length_map]; exact h3), List.getElem?_map, List.getElem?_eq_getElem h3]
      rfl
    · exact q0
    · exact q1
end
end Mir

set_option maxHeartbeats 4000000
/-! Xc4: an own exception class called: the exception as it is raised, and as a value. -/
namespace Mir
open PySem L2 PyProof.Rows
/-- what the heap holds without one place -/
theorem del_upd {H : Hp} {a : Addr} {o : HO} (h : H a = none) : L2.del (upd H a o) a = H := by
  funext b
  by_cases hb : b = a
  · rw [hb, L2.del_same, h]
  · rw [L2.del_ne hb, upd_ne hb]
section
variable {X : Cx} {pins : List (Addr × Obj)} {σ : L2.St} {H1 : Hp} {C a : Addr}
/-- an exception without a dict that is let go -/
theorem mk_bare {H2 : Hp} {hp hp2 h2 : Heap} {g1 g2 : Array GenState} {d1 d2 : Drawn} {t1 t2 : Nat} {os1 os2 : OsState} (I1 : Inv X pins σ H1 ⟨hp, g1, d1, t1, os1⟩) (ha : hp.objs.size ≤ a) (k : ∀ b o, hp.get? b = some o → hp2.get? b = some o)
    (un : Un (frs X.stack) [] (upd H1 a (exo a C none)) H2 hp2 h2) (hok : HOk X.prog X.w H2 h2) (ho : os2 = os1) (hb : AllBare g2) (ea : H2 a = some (exo a C none)) :
    ∃ (t0 : Addr) (G : Heap), Inv X pins σ (L2.del H2 a) ⟨G, g2, d2, t2, os2⟩ ∧ (∀ b o, G.get? b = some o → h2.get? b = some o) ∧ G.get? a = none ∧
      h2.get? a = some ({ cls := .ref C, dict := none, data := .fields #[.ref t0, .none, .none, .none, .bool false, .none] } : Obj) := by
  obtain ⟨t0, hoe⟩ := exo_at hok ea
  have hn : H1 a = none := I1.hok.fresh ha
  obtain ⟨G, gr, gs⟩ := restrict h2 fun b => decide (b ≠ a)
  have gk : ∀ b, b ≠ a → G.get? b = h2.get? b := fun b hb => gr b (decide_eq_true hb)
  have ge : G.get? a = none := gs a (by simp)
  have z1 : ∀ {b : Addr} {o : Obj}, hp.get? b = some o → b ≠ a := fun {b o} z => Nat.ne_of_lt (Nat.lt_of_lt_of_le (Heap.lt_size z) ha)
  have z2 : ∀ {b : Addr}, b ≠ a → H1 b = none → upd H1 a (exo a C none) b = none := fun {b} hb n => by rw [upd_ne hb]; exact n
  have U : Un (frs X.stack) [] H1 (L2.del H2 a) hp G := ⟨fun b o z n hf hx => by rw [gk b (z1 z)]; exact un.keep b o (k b o z) (z2 (z1 z) n) hf hx,
    fun b o z n hf hx => by rw [gk b (z1 z)]; exact un.slot b o (k b o z) (z2 (z1 z) n) hf hx, fun b o z n hx => by rw [L2.del_ne (z1 z)]; exact un.free b o (k b o z) (z2 (z1 z) n) hx,
    fun b o z hx => by rw [gk b (z1 z)]; exact un.there b o (k b o z) hx, fun b xs z => by rw [L2.del_ne (ne_of_none z hn)]; exact un.tups b xs (by rw [upd_ne (ne_of_none z hn)]; exact z),
    fun b o v z => by rw [L2.del_ne (ne_of_none z hn)]; exact un.frzs b o v (by rw [upd_ne (ne_of_none z hn)]; exact z), fun b ps z => by rw [L2.del_ne (ne_of_none z hn)]; exact un.tbls b ps (by rw [upd_ne (ne_of_none z hn)]; exact z)⟩
  have hok3 : HOk X.prog X.w (L2.del H2 a) G := fun b o z => by
    have hba : b ≠ a := fun e => by rw [e, L2.del_same] at z; cases z
    rw [L2.del_ne hba] at z
    have noa : ∀ {c : Addr}, H2 c = some (.own b) → c ≠ a := fun {c} hc => at_ne ea hc exo_own
    refine (hok b o z).stay (fun c v hc y => ?_) (fun c hc => by rw [L2.del_ne (noa hc)]; exact hc) fun c xs hc => by rw [L2.del_ne (at_ne ea hc exo_tup)]; exact hc
    rw [gk c (hc.elim (fun e => by rw [e]; exact hba) noa)]
    exact y
  refine ⟨t0, G, I1.call' (ch := []) ho U hok3 hb (fun b z => absurd z (by simp)), fun b o z => ?_, ge, hoe⟩
  by_cases hba : b = a
  · rw [hba, ge] at z; cases z
  · rw [← gk b hba]; exact z
end
/-- what is left where C is called with vs: the fields fl -/
def tMkX (C : Addr) (N : List Str) (n : Nat) (fl : Flds) (ta : TA) : L2.St → Hp → XK → Prop := fun σ H Q => ta σ H fun vs H1 => vs.length + 1 = n ∧ vs.length ≤ 1000 ∧ (fl = [] → Q (.ref C) none H1) ∧
  (fl ≠ [] → ∀ d a, H1 d = none → H1 a = none → d ≠ a → Q (.ref C) (some d) (upd H1 d (.xd (fvV (L2.start N (.ref a :: vs)) fl []))))
section
variable {X : Cx} {pins : List (Addr × Obj)} {σ : L2.St} {nm : Str} {b : Xb} {C fI : Addr} {k : Nat} {fd : FuncData} {ps N : List Str} {fl : Flds}
theorem xcall (T : XC X.K C nm b) (iC : PySem.W.findIn X.K (.ref C) "__init__" = some (some (.ref fI))) (tI : PySem.W.typeIn X.K (.ref fI) = some (.type "function")) (F1 : FnOk X.prog X.w X.K X.mg X.base (CX X.prog X.w) k fI fd ps (spI C N ps.length fl))
    (hr : Room (k + 1) X.A) (hb : Binds X.K fd ps []) {Q : XK} {H1 : Hp} {s1 : Shared} {us : List Value} {vs : List V} (I1 : Inv X pins σ H1 s1) (r1 : Vals vs us) (hn : vs.length + 1 = ps.length) (hz : vs.length ≤ 1000) (q0 : fl = [] → Q (.ref C) none H1)
    (q1 : fl ≠ [] → ∀ d a, H1 d = none → H1 a = none → d ≠ a → Q (.ref C) (some d) (upd H1 d (.xd (fvV (L2.start N (.ref a :: vs)) fl [])))) :
    wpAny (model X.prog X.w) X.A (call (.ref C) us) (MkP X pins σ Q) X.xe s1 := by
  obtain ⟨qn, Nn, bs, sn, sub, ab, col, dd, k0, k1, k2, k3, k5, hC⟩ := T.cls
  obtain ⟨hp, g, dr, tk, os⟩ := s1
  generalize hA : hp.objs.size + 1 = a
  have hsz : hp.objs.size ≤ a := by omega
  have na : H1 a = none := I1.hok.fresh hsz
  have kk : ∀ b o, hp.get? b = some o → ((hp.push (PySem.W.kdv_tup us)).push (PySem.HandSPX.excO C hp.objs.size)).get? b = some o := fun b o e => Heap.get?_push_of_some _ (Heap.get?_push_of_some _ e)
  have hget : ((hp.push (PySem.W.kdv_tup us)).push (PySem.HandSPX.excO C hp.objs.size)).get? a = some (PySem.HandSPX.excO C hp.objs.size) := by rw [← hA]; heap_get
  have I2 : Inv X pins σ (upd H1 a (exo a C none)) ⟨(hp.push (PySem.W.kdv_tup us)).push (PySem.HandSPX.excO C hp.objs.size), g, dr, tk, os⟩ := I1.laid (t' := tk) kk hsz (exo_ok hget)
  have r2 : Vals (V.ref a :: vs) (Value.ref a :: us) := .cons rfl r1
  have hlen : (Value.ref a :: us).length = ps.length := by rw [← r2.length, List.length_cons]; exact hn
  have hus : us.length ≤ sizeLine := by rw [← Paired.length r1, sizeLine_eq]; omega
  have hsp : spI C N ps.length fl (V.ref a :: vs) (upd H1 a (exo a C none)) (fun v H2 => v = .non ∧ ((fl = [] ∧ H2 = upd H1 a (exo a C none)) ∨ (fl ≠ [] ∧ ∃ d, H1 d = none ∧ d ≠ a ∧ H2 = upd (upd (upd H1 a (exo a C none)) d (exd d (fvV (L2.start N (V.ref a :: vs)) fl []))) a (exo a C (some d))))) (fun _ _ _ => False) := by
    refine ⟨a, vs, rfl, hn, upd_same, fun e => ⟨rfl, .inl ⟨e, rfl⟩⟩, fun e dx hd hne => ⟨rfl, .inr ⟨e, dx, ?_, hne, rfl⟩⟩⟩
    rw [upd_ne hne] at hd
    exact hd
  refine wpAny_call (T.b.call (I1.kIn _ _ hC) (PySem.W.looks_findIn I1.kIn iC) (fun self => PySem.W.bind_fn I1.kIn self tI) hus ?_)
  rw [hA]
  refine codeAny_mono (F1.run _ X.stack _ _ ⟨Value.ref a :: us, []⟩ (Value.ref a :: us) _ _ (fun _ _ _ => False) (hr.make C us []) (I2.env0.make C us []) (hb _ (Value.ref a :: us) I2.kIn (by rw [List.append_nil]; exact hlen) |> fun z => by rw [List.append_nil] at z; exact z) r2 hsp) fun r s' hq' => ?_
  cases r with
  | error er =>
    obtain ⟨_, _, _, _, _, _, _, _, _, _, _, _, z⟩ := hq'
    exact z.elim
  | ok flw =>
    cases flw with
    | ret u =>
      obtain ⟨v, H2, os2, bare2, un2, hok2, rv, ev, cases_⟩ := hq'
      subst ev
      obtain ⟨h2, g2, d2, t2, os'⟩ := s'
      refine ⟨rv, ?_⟩
      rcases cases_ with ⟨e, rfl⟩ | ⟨e, d, hd1, hda, rfl⟩
      · obtain ⟨t0, G, J, kG, ge, hoe⟩ := mk_bare (d2 := d2) (t2 := t2) I1 hsz kk un2 hok2 os2 bare2 upd_same
        rw [del_upd na] at J
        exact ⟨a, _, _, ⟨G, g2, d2, t2, os'⟩, _, .ref C, none, rfl, J, kG, ge, hoe, ⟨rfl, rfl⟩, rfl, rfl, na, rfl, bare2, raises_own T.exC T.tyC, q0 e⟩
      · have eH : upd (L2.del (upd (upd (upd H1 a (exo a C none)) d (exd d (fvV (L2.start N (V.ref a :: vs)) fl []))) a (exo a C (some d))) a) d (.xd (fvV (L2.start N (V.ref a :: vs)) fl [])) = upd H1 d (.xd (fvV (L2.start N (V.ref a :: vs)) fl [])) := by
          funext b
          by_cases hb : b = d
          · rw [hb, upd_same, upd_same]
          · by_cases hb' : b = a
            · rw [hb', upd_ne (Ne.symm hda), L2.del_same, upd_ne (Ne.symm hda), na]
            · rw [upd_ne hb, upd_ne hb, L2.del_ne hb', upd_ne hb', upd_ne hb, upd_ne hb']
        refine mk_end (raises_own T.exC T.tyC) I1 hsz kk un2 hok2 os2 bare2 upd_same (by rw [upd_ne hda, upd_same]) hd1 ?_
        rw [eH]
        exact q1 e d a hd1 na hda
    | next => exact False.elim hq'
    | brk => exact False.elim hq'
    | cont => exact False.elim hq'
end
end Mir

set_option maxHeartbeats 4000000
/-! Xc5: exceptions as values: made, read, asked for their class. -/
namespace Mir
open PySem L2 PyProof.Rows
/-- an exception object of a class, with its dict -/
def exV (cls : Value) (d : Option Addr) (a : Addr) : HO := .ext fun h => ∃ (oe : Obj) (vs : Array Value), h.get? a = some oe ∧ Zc cls d oe ∧ oe.data = .fields vs
theorem exV_ok {P : Program} {w : World} {H : Hp} {h : Heap} {a : Addr} {cls : Value} {d : Option Addr} {oe : Obj} {vs : Array Value} (e : h.get? a = some oe) (z : Zc cls d oe) (hd : oe.data = .fields vs) : ObjOk P w H h a (exV cls d a) :=
  ⟨⟨oe, vs, e, z, hd⟩, ⟨oe, e⟩, fun _ _ ⟨o, v, q, r⟩ k => ⟨o, v, k o q, r⟩⟩
theorem exV_at {P : Program} {w : World} {H : Hp} {h : Heap} {a : Addr} {cls : Value} {d : Option Addr} (hok : HOk P w H h) (ha : H a = some (exV cls d a)) : ∃ (oe : Obj) (vs : Array Value), h.get? a = some oe ∧ Zc cls d oe ∧ oe.data = .fields vs := by
  have x : ObjOk P w H h a (.ext fun h => ∃ (oe : Obj) (vs : Array Value), h.get? a = some oe ∧ Zc cls d oe ∧ oe.data = .fields vs) := hok a _ ha
  exact x.1
section
variable {X : Cx} {nm : Str} {b : Xb} {C fI : Addr} {k : Nat} {fd : FuncData} {ps N : List Str} {fl : Flds} {x : Str} {e : Expr} {es : List Expr} {ta : TA} {p pos : Pos}
theorem pmk_x (T : XC X.K C nm b) (iC : PySem.W.findIn X.K (.ref C) "__init__" = some (some (.ref fI))) (tI : PySem.W.typeIn X.K (.ref fI) = some (.type "function")) (F1 : FnOk X.prog X.w X.K X.mg X.base (CX X.prog X.w) k fI fd ps (spI C N ps.length fl))
    (hr : Room (k + 1) X.A) (hb : Binds X.K fd ps []) (hg : Gl X x) (hm : X.mg x = some (.ref C)) (hdb : (x == ("__debug__" : Str)) = false) (ha : PA X (e :: es) ta) (he : starEach (e :: es) X.env = (false, eval e X.env) :: starEach es X.env) (hpl : (backTo pos (starEach es X.env)).any (·.1) = false) :
    PMk X (.Call (.Name x p) (e :: es) [] pos) (tMkX C N ps.length fl ta) := by
  intro pins s σ H Q I h
  refine wpAny_Call_Name_kw (ld_glob I hg hm ?_ hdb)
  refine PySem.W.callWith_K (h₀ := X.base) I.ok.mod.kin T.kC (thn (ha.run pos pins s σ H _ I h) fun us s1 ⟨vs, H1, I1, r1, hn, hz, q0, q1⟩ => ⟨I1.kIn, ?_⟩) he hpl
  exact xcall T iC tI F1 hr hb I1 r1 hn hz q0 q1
theorem pmk_x0 (T : XC X.K C nm b) (iC : PySem.W.findIn X.K (.ref C) "__init__" = some (some (.ref fI))) (tI : PySem.W.typeIn X.K (.ref fI) = some (.type "function")) (F1 : FnOk X.prog X.w X.K X.mg X.base (CX X.prog X.w) k fI fd ps (spI C N ps.length fl))
    (hr : Room (k + 1) X.A) (hb : Binds X.K fd ps []) (hg : Gl X x) (hm : X.mg x = some (.ref C)) (hdb : (x == ("__debug__" : Str)) = false) : PMk X (.Call (.Name x p) [] [] pos) (tMkX C N ps.length fl tNil) := by
  intro pins s σ H Q I h
  refine wpAny_Call_Name_kw (ld_glob I hg hm ?_ hdb)
  obtain ⟨hn, hz, q0, q1⟩ := h
  exact PySem.W.callWith_K0 I.kIn T.kC (xcall (us := []) T iC tI F1 hr hb I .nil hn hz q0 q1)
/-- what makes an exception gives it as a value -/
theorem pe_of_mk {ex : Expr} {t : L2.St → Hp → XK → Prop} (h : PMk X ex t) : PE X ex (fun σ H Q => t σ H fun cls d H' => ∀ a, H' a = none → Q (.ref a) (upd H' a (exV cls d a))) := by
  refine ⟨fun pins s σ H Q I q => wpAny_mono (h pins s σ H _ I q) (fun u s' hu => ?_) fun _ _ z => z⟩
  obtain ⟨a, oe, vs, sI, H', cls, d, rfl, J, kp, hne, he, hz, hd, h1, na, os, ag, r, q⟩ := hu
  have J1 : Inv X pins σ H' { s' with heap := sI.heap } := ⟨J.ok, os.trans J.os, ag, J.base, J.loc, J.cell, J.free, J.freeC, J.pin, J.hok, J.len⟩
  have J2 : Inv X pins σ (upd H' a (exV cls d a)) s' := J1.laidN (h' := s'.heap) (t' := s'.toks) kp hne na (exV_ok he hz hd)
  exact ⟨.ref a, _, J2, rfl, q a na⟩
/-- e.f of such a value -/
theorem attr_x {pins : List (Addr × Obj)} {s : Shared} {σ : L2.St} {H : Hp} {Q : VK} {a d : Addr} {n : Str} {fs : List (Str × V)} {v : V} (T : XC X.K C nm b) (hno : PySem.W.findIn X.K (.ref C) n = some none) (I : Inv X pins σ H s)
    (ha : H a = some (exV (.ref C) (some d) a)) (hd : H d = some (.xd fs)) (hv : fs.lookup n = some v) (q : Q v H) (E : Value → Shared → Prop) : wpAny (model X.prog X.w) X.A (getAttr (.ref a) n true) (EP X pins σ Q) E s := by
  obtain ⟨oe, vs, ho, hz, hf⟩ := exV_at I.hok ha
  have hx : ObjOk X.prog X.w H s.heap d (.xd fs) := I.hok d _ hd
  obtain ⟨mA, hns, hr⟩ := hx
  obtain ⟨od, hod, hl⟩ := lookIn_ns hns
  obtain ⟨u, hu, ru⟩ := RelO.some_of (v := v) (o := mA n) (by rw [← hv]; exact hr n)
  have J : PySem.W.InstAt s.heap a oe C (some od) := ⟨ho, hz.1, by unfold PySem.W.notCls; rw [hf] <;> rfl, by rw [hz.2]; exact hod⟩
  exact HandSPX.exc_get I.kIn J T.ga T.gg T.exC (PySem.W.findObj_own T.has hno rfl (by rw [hl, hu])) (handed_of ru) ⟨v, H, I.tok _, ru, q⟩
end
end Mir

set_option maxHeartbeats 4000000
/-! XcK: an own exception class called with keywords. -/
namespace Mir
open PySem L2 PyProof.Rows
section
variable {M : Model} {A : Around} {E : Value → Shared → Prop} {h : Heap} {g : Array GenState} {d : Drawn} {t : Nat} {os : OsState}
variable {nm q : Str} {C N : Addr} {bs bm bmB : List Value} {hdct : Bool} {sn : List Str} {sub : List Value} {ab : Bool} {col : Option Bool} {dd : Option Addr} {k0 k1 k2 k3 k5 : Option Value} {B newId initId : String} {kw : List (Str × Value)}
theorem kw_check (F : ExcBaseFacts B newId initId bmB) (z1 : (Value.ref C :: bm).contains (.type B) = true) {rest : List Value} {Q : Unit → Shared → Prop} (hC : h.get? C = some (excClassObj nm q C N bs bm hdct sn sub ab col dd k0 k1 k2 k3 k5 newId)) (hq : Q () ⟨h, g, d, t, os⟩) :
    wpAny M A (checkBuiltinCall newId ⟨.ref C :: rest, kw⟩) Q E ⟨h, g, d, t, os⟩ := by
  have ns := F.noStar
  simp only [checkBuiltinCall, F.newKind, F.newSplit, F.newRow]
  repeat (first | refine wpAny_loadPart_at hC ?_ | (refine wpAny_isSubtype_exc hC ?_; rw [z1]) | refine wpAny_staticBase_exc hC ?_ | refine wpAny_madeBy_exc hC ?_ | simp only [bne_self_eq_false, Bool.false_eq_true, if_false] | wp_step)
  exact hq
end
section
variable {prog : Program} {w : World} {A : Around} {E : Value → Shared → Prop} {R : Result → Shared → Prop} {h : Heap} {g : Array GenState} {d : Drawn} {t : Nat} {os : OsState}
variable {nm q : Str} {C N : Addr} {bs bm bmB : List Value} {hdct : Bool} {sn : List Str} {sub : List Value} {ab : Bool} {col : Option Bool} {dd : Option Addr} {k0 k1 k2 k3 k5 : Option Value} {B newId initId : String} {kw : List (Str × Value)} {rest : List Value}
theorem kw_new (F : ExcBaseFacts B newId initId bmB) (z1 : (Value.ref C :: bm).contains (.type B) = true) (z2 : (Value.ref C :: bm).contains (.type "AttributeError") = false) (z3 : (Value.ref C :: bm).contains (.type "NameError") = false)
    (hC : h.get? C = some (excClassObj nm q C N bs bm hdct sn sub ab col dd k0 k1 k2 k3 k5 newId)) (hq : R (.ok (.ret (.ref (h.objs.size + 1)))) ⟨(h.push (PySem.W.kdv_tup rest)).push (PySem.HandSPX.excO C h.objs.size), g, d, t, os⟩) (fits : rest.length ≤ sizeLine) :
    codeAny (model prog w) A (.builtin newId ⟨.ref C :: rest, kw⟩) R ⟨h, g, d, t, os⟩ := by
  have e0 := F.ends
  refine codeAny_builtinAt F.entry ?_
  unfold Builtin.«BaseException.__new__»
  refine PySem.wpAt_bind ?_
  show PySem.wpAt _ _ _ (stack >>= _) _ _ _
  refine PySem.wpAt_bind (PySem.wpAt_stack fun p below => PySem.wpAt_of_wpAny ?_)
  wp_walk
  refine PySem.wpAt_of_wpAny ?_
  rw [F.owner]
  repeat (first | with_reducible refine wpAny_madeHere_exc F.canon hC ?_ | with_reducible refine wpAny_loadPart_at hC ?_ | (with_reducible refine wpAny_isSubtype_exc hC ?_; first | rw [z1] | rw [z2] | rw [z3]) | wp_step)
  show R _ _
  rw [Heap.size_push]
  exact hq
theorem kw_type (F : ExcBaseFacts B newId initId bmB) (z1 : (Value.ref C :: bm).contains (.type B) = true) (z2 : (Value.ref C :: bm).contains (.type "AttributeError") = false) (z3 : (Value.ref C :: bm).contains (.type "NameError") = false) {fI : Addr} {Q : Fin → Shared → Prop}
    (hC : h.get? C = some (excClassObj nm q C N bs bm hdct sn sub ab col dd k0 k1 k2 k3 k5 newId)) (hi : PySem.W.Looks (model prog w) h (typeLookup (.ref C) "__init__") (some (.ref fI))) (hb : ∀ self, PySem.W.Looks (model prog w) h (bindSpecial (.ref fI) self) (.ref fI, [self])) (fits : rest.length ≤ sizeLine)
    (hq : codeAny (model prog w) A (.call (.ref fI) ⟨.ref (h.objs.size + 1) :: rest, kw⟩) (fun r s' => match r with | .ok (.ret v) => v = .none ∧ Q (.done (.ret (.ref (h.objs.size + 1)))) s' | .ok _ => False | .error e => E e s') ⟨(h.push (PySem.W.kdv_tup rest)).push (PySem.HandSPX.excO C h.objs.size), g, d, t, os⟩) :
    wpAny (model prog w) A (Builtin.«type.__call__» ⟨.ref C :: rest, kw⟩) Q E ⟨h, g, d, t, os⟩ := by
  repeat (first | with_reducible refine wpAny_loadPart_at hC ?_ | with_reducible refine wpAny_madeBy_exc hC ?_ | wp_step)
  refine codeAny_call_builtin_code (Code.quiet_builtin _ F.quiet) (kw_check F z1 hC (kw_new F z1 z2 z3 hC ?_ fits))
  show wpAny _ _ _ _ _ _
  have kp : ∀ b o, h.get? b = some o → ((h.push (PySem.W.kdv_tup rest)).push (PySem.HandSPX.excO C h.objs.size)).get? b = some o := fun b o e => Heap.get?_push_of_some _ (Heap.get?_push_of_some _ e)
  have c1 := kp _ _ hC
  have at1 : ((h.push (PySem.W.kdv_tup rest)).push (PySem.HandSPX.excO C h.objs.size)).get? (h.objs.size + 1) = some (PySem.HandSPX.excO C h.objs.size) := by heap_get
  have own : (Value.ref C :: bm).contains (.ref C) = true := by simp
  have li := hi.keeps kp
  have lb := (hb (.ref (h.objs.size + 1))).keeps kp
  unfold isInstance
  repeat (first | with_reducible refine wpAny_loadPart_at at1 ?_ | (with_reducible refine wpAny_isSubtype_exc c1 ?_; rw [own]) | wp_step)
  show wpAny _ _ (typeLookup (.ref C) _) _ _ _
  refine li.at (wpAny_holding (wpAny_bind (lb.at (wpAny_bind (wpAny_call (codeAny_mono hq fun r s' z => ?_))))))
  rcases r with e | (v | _ | _ | _) <;> first | exact z | exact z.elim | skip
  obtain ⟨rfl, z⟩ := z
  first
    | exact wpAny_pure (wpAny_pure z)
    | (wp_walk; exact z)
theorem kw_call (F : ExcBaseFacts B newId initId bmB) (z1 : (Value.ref C :: bm).contains (.type B) = true) (z2 : (Value.ref C :: bm).contains (.type "AttributeError") = false) (z3 : (Value.ref C :: bm).contains (.type "NameError") = false) {fI : Addr}
    (hC : h.get? C = some (excClassObj nm q C N bs bm hdct sn sub ab col dd k0 k1 k2 k3 k5 newId)) (hi : PySem.W.Looks (model prog w) h (typeLookup (.ref C) "__init__") (some (.ref fI))) (hb : ∀ self, PySem.W.Looks (model prog w) h (bindSpecial (.ref fI) self) (.ref fI, [self])) (fits : rest.length ≤ sizeLine)
    (hq : codeAny (model prog w) (A.under (.builtin "type.__call__" ⟨.ref C :: rest, kw⟩)) (.call (.ref fI) ⟨.ref (h.objs.size + 1) :: rest, kw⟩) (PySem.W.InitBack (h.objs.size + 1) R) ⟨(h.push (PySem.W.kdv_tup rest)).push (PySem.HandSPX.excO C h.objs.size), g, d, t, os⟩) :
    codeAny (model prog w) A (.call (.ref C) ⟨rest, kw⟩) R ⟨h, g, d, t, os⟩ := by
  have u1 := tc_lookup
  have u2 := tc_bind (.ref C)
  have u3 : (⟨h, g, d, t, os⟩ : Shared).TypeIs (.ref C) "type" := ⟨_, hC, rfl⟩
  refine codeAny_of_tree ?_
  show wpAny _ _ (callAny (.ref C) _) _ _ _
  repeat (any_goals (first | assumption | with_reducible refine wpAny_loadPart_at hC ?_ | wp_step))
  refine ⟨rfl, codeAny_call_builtin_at (Code.quiet_builtin _ (by decide +kernel)) entry_typeCall (wpAny_check_type_call_sub hC (kw_type F z1 z2 z3 hC hi hb fits ?_))⟩
  refine codeAny_mono hq fun r s' z => ?_
  rcases r with e | (v | _ | _ | _) <;> exact z
end
/-- how a call's values go to a def's parameters: by their places among those that are written, then the keywords' -/
def gat {α : Type} (ord : List Nat) (us ws : List α) : List α := ord.filterMap fun i => (us ++ ws)[i]?
structure KwS where
  n : Nat
  ks : List Str
  ord : List Nat
theorem vals_at : ∀ {vs : List V} {us : List Value}, Vals vs us → ∀ i : Nat, (∃ v u, vs[i]? = some v ∧ us[i]? = some u ∧ RelV v u) ∨ (vs[i]? = none ∧ us[i]? = none)
  | _, _, .nil, i => .inr ⟨by simp, by simp⟩
  | _, _, .cons h t, 0 => .inl ⟨_, _, rfl, rfl, h⟩
  | _, _, .cons h t, i + 1 => by simpa using vals_at t i
theorem vals_app : ∀ {vs : List V} {us : List Value} {vs' : List V} {us' : List Value}, Vals vs us → Vals vs' us' → Vals (vs ++ vs') (us ++ us')
  | _, _, _, _, .nil, h => h
  | _, _, _, _, .cons a b, h => .cons a (vals_app b h)
theorem gat_vals {vs : List V} {us : List Value} {zs : List V} {ws : List Value} (h1 : Vals vs us) (h2 : Vals zs ws) : ∀ ord : List Nat, Vals (gat ord vs zs) (gat ord us ws)
  | [] => .nil
  | i :: r => by
    have h := gat_vals h1 h2 r
    unfold gat at h ⊢
    simp only [List.filterMap_cons]
    rcases vals_at (vals_app h1 h2) i with ⟨v, u, e1, e2, q⟩ | ⟨e1, e2⟩
    · rw [e1, e2]; exact .cons q h
    · rw [e1, e2]; exact h
abbrev KBs (K : PySem.W.Frag) (fd : FuncData) (ps : List Str) (n : Nat) (s : KwS) : Prop := KBn K fd ps n s.ks (gat s.ord) (gat s.ord)
theorem kbs_of {K : PySem.W.Frag} {fd : FuncData} {ps : List Str} {n : Nat} {s : KwS} (h : ∀ us ws : List Value, us.length = n → ws.length = s.ks.length → bindArgs fd ⟨us, s.ks.zip ws⟩ = pure (ps.zip (gat s.ord us ws))) : KBs K fd ps n s :=
  ⟨fun sh us ws _ l1 l2 => .of_eq (h us ws l1 l2), fun h1 h2 => gat_vals h1 h2 _⟩
theorem callK (b : Xb) {prog : Program} {w : World} {A : Around} {R : Result → Shared → Prop} {h : Heap} {g : Array GenState} {d : Drawn} {t : Nat} {os : OsState} {nm q : Str} {C N : Addr} {bs : List Value} {hdct : Bool} {sn : List Str} {sub : List Value} {ab : Bool} {col : Option Bool} {dd : Option Addr}
    {k0 k1 k2 k3 k5 : Option Value} {rest : List Value} {kw : List (Str × Value)} {fI : Addr} (hC : h.get? C = some (excClassObj nm q C N bs b.bm hdct sn sub ab col dd k0 k1 k2 k3 k5 b.new)) (hi : PySem.W.Looks (model prog w) h (typeLookup (.ref C) "__init__") (some (.ref fI)))
    (hb : ∀ self, PySem.W.Looks (model prog w) h (bindSpecial (.ref fI) self) (.ref fI, [self])) (hr : rest.length ≤ sizeLine)
    (hq : codeAny (model prog w) (A.under (.builtin "type.__call__" ⟨.ref C :: rest, kw⟩)) (.call (.ref fI) ⟨.ref (h.objs.size + 1) :: rest, kw⟩) (PySem.W.InitBack (h.objs.size + 1) R) ⟨(h.push (PySem.W.kdv_tup rest)).push (PySem.HandSPX.excO C h.objs.size), g, d, t, os⟩) :
    codeAny (model prog w) A (.call (.ref C) ⟨rest, kw⟩) R ⟨h, g, d, t, os⟩ := by
  have z : ∀ x : String, (Value.ref C :: b.bm).contains (.type x) = b.bm.contains (.type x) := fun x => by
    rw [List.contains_cons, show (Value.type x == Value.ref C) = false from by simp, Bool.false_or]
  cases b with
  | val => exact kw_call (bm := Xb.bm .val) F.excBase_ValueError (by rw [z]; decide +kernel) (by rw [z]; decide +kernel) (by rw [z]; decide +kernel) hC hi hb hr hq
  | index => exact kw_call (bm := Xb.bm .index) F.excBase_IndexError (by rw [z]; decide +kernel) (by rw [z]; decide +kernel) (by rw [z]; decide +kernel) hC hi hb hr hq
  | lookup => exact kw_call (bm := Xb.bm .lookup) F.excBase_LookupError (by rw [z]; decide +kernel) (by rw [z]; decide +kernel) (by rw [z]; decide +kernel) hC hi hb hr hq
  | run => exact kw_call (bm := Xb.bm .run) F.excBase_RuntimeError (by rw [z]; decide +kernel) (by rw [z]; decide +kernel) (by rw [z]; decide +kernel) hC hi hb hr hq
  | arith => exact kw_call (bm := Xb.bm .arith) F.excBase_ArithmeticError (by rw [z]; decide +kernel) (by rw [z]; decide +kernel) (by rw [z]; decide +kernel) hC hi hb hr hq
  | key => exact kw_call (bm := Xb.bm .key) F.excBase_LookupError (by rw [z]; decide +kernel) (by rw [z]; decide +kernel) (by rw [z]; decide +kernel) hC hi hb hr hq
  | over => exact kw_call (bm := Xb.bm .over) F.excBase_OverflowError (by rw [z]; decide +kernel) (by rw [z]; decide +kernel) (by rw [z]; decide +kernel) hC hi hb hr hq
/-- what is left where C is called with keywords -/
def tMkK (C : Addr) (N : List Str) (n : Nat) (fl : Flds) (ks : KwS) (ta tk : TA) : L2.St → Hp → XK → Prop := fun σ H Q => ta σ H fun vs H0 => tk σ H0 fun zs H1 => vs.length = ks.n ∧ zs.length = ks.ks.length ∧ vs.length ≤ 1000 ∧
  ∃ vz : List V, (∀ a, gat ks.ord (.ref a :: vs) zs = .ref a :: vz) ∧ vz.length + 1 = n ∧ (fl = [] → Q (.ref C) none H1) ∧
  (fl ≠ [] → ∀ d a, H1 d = none → H1 a = none → d ≠ a → Q (.ref C) (some d) (upd H1 d (.xd (fvV (L2.start N (.ref a :: vz)) fl []))))
section
variable {X : Cx} {pins : List (Addr × Obj)} {σ : L2.St} {nm : Str} {b : Xb} {C fI : Addr} {k : Nat} {fd : FuncData} {ps N : List Str} {fl : Flds} {ks : KwS}
theorem xcallK (T : XC X.K C nm b) (iC : PySem.W.findIn X.K (.ref C) "__init__" = some (some (.ref fI))) (tI : PySem.W.typeIn X.K (.ref fI) = some (.type "function")) (F1 : FnOk X.prog X.w X.K X.mg X.base (CX X.prog X.w) k fI fd ps (spI C N ps.length fl))
    (hr : Room (k + 1) X.A) (hb : KBs X.K fd ps (ks.n + 1) ks) {Q : XK} {H1 : Hp} {s1 : Shared} {us ws : List Value} {vs zs vz : List V} (I1 : Inv X pins σ H1 s1) (r1 : Vals vs us) (rz : Vals zs ws) (l1 : vs.length = ks.n) (l2 : zs.length = ks.ks.length) (hz : vs.length ≤ 1000) (hv : ∀ a, gat ks.ord (V.ref a :: vs) zs = .ref a :: vz) (hn : vz.length + 1 = ps.length) (q0 : fl = [] → Q (.ref C) none H1)
    (q1 : fl ≠ [] → ∀ d a, H1 d = none → H1 a = none → d ≠ a → Q (.ref C) (some d) (upd H1 d (.xd (fvV (L2.start N (.ref a :: vz)) fl [])))) :
    wpAny (model X.prog X.w) X.A (call (.ref C) us (ks.ks.zip ws)) (MkP X pins σ Q) X.xe s1 := by
  obtain ⟨qn, Nn, bs, sn, sub, ab, col, dd, k0, k1, k2, k3, k5, hC⟩ := T.cls
  obtain ⟨hp, g, dr, tk, os⟩ := s1
  generalize hA : hp.objs.size + 1 = a
  have hsz : hp.objs.size ≤ a := by omega
  have na : H1 a = none := I1.hok.fresh hsz
  have kk : ∀ b o, hp.get? b = some o → ((hp.push (PySem.W.kdv_tup us)).push (PySem.HandSPX.excO C hp.objs.size)).get? b = some o := fun b o e => Heap.get?_push_of_some _ (Heap.get?_push_of_some _ e)
  have hget : ((hp.push (PySem.W.kdv_tup us)).push (PySem.HandSPX.excO C hp.objs.size)).get? a = some (PySem.HandSPX.excO C hp.objs.size) := by rw [← hA]; heap_get
  have I2 : Inv X pins σ (upd H1 a (exo a C none)) ⟨(hp.push (PySem.W.kdv_tup us)).push (PySem.HandSPX.excO C hp.objs.size), g, dr, tk, os⟩ := I1.laid (t' := tk) kk hsz (exo_ok hget)
  have r0 : Vals (V.ref a :: vs) (Value.ref a :: us) := .cons rfl r1
  have r2 : Vals (V.ref a :: vz) (gat ks.ord (Value.ref a :: us) ws) := by rw [← hv a]; exact gat_vals r0 rz _
  have e1 : (Value.ref a :: us).length = ks.n + 1 := r0.length.symm.trans (congrArg Nat.succ l1)
  have e2 : ws.length = ks.ks.length := rz.length.symm.trans l2
  have hus : us.length ≤ sizeLine := by rw [← Paired.length r1, sizeLine_eq]; omega
  have hsp : spI C N ps.length fl (V.ref a :: vz) (upd H1 a (exo a C none)) (fun v H2 => v = .non ∧ ((fl = [] ∧ H2 = upd H1 a (exo a C none)) ∨ (fl ≠ [] ∧ ∃ d, H1 d = none ∧ d ≠ a ∧ H2 = upd (upd (upd H1 a (exo a C none)) d (exd d (fvV (L2.start N (V.ref a :: vz)) fl []))) a (exo a C (some d))))) (fun _ _ _ => False) := by
    refine ⟨a, vz, rfl, hn, upd_same, fun e => ⟨rfl, .inl ⟨e, rfl⟩⟩, fun e dx hd hne => ⟨rfl, .inr ⟨e, dx, ?_, hne, rfl⟩⟩⟩
    rw [upd_ne hne] at hd
    exact hd
  refine wpAny_call (callK b (I1.kIn _ _ hC) (PySem.W.looks_findIn I1.kIn iC) (fun self => PySem.W.bind_fn I1.kIn self tI) hus ?_)
  rw [hA]
  refine codeAny_mono (F1.run _ X.stack _ _ ⟨Value.ref a :: us, ks.ks.zip ws⟩ (gat ks.ord (Value.ref a :: us) ws) _ _ (fun _ _ _ => False) (hr.make C us (ks.ks.zip ws)) (I2.env0.make C us (ks.ks.zip ws)) (hb.to _ (Value.ref a :: us) ws I2.kIn e1 e2) r2 hsp) fun r s' hq' => ?_
  cases r with
  | error er =>
    obtain ⟨_, _, _, _, _, _, _, _, _, _, _, _, z⟩ := hq'
    exact z.elim
  | ok flw =>
    cases flw with
    | ret u =>
      obtain ⟨v, H2, os2, bare2, un2, hok2, rv, ev, cases_⟩ := hq'
      subst ev
      obtain ⟨h2, g2, d2, t2, os'⟩ := s'
      refine ⟨rv, ?_⟩
      rcases cases_ with ⟨e, rfl⟩ | ⟨e, d, hd1, hda, rfl⟩
      · obtain ⟨t0, G, J, kG, ge, hoe⟩ := mk_bare (d2 := d2) (t2 := t2) I1 hsz kk un2 hok2 os2 bare2 upd_same
        rw [del_upd na] at J
        exact ⟨a, _, _, ⟨G, g2, d2, t2, os'⟩, _, .ref C, none, rfl, J, kG, ge, hoe, ⟨rfl, rfl⟩, rfl, rfl, na, rfl, bare2, raises_own T.exC T.tyC, q0 e⟩
      · have eH : upd (L2.del (upd (upd (upd H1 a (exo a C none)) d (exd d (fvV (L2.start N (V.ref a :: vz)) fl []))) a (exo a C (some d))) a) d (.xd (fvV (L2.start N (V.ref a :: vz)) fl [])) = upd H1 d (.xd (fvV (L2.start N (V.ref a :: vz)) fl [])) := by
          funext b
          by_cases hb : b = d
          · rw [hb, upd_same, upd_same]
          · by_cases hb' : b = a
            · rw [hb', upd_ne (Ne.symm hda), L2.del_same, upd_ne (Ne.symm hda), na]
            · rw [upd_ne hb, upd_ne hb, L2.del_ne hb', upd_ne hb', upd_ne hb, upd_ne hb']
        refine mk_end (raises_own T.exC T.tyC) I1 hsz kk un2 hok2 os2 bare2 upd_same (by rw [upd_ne hda, upd_same]) hd1 ?_
        rw [eH]
        exact q1 e d a hd1 na hda
    | next => exact False.elim hq'
    | brk => exact False.elim hq'
    | cont => exact False.elim hq'
variable {x : Str} {e : Expr} {es : List Expr} {kws : List Keyword} {ta tk : TA} {p pos : Pos}
theorem pmk_xK (T : XC X.K C nm b) (iC : PySem.W.findIn X.K (.ref C) "__init__" = some (some (.ref fI))) (tI : PySem.W.typeIn X.K (.ref fI) = some (.type "function")) (F1 : FnOk X.prog X.w X.K X.mg X.base (CX X.prog X.w) k fI fd ps (spI C N ps.length fl))
    (hr : Room (k + 1) X.A) (hb : KBs X.K fd ps (ks.n + 1) ks) (hg : Gl X x) (hm : X.mg x = some (.ref C)) (hdb : (x == ("__debug__" : Str)) = false) (ha : PA X (e :: es) ta) (hkw : PK X kws tk) (hall : (backToKw pos (keywordEach kws X.env)).all (·.1.isSome) = true) (hks : (backToKw pos (keywordEach kws X.env)).filterMap (·.1) = ks.ks)
    (he : starEach (e :: es) X.env = (false, eval e X.env) :: starEach es X.env) (hpl : ((backTo pos (starEach (e :: es) X.env)).any (·.1) || (backToKw pos (keywordEach kws X.env)).any (·.1.isNone)) = false) :
    PMk X (.Call (.Name x p) (e :: es) kws pos) (tMkK C N ps.length fl ks ta tk) := by
  intro pins s σ H Q I h
  refine wpAny_Call_Name_kw (ld_glob I hg hm ?_ hdb)
  refine PySem.W.callWith_KW (h₀ := X.base) I.ok.mod.kin T.kC hall (thn (ha.run pos pins s σ H _ I h) fun us s1 ⟨vs, H1, I1, r1, q⟩ => ?_) hpl he
  refine thn (hkw.run pos pins s1 σ H1 _ I1 q) fun ws s2 ⟨zs, H2, I2, rz, l1, l2, hz, vz, hv, hn, q0, q1⟩ => ⟨I2.kIn, ?_⟩
  rw [hks]
  exact xcallK T iC tI F1 hr hb I2 r1 rz l1 l2 hz hv hn q0 q1
theorem pmk_xK0 (T : XC X.K C nm b) (iC : PySem.W.findIn X.K (.ref C) "__init__" = some (some (.ref fI))) (tI : PySem.W.typeIn X.K (.ref fI) = some (.type "function")) (F1 : FnOk X.prog X.w X.K X.mg X.base (CX X.prog X.w) k fI fd ps (spI C N ps.length fl))
    (hr : Room (k + 1) X.A) (hb : KBs X.K fd ps (ks.n + 1) ks) (hg : Gl X x) (hm : X.mg x = some (.ref C)) (hdb : (x == ("__debug__" : Str)) = false) (hkw : PK X kws tk) (hall : (backToKw pos (keywordEach kws X.env)).all (·.1.isSome) = true) (hks : (backToKw pos (keywordEach kws X.env)).filterMap (·.1) = ks.ks)
    (hpl : ((backTo pos (starEach [] X.env)).any (·.1) || (backToKw pos (keywordEach kws X.env)).any (·.1.isNone)) = false) :
    PMk X (.Call (.Name x p) [] kws pos) (tMkK C N ps.length fl ks tNil tk) := by
  intro pins s σ H Q I h
  refine wpAny_Call_Name_kw (ld_glob I hg hm ?_ hdb)
  refine PySem.W.callWith_KW0 (h₀ := X.base) I.ok.mod.kin T.kC hall ?_ hpl
  refine thn (hkw.run pos pins s σ H _ I h) fun ws s2 ⟨zs, H2, I2, rz, l1, l2, hz, vz, hv, hn, q0, q1⟩ => ⟨I2.kIn, ?_⟩
  rw [hks]
  exact xcallK (us := []) (vs := []) T iC tI F1 hr hb I2 .nil rz l1 l2 hz hv hn q0 q1
/-- f(.., k = v) -/
theorem pe_callS {CX : CXT} {f : Addr} {sp : Sp} {E : XK} (F : FnOk X.prog X.w X.K X.mg X.base CX k f fd ps sp) (hr : Room k X.A) (hg : Gl X x) (hm : X.mg x = some (.ref f)) (hk : PySem.W.keepIn X.K (.ref f) = true) (hb : KBs X.K fd ps 0 ks) (hx : Passes CX X E)
    (hkw : PK X kws tk) (hall : (backToKw pos (keywordEach kws X.env)).all (·.1.isSome) = true) (hks : (backToKw pos (keywordEach kws X.env)).filterMap (·.1) = ks.ks) (hdb : (x == ("__debug__" : Str)) = false)
    (hpl : ((backTo pos (starEach [] X.env)).any (·.1) || (backToKw pos (keywordEach kws X.env)).any (·.1.isNone)) = false) :
    PE X (.Call (.Name x p) [] kws pos) (tCallN 0 ks.ks.length sp (gat ks.ord) E tNil tk) := by
  refine ⟨fun pins s σ H Q I h => ?_⟩
  refine wpAny_Call_Name_kw (ld_glob I hg hm ?_ hdb)
  refine PySem.W.callWith_KW0 (h₀ := X.base) I.ok.mod.kin hk hall ?_ hpl
  refine thn (hkw.run pos pins s σ H _ I h) fun ws s2 ⟨zs, H2, I2, rz, l1, l2, q2⟩ => ⟨I2.kIn, ?_⟩
  rw [hks]
  exact run_fnN (us := []) (vs := []) F hr hb hx I2 .nil rz rfl l2 q2
end
end Mir

set_option maxHeartbeats 4000000
/-! Xc6: isinstance of exceptions that are values. -/
namespace Mir
open PySem L2 PyProof.Rows
section
variable {K : PySem.W.Frag} {C : Addr} {nm : Str} {b : Xb}
theorem XC.find (T : XC K C nm b) (od : Option Obj) : PySem.W.findObj K C od "__class__" = some (.bind (.builtin "getset_descriptor.__get__") (.builtin "object.__class__")) := by
  obtain ⟨cd, h1, _, _⟩ := T.cd
  unfold PySem.W.findObj
  rw [h1, Option.bind_some, T.ca, Option.bind_some]
  simp [T.cn, T.ct]
theorem XC.top (T : XC K C nm b) : PySem.W.mroIn K C (.type "object") = some true := by
  rw [T.mro, List.contains_cons, b.ok.obj, Bool.or_true]
/-- x.__class__ -/
theorem ask_class {prog : Program} {w : World} {A : Around} {E : Value → Shared → Prop} {s : Shared} {x : Addr} {ox : Obj} {od : Option Obj} {Q : Option Value → Shared → Prop} (T : XC K C nm b) (X : K.In s.heap) (I : PySem.W.InstAt s.heap x ox C od)
    (h : Q (some (.ref C)) { s with toks := s.toks + 1 }) : wpAny (model prog w) A (getAttr? (.ref x) "__class__") Q E s := by
  obtain ⟨hp, g, d, t, os⟩ := s
  have l0 := I.type (M := model prog w)
  have l1 := PySem.W.looks_findIn (M := model prog w) X T.ga
  have l2 := PySem.W.looks_findIn (M := model prog w) X T.gg
  have l3 := PySem.W.looks_find (M := model prog w) X I (T.find od)
  have is : PySem.W.Looks (model prog w) hp (isInstance (.ref x) (.type "BaseException")) true := l0.andThen (PySem.W.looks_subIn X T.exC)
  have n2 : (Value.builtin "BaseException.__getattribute__" == Value.builtin "object.__getattribute__") = false := by decide +kernel
  have n1 : (onTheHeap (Value.ref C) && Value.builtin "BaseException.__getattribute__" == Value.builtin "object.__getattribute__") = false := by rw [n2]; rfl
  have n0 : (false && onTheHeap (Value.builtin "BaseException.__getattribute__")) = false := rfl
  unfold getAttr? getAttrBy? getAttrBy
  refine wpAny_bind (wpAny_mkText (wpAny_bind (wpAny_attempt (wpAny_holding (wpAny_bind (l0.at (wpAny_bind (l1.at ?_))))))))
  show wpAny _ _ (if (onTheHeap (Value.ref C) && Value.builtin "BaseException.__getattribute__" == Value.builtin "object.__getattribute__") = true then _ else _) _ _ _
  rw [n1, if_neg Bool.false_ne_true]
  unfold getAttrByItsOwn hookBefore
  refine wpAny_bind ?_
  rw [if_pos (show onTheHeap (Value.ref C) = true from rfl)]
  refine l2.at (wpAny_bind (wpAny_attempt (wpAny_holding ?_)))
  unfold callGetattribute
  rw [n0, if_neg Bool.false_ne_true]
  unfold boundAndCalled
  rw [PySem.F.excAttr_ValueError.ga.bind (.ref x)]
  refine wpAny_bind (wpAny_pure ?_)
  show wpAny _ _ (call (.builtin "BaseException.__getattribute__") [.ref x, .str "__class__" t]) _ _ _
  refine wpAny_call (codeAny_call_builtin PySem.F.excAttr_ValueError.ga.plain PySem.F.entry_bexc_ga ?_)
  refine @PySem.W.check_slot (model prog w) _ _ ⟨hp, g, d, t + 1, os⟩ "BaseException.__getattribute__" "BaseException" "__getattribute__" (.ref x) [.str "__class__" t] [] _ (by decide +kernel) (by decide +kernel) is (PySem.F.args_bexc_ga (.ref x) (.str "__class__" t)) ?_
  unfold Builtin.«object.__getattribute__»
  refine wpAny_bind (wpAny_of_eq (a := ((Value.ref x : Value), [Value.str "__class__" t])) (by first | rfl | (simp only [slotArgs]; rfl)) (wpAny_bind (wpAny_pure (wpAny_bind (l0.at (wpAny_bind (l3.at ?_)))))))
  show wpAny _ _ (holding [Value.builtin "object.__class__"] (call (.builtin "getset_descriptor.__get__") [.builtin "object.__class__", .ref x, .ref C]) >>= ret) _ _ _
  refine wpAny_bind (wpAny_holding (wpAny_call (PySem.W.class_get (s := ⟨hp, g, d, t + 1, os⟩) (ox := ox) (od := od) X I T.top (wpAny_pure ?_))))
  show wpAny _ _ (handedOut (.ref C)) _ _ _
  rw [PySem.W.handedOut_of (v := .ref C) rfl]
  first
    | exact wpAny_pure (wpAny_pure h)
    | exact wpAny_pure h
    | exact wpAny_pure (wpAny_bind (wpAny_pure (wpAny_pure h)))
theorem XC.kit (T : XC K C nm b) {x : Addr} {ox : Obj} {od : Option Obj} : PySem.W.KitX K (.ref x) (.ref C) (fun h => PySem.W.InstAt h x ox C od) := by
  obtain ⟨q, N, bs, sn, sub, ab, col, dd, k0, k1, k2, k3, k5, hC⟩ := T.cls
  refine ⟨fun _ _ _ I => I.type, fun _ _ X _ A' Q' E' s' kp qq => ?_, fun h tp d its n sl X htp => ?_, fun X I k => ask_class T X I k⟩
  · unfold isType loadHead
    exact wpAny_bind (wpAny_loadPart (kp _ _ (X _ _ hC)) (wpAny_pure qq))
  · refine Bool.eq_false_iff.mpr fun e => ?_
    cases Value.ref.inj (beq_iff_eq.mp e)
    have e2 := congrArg (fun o => (o.map Obj.data)) ((X _ _ hC).symm.trans htp)
    simp [excClassObj] at e2
/-- of two own classes: by their names -/
theorem XC.inj {C' : Addr} {nm' : Str} {b' : Xb} (T : XC K C nm b) (T' : XC K C' nm' b') (e : C = C') : nm = nm' := by
  subst e
  obtain ⟨q, N, bs, sn, sub, ab, col, dd, k0, k1, k2, k3, k5, h1⟩ := T.cls
  obtain ⟨q', N', bs', sn', sub', ab', col', dd', k0', k1', k2', k3', k5', h2⟩ := T'.cls
  rw [h1] at h2
  have h3 := Option.some.inj h2
  unfold excClassObj at h3
  have h4 := congrArg Obj.data h3
  simp only [Data.cls.injEq, ClassData.mk.injEq] at h4
  exact h4.1
/-- isinstance by the names -/
theorem kit_own {C' : Addr} {nm' : Str} {b' : Xb} (T : XC K C nm b) (T' : XC K C' nm' b') (inj : nm = nm' → C = C') : PySem.W.kitOne K (.ref C) (.ref C') = some (decide (nm = nm')) := by
  unfold PySem.W.kitOne
  by_cases h : C = C'
  · subst h
    have hn : nm = nm' := T.inj T' rfl
    rw [if_pos (by simp)]
    simp [hn]
  · have hn : nm ≠ nm' := fun e => h (inj e)
    rw [if_neg (by simpa using h)]
    obtain ⟨cd, h1, _, _⟩ := T'.cd
    unfold PySem.W.kitCls
    simp only
    rw [if_pos (by rw [h1, T'.tyC]; rfl)]
    show PySem.W.mroIn K C (.ref C') = _
    rw [T.mro, List.contains_cons]
    have e1 : (Value.ref C' == Value.ref C) = false := by simpa using fun z => h z.symm
    have e2 : b.bm.contains (.ref C') = false := by cases b <;> rfl
    rw [e1, e2]
    simp [hn]
theorem kit_xty (T : XC K C nm b) (t : Xb) : PySem.W.kitOne K (.ref C) (.type t.nm) = some (b.le t) := by
  unfold PySem.W.kitOne
  rw [if_neg (by simp)]
  unfold PySem.W.kitCls
  simp only
  have e0 : PySem.W.kitMeta t.nm = true := by cases t <;> decide +kernel
  rw [if_pos e0]
  show PySem.W.mroIn K C (.type t.nm) = _
  rw [T.mro]
  have : ∀ (b t : Xb), (Value.ref C :: b.bm).contains (.type t.nm) = b.le t := by
    intro b t
    rw [List.contains_cons]
    have e1 : (Value.type t.nm == Value.ref C) = false := by simp
    rw [e1, Bool.false_or]
    cases b <;> cases t <;> decide +kernel
  rw [this]
end
end Mir

set_option maxHeartbeats 4000000
/-! Xc7: try: .. except X as e: y = e, the exception kept. -/
namespace Mir
open PySem L2 PyProof.Rows
section
variable {X : Cx} {pins : List (Addr × Obj)} {σ : L2.St} {H : Hp} {s : Shared} {a : Addr} {o : HO}
/-- an object that is there, untracked, and wasn't there at the entry, may be tracked -/
theorem inv_track (I : Inv X pins σ H s) (na : H a = none) (n0 : X.s_0.heap.get? a = none) (nL : a ≠ X.env.locals) (nC : ∀ x c, X.env.cells.lookup x = some c → c ≠ a) (nP : ∀ p ∈ X.pn ++ pins, p.1 ≠ a) (new : ObjOk X.prog X.w (upd H a o) s.heap a o) : Inv X pins σ (upd H a o) s := by
  have ne0 : ∀ b u, X.s_0.heap.get? b = some u → b ≠ a := fun b u e z => by rw [z, n0] at e; cases e
  have neH : ∀ {b : Addr} {u : HO}, H b = some u → b ≠ a := fun {b u} e => ne_of_none e na
  refine ⟨I.ok, I.os, I.bare, ⟨I.base.keep, I.base.slot, fun b u e n hx => ?_, I.base.there, fun b xs e => ?_, fun b u v e => ?_, fun b ps e => ?_⟩, I.loc, I.cell, ?_, fun x c e => ?_, fun p hp => ?_, fun b u e => ?_, I.len⟩
  · rw [upd_ne (ne0 b u e)]; exact I.base.free b u e n hx
  · have q := I.base.tups b xs e
    rw [upd_ne (neH q)]; exact q
  · have q := I.base.frzs b u v e
    rw [upd_ne (neH q)]; exact q
  · obtain ⟨m, q⟩ := I.base.tbls b ps e
    exact ⟨m, by rw [upd_ne (neH q)]; exact q⟩
  · rw [upd_ne (Ne.symm nL)]; exact I.free
  · rw [upd_ne (nC x c e)]; exact I.freeC x c e
  · obtain ⟨e1, e2, e3⟩ := I.pin p hp
    exact ⟨e1, by rw [upd_ne (nP p hp)]; exact e2, e3⟩
  · by_cases hb : b = a
    · subst hb
      rw [upd_same] at e
      cases e
      exact new
    · rw [upd_ne hb] at e
      exact (I.hok b u e).stay (fun c v _ q => q) (fun c q => by rw [upd_ne (neH q)]; exact q) fun c xs q => by rw [upd_ne (neH q)]; exact q
end
/-- what is wished of an exception of the body: slot i is the clause's name's, slot j the keeper's -/
def wKeep (K : PySem.W.Frag) (c : Value) (i j : Nat) (Wout : WX) (D : Ends) : WX := fun cls d σ H =>
  ∃ b, PySem.W.exmOne K cls c = some b ∧ (b = true → ∀ a, H a = none → D.nx ((σ.set i (some (.ref a))).set j (some (.ref a)) |>.set i none) (upd H a (exV cls d a))) ∧ (b = false → Wout cls d σ H)
section
variable {X : Cx} {x n y : Str} {c : Value} {i j : Nat} {body : List Stmt} {np py pn' pa pos pos' : Pos} {tb : WX → TS} {Wout : WX}
theorem ps_try_keep (hs : X.stack = X.env :: X.outer) (hf : X.env.frame = some X.env.locals) (hex : X.ex = []) (hN : X.N.Nodup) (hi : X.N[i]? = some n) (hln : X.env.scope.names.lookup n = some .local) (hj : X.N[j]? = some y) (hly : X.env.scope.names.lookup y = some .local) (hc : Names X x c) (tk : Takes X Wout)
    (hn1 : (n == ("__debug__" : Str)) = false) (hn2 : (n == ("__classdict__" : Str)) = false)
    (hb : ∀ (W : WX) (pn : List (Addr × Obj)) (xe : Value → Shared → Prop), Takes (X.tr pn xe) W → PassesOwn (model X.prog X.w) X.A X.env xe → PSs (X.tr pn xe) body (tb W)) :
    PS X (.Try body [.ExceptHandler (some (.Name x np)) (some n) [.Assign [.Name y py] (.Name n pn') pa] pos'] [] [] pos) (fun D σ H => tb (wKeep X.K c i j Wout D) D σ H) := by
  refine ⟨fun pins s σ H D I h => wpAny_Try_except ?_⟩
  have ok := I.ok
  have frm : X.A.frames = some (X.env :: X.outer) := by rw [ok.frames, hs]
  have hkn : X.env.kindOf n = some .local := hln
  refine wpAny_mono ((hb (wKeep X.K c i j Wout D) (X.pn ++ pins) (fun e s₁ => wpAny (model X.prog X.w) X.A (noteFrame e X.env) (fun _ s₂ => wpAny (model X.prog X.w) X.A (setFlight e none) (fun _ s₃ => wpAny (model X.prog X.w) X.A
    (handleBy e X.env [.ExceptHandler (some (.Name x np)) (some n) [.Assign [.Name y py] (.Name n pn') pa] pos']) (SP X pins D) X.xe s₃) X.xe s₂) X.xe s₁) (fun u s' xx => ?_) PassesOwn.looking).run [] s σ H D (I.toTry _) h) (fun fw s1 hsp => ?_) (fun e s1 he => he)
  · obtain ⟨a, G, sI, pins', σ', H', cls, d, rfl, J', nb, up, sky, na, os, ag, t, ht, hyes, hno⟩ := xx
    have J : Inv X pins σ' H' sI := J'.ofTry ok
    rw [hs] at sky
    show wpAny (model X.prog X.w) X.A (noteFrame (.ref a) X.env) _ _ _
    refine Sky.land Zc.steady frm hf sky fun h3 fl3 up3 => ?_
    obtain ⟨oe3, vs3, he3, hz3, hd3⟩ := fl3.there
    have J3 : Inv X pins σ' H' { s' with heap := h3 } := J.landed nb fl3.1 (up.trans up3) os ag
    have nfr : a ∉ frs (X.env :: X.outer) := fun hm => by
      obtain ⟨_, o', e', q'⟩ := fl3.2.2.1.mem hm
      rw [he3] at e'
      cases e'
      exact q' _ hd3
    have nL : a ≠ X.env.locals := fun z => nfr (List.mem_filterMap.mpr ⟨X.env, List.mem_cons_self, by rw [hf, z]⟩)
    have nF : a ∉ X.fs := fun hm => by
      obtain ⟨e, he, q⟩ := List.mem_filterMap.mp hm
      exact nfr (List.mem_filterMap.mpr ⟨e, List.mem_cons_of_mem _ he, q⟩)
    have nI : sI.heap.get? a = none := by
      cases q : sI.heap.get? a with
      | none => rfl
      | some o' =>
        have z := nb a o' q (by rw [hs]; exact nfr)
        rw [fl3.2.1] at z
        cases z
    have n0 : X.s_0.heap.get? a = none := by
      cases q : X.s_0.heap.get? a with
      | none => rfl
      | some o' =>
        obtain ⟨o2, z⟩ := J.base.there a o' q (by rw [hex]; simp)
        rw [nI] at z
        cases z
    have nC : ∀ x c, X.env.cells.lookup x = some c → c ≠ a := fun x c e z => by
      obtain ⟨v, o', q, _⟩ := J.cell x c e
      rw [z, nI] at q
      cases q
    have nP : ∀ p ∈ X.pn ++ pins, p.1 ≠ a := fun p hp z => by
      obtain ⟨q, _⟩ := J.pin p hp
      rw [z, nI] at q
      cases q
    have S3 := J3.suite he3 hd3 na nL nF
    refine wpAny_handleBy_cons (codeAny_handlers_test ?_) (by intro q; cases q)
    have LT : PySem.W.Looks (model X.prog X.w) h3 (typeOf (.ref a)) cls := fun A Q E s k q => wpAny_typeOf_ref (k _ _ he3) (by rw [hz3.1]; exact q)
    have LM := PySem.W.exm_one (M := model X.prog X.w) (J3.kIn) LT ht
    have named : ∀ {Q : Value → Shared → Prop} {E : Value → Shared → Prop}, Q c { s' with heap := h3 } → wpAny (model X.prog X.w) (X.A.mark (some (.ref a))) (eval (.Name x np) X.env) Q E { s' with heap := h3 } := fun {Q E} q => by
      obtain ⟨g1, g2, g3 | ⟨g3, g4, g5⟩⟩ := hc
      · exact ld_glob (X := X.suite a ((a, oe3) :: (X.pn ++ pins))) S3 g1 g3 q g2
      · exact ld_blt (X := X.suite a ((a, oe3) :: (X.pn ++ pins))) S3 g1 g3 g4 q g5 g2
    refine named (LM.here ?_)
    cases t with
    | true =>
      refine codeAny_handlers_suite_as (HandSPX.lands_againZ fl3 fun h4 fl4 up4 => ?_)
      obtain ⟨oe4, vs4, he4, hz4, hd4⟩ := fl4.there
      have S4 := (J.landed nb fl4.1 ((up.trans up3).trans up4) os ag : Inv X pins σ' H' { s' with heap := h4 }).suite he4 hd4 na nL nF
      refine store_ok (X := X.suite a ((a, oe4) :: (X.pn ++ pins))) (v := .ref a) S4 hN hi (.inl hln) rfl (fun s5 S5 => ?_) (.inr hln)
      have len : i < σ'.length := by rw [J.len]; exact (List.getElem?_eq_some_iff.mp hi).1
      have suite : PSs (X.suite a ((a, oe4) :: (X.pn ++ pins))) [.Assign [.Name y py] (.Name n pn') pa] _ := pss_one (ps_set (i := j) hN hj (.inl hly) (pe_var (i := i) hi (.inl hln) hn1 hn2) rfl (.inr hly))
      refine wpAny_mono (suite.run [] s5 _ H' { nx := fun σ6 H6 => σ6 = (σ'.set i (some (.ref a))).set j (some (.ref a)) ∧ H6 = H', rt := fun _ _ => False } S5 ⟨.ref a, List.getElem?_set_self len, rfl, rfl⟩) (fun fw s6 hsp => ?_) (fun _ _ z => False.elim z)
      cases fw with
      | next =>
        obtain ⟨σ6, H6, S6, rfl, rfl⟩ := hsp
        refine gone_ok (X := X.suite a ((a, oe4) :: (X.pn ++ pins))) S6 hN hi hkn fun s7 S7 => ?_
        have ha7 := (S7.pin (a, oe4) (List.mem_append_left _ (List.mem_cons_self))).1
        exact ⟨_, _, inv_track (S7.unsuite ok) na n0 nL nC nP (exV_ok ha7 hz4 hd4), hyes rfl a na⟩
      | brk => obtain ⟨_, _, _, z⟩ := hsp; exact z.elim
      | cont => obtain ⟨_, _, _, z⟩ := hsp; exact z.elim
      | ret u => obtain ⟨_, _, _, _, _, z⟩ := hsp; exact z.elim
    | false =>
      show wpAny _ X.A (handleBy (.ref a) X.env []) _ _ _
      refine wpAny_handleBy_nil ?_
      obtain ⟨_, _, _, oe, vs, T, oT, ts', he, hz, hd, h1, hr⟩ := id fl3
      unfold PySem.passOn
      refine wpAny_bind (wpAny_field he hd h1 ?_)
      rw [if_neg (show ¬ ((Value.ref T == Value.none) = true) from by simp)]
      have on : wpAny (model X.prog X.w) X.A (setFlight (.ref a) X.env.frame) (fun _ s4 => wpAny (model X.prog X.w) X.A (throw (.ref a) : Sem Flow) (SP X pins D) X.xe s4) X.xe { s' with heap := h3 } := by
        rw [hf]
        exact HandSPX.setFlight_upZ fl3 fun h4 hh4 up4 => wpAny_throw (tk _ _ ⟨a, G, sI, pins, σ', H', cls, d, rfl, J, nb, (up.trans up3).trans up4, .inr (.inr (by rw [hs]; exact hh4)), na, os, ag, hno rfl⟩)
      first
        | exact wpAny_bind (wpAny_pure (wpAny_bind on))
        | exact wpAny_bind on
  · cases fw with
    | next =>
      obtain ⟨σ', H', J', q⟩ := hsp
      exact wpAny_execs_nil ⟨σ', H', J'.ofTry ok, q⟩
    | brk => obtain ⟨σ', H', J', q⟩ := hsp; exact ⟨σ', H', J'.ofTry ok, q⟩
    | cont => obtain ⟨σ', H', J', q⟩ := hsp; exact ⟨σ', H', J'.ofTry ok, q⟩
    | ret u => obtain ⟨v, σ', H', J', r, q⟩ := hsp; exact ⟨v, σ', H', J'.ofTry ok, r, q⟩
end
end Mir

/-! Mir1: tree values, live cells, the predicate-transformer monad, and how a tree stands in the abstract heap. -/
namespace Mir
open PySem L2

/-- the built-in types that are named -/
inductive Ty where
  | int | bool | str | tuple | list | dict | none
  deriving DecidableEq
def Ty.name : Ty → String
  | .int => "int" | .bool => "bool" | .str => "str" | .tuple => "tuple" | .list => "list" | .dict => "dict" | .none => "NoneType"
/-- an own exception class: its name, what it stands under -/
structure XN where
  n : Str
  b : Xb
/-- values as trees: frozen lists and dicts are trees, live (mutable) ones are addresses -/
inductive D where
  | non | bl (b : Bool) | int (i : Int) | str (s : Str)
  | tup (l : List D) | lst (l : List D) | dct (l : List (Key × D))
  | scr (l : List D) | ref (p : Addr) | glo (x : Str) | ty (t : Ty)
  | exc (c : XN) (fs : List (Str × D)) | cls (c : XN) | xty (b : Xb)
/-- what stands at a live address -/
inductive Cell where
  | lst (l : List D) | dct (l : List (Key × D)) | ins (c : Str) (fs : List (Str × D))
abbrev MS := Addr → Option Cell
def MS.set (M : MS) (p : Addr) (c : Cell) : MS := fun q => if q = p then some c else M q
def MS.del (M : MS) (p : Addr) : MS := fun q => if q = p then none else M q
theorem MS.set_same {M : MS} {p : Addr} {c : Cell} : M.set p c p = some c := by unfold MS.set; rw [if_pos rfl]
theorem MS.set_ne {M : MS} {p q : Addr} {c : Cell} (h : q ≠ p) : M.set p c q = M q := by unfold MS.set; rw [if_neg h]
theorem MS.del_same {M : MS} {p : Addr} : M.del p p = none := by unfold MS.del; rw [if_pos rfl]
theorem MS.del_ne {M : MS} {p q : Addr} (h : q ≠ p) : M.del p q = M q := by unfold MS.del; rw [if_neg h]

/-- an exception as a tree: its class's name, its fields -/
structure XV where
  cls : XN
  fs : List (Str × D)

/-- predicate transformers, monotone by construction -/
structure W (α : Type) where
  run : MS → (α → MS → Prop) → (XV → MS → Prop) → Prop
  mono : ∀ {M Q Q' E E'}, run M Q E → (∀ a M', Q a M' → Q' a M') → (∀ x M', E x M' → E' x M') → run M Q' E'
namespace W
def pure {α : Type} (a : α) : W α := ⟨fun M Q _ => Q a M, fun h q _ => q _ _ h⟩
def bind {α β : Type} (m : W α) (k : α → W β) : W β := ⟨fun M Q E => m.run M (fun a M' => (k a).run M' Q E) E, fun h q e => m.mono h (fun a M' h' => (k a).mono h' q e) e⟩
def fail {α : Type} : W α := ⟨fun _ _ _ => False, fun h _ _ => h⟩
/-- a condition that must hold -/
def need {α : Type} (c : Prop) (k : W α) : W α := ⟨fun M Q E => c ∧ k.run M Q E, fun h q e => ⟨h.1, k.mono h.2 q e⟩⟩
/-- the state is read -/
def get {α : Type} (k : MS → W α) : W α := ⟨fun M Q E => (k M).run M Q E, fun h q e => (k _).mono h q e⟩
/-- a live cell is written -/
def put {α : Type} (p : Addr) (c : Cell) (k : W α) : W α := ⟨fun M Q E => k.run (M.set p c) Q E, fun h q e => k.mono h q e⟩
/-- a new live cell -/
def new (c : Cell) : W D := ⟨fun M Q _ => ∀ p, M p = none → Q (.ref p) (M.set p c), fun h q _ p hp => q _ _ (h p hp)⟩
/-- a new live cell, its address handed on -/
def alloc {α : Type} (c : Cell) (k : Addr → W α) : W α := ⟨fun M Q E => ∀ p, M p = none → (k p).run (M.set p c) Q E, fun h q e p hp => (k p).mono (h p hp) q e⟩
/-- a live cell is given up -/
def del {α : Type} (p : Addr) (k : W α) : W α := ⟨fun M Q E => k.run (M.del p) Q E, fun h q e => k.mono h q e⟩
def raise {α : Type} (x : XV) : W α := ⟨fun M _ E => E x M, fun h _ e => e _ _ h⟩
/-- any whole number below n -/
def any (n : Int) : W Int := ⟨fun M Q _ => ∀ r : Int, 0 ≤ r → r < n → Q r M, fun h q _ r h1 h2 => q _ _ (h r h1 h2)⟩
/-- in turn -/
def each {α β : Type} (f : α → W β) : List α → W (List β)
  | [] => pure []
  | a :: r => bind (f a) fun b => bind (each f r) fun bs => pure (b :: bs)
end W
instance : Monad W where
  pure := W.pure
  bind := W.bind

/-! ### association lists -/
section
variable {κ α : Type} [DecidableEq κ]
def getA (l : List (κ × α)) (k : κ) : Option α := (l.find? fun kv => decide (kv.1 = k)).map (·.2)
def putA (l : List (κ × α)) (k : κ) (a : α) : List (κ × α) :=
  if (l.any fun kv => decide (kv.1 = k)) = true then l.map (fun kv => if kv.1 = k then (kv.1, a) else kv) else l ++ [(k, a)]
def dropA (l : List (κ × α)) (k : κ) : List (κ × α) := l.filter fun kv => decide (kv.1 ≠ k)
end

/-! ### how trees stand in the abstract heap -/
section
variable (K : PySem.W.Frag) (mg : Str → Option Value) (H : Hp) (M : MS)
mutual
def Rep : D → V → Prop
  | .non, v => v = .non
  | .bl b, v => v = .bl b
  | .int i, v => v = .int i
  | .str s, v => v = .str s
  | .tup l, v => ∃ p vs, v = .ref p ∧ ((Rd H p (.tup vs) ∧ M p = none) ∨ SqT K (fun _ => none) p vs) ∧ RepL l vs
  | .lst l, v => ∃ p vs, v = .ref p ∧ (H p = some (.lst vs) ∧ M p = none) ∧ RepL l vs
  | .scr l, v => ∃ p vs, v = .ref p ∧ ((Rd H p (.lst vs) ∧ M p = none) ∨ SqL K (fun _ => none) p vs) ∧ RepL l vs
  | .dct l, v => ∃ p kvs, v = .ref p ∧ (H p = some (.dK kvs) ∧ M p = none) ∧ RepK l kvs
  | .ref p, v => v = .ref p
  | .glo x, v => ∃ a, mg x = some (.ref a) ∧ v = .ref a
  | .ty t, v => v = .ty t.name
  | .exc c fs, v => ∃ p C od kvs, v = .ref p ∧ mg c.n = some (.ref C) ∧ XC K C c.n c.b ∧ (∀ f ∈ fs.map (·.1), PySem.W.findIn K (.ref C) f = some none) ∧ (H p = some (exV (.ref C) od p) ∧ M p = none) ∧
      ((od = none ∧ kvs = []) ∨ ∃ d, od = some d ∧ H d = some (.xd kvs) ∧ M d = none) ∧ RepX fs kvs
  | .cls c, v => ∃ C, mg c.n = some (.ref C) ∧ XC K C c.n c.b ∧ v = .ref C
  | .xty b, v => v = .ty b.nm
def RepL : List D → List V → Prop
  | [], vs => vs = []
  | d :: l, vs => ∃ v r, vs = v :: r ∧ Rep d v ∧ RepL l r
def RepK : List (Key × D) → List (Key × V) → Prop
  | [], vs => vs = []
  | (k, d) :: l, vs => ∃ v r, vs = (k, v) :: r ∧ Rep d v ∧ RepK l r
def RepX : List (Str × D) → List (Str × V) → Prop
  | [], vs => vs = []
  | (k, d) :: l, vs => ∃ v r, vs = (k, v) :: r ∧ Rep d v ∧ RepX l r
end
/-- pairs, by key -/
def RepP {κ : Type} : List (κ × D) → List (κ × V) → Prop
  | [], vs => vs = []
  | (k, d) :: l, vs => ∃ v r, vs = (k, v) :: r ∧ Rep K mg H M d v ∧ RepP l r
/-- a live cell stands as it is told -/
def CellRep (p : Addr) : Cell → Prop
  | .lst l => ∃ vs, H p = some (.lst vs) ∧ RepL K mg H M l vs
  | .dct l => ∃ kvs, H p = some (.dK kvs) ∧ RepP K mg H M l kvs
  | .ins c fs => ∃ C dx kvs, mg c = some (.ref C) ∧ H p = some (.ins C dx kvs) ∧ RepP K mg H M fs kvs
structure RelM : Prop where
  at_ : ∀ p c, M p = some c → CellRep K mg H M p c
  sys : (∃ o y, H sysModules = some (.frz o (.own y))) ∧ M sysModules = none
end
/-- what is not live stays as it is, and doesn't come to live -/
def Fr (H : Hp) (M : MS) (H' : Hp) (M' : MS) : Prop := ∀ p o, H p = some o → M p = none → H' p = some o ∧ M' p = none
theorem Fr.refl (H : Hp) (M : MS) : Fr H M H M := fun _ _ h m => ⟨h, m⟩
theorem Fr.trans {H H1 H2 : Hp} {M M1 M2 : MS} (a : Fr H M H1 M1) (b : Fr H1 M1 H2 M2) : Fr H M H2 M2 := fun p o h m => b p o (a p o h m).1 (a p o h m).2

section
variable {K : PySem.W.Frag} {mg : Str → Option Value} {H H' : Hp} {M M' : MS}
theorem sqT_of {p : Addr} {vs : List V} (h : (Rd H p (.tup vs) ∧ M p = none) ∨ SqT K (fun _ => none) p vs) : SqT K H p vs := by
  rcases h with h | h
  · exact .inl h.1
  · rcases h with (h | ⟨o, h⟩) | h
    · cases h
    · cases h
    · exact .inr h
theorem sqL_of {p : Addr} {vs : List V} (h : (Rd H p (.lst vs) ∧ M p = none) ∨ SqL K (fun _ => none) p vs) : SqL K H p vs := by
  rcases h with h | h
  · exact .inl h.1
  · rcases h with (h | ⟨o, h⟩) | h
    · cases h
    · cases h
    · exact .inr h
theorem Fr.rd (f : Fr H M H' M') {p : Addr} {u : HO} (h : Rd H p u ∧ M p = none) : Rd H' p u ∧ M' p = none := by
  obtain ⟨h | ⟨o, h⟩, m⟩ := h
  · exact ⟨.inl (f _ _ h m).1, (f _ _ h m).2⟩
  · exact ⟨.inr ⟨o, (f _ _ h m).1⟩, (f _ _ h m).2⟩
mutual
theorem Rep.keep (f : Fr H M H' M') : ∀ {d : D} {v : V}, Rep K mg H M d v → Rep K mg H' M' d v
  | .non, _, h => h
  | .bl _, _, h => h
  | .int _, _, h => h
  | .str _, _, h => h
  | .tup l, _, ⟨p, vs, e, h, r⟩ => ⟨p, vs, e, h.imp f.rd id, RepL.keep f r⟩
  | .lst l, _, ⟨p, vs, e, h, r⟩ => ⟨p, vs, e, f _ _ h.1 h.2, RepL.keep f r⟩
  | .scr l, _, ⟨p, vs, e, h, r⟩ => ⟨p, vs, e, h.imp f.rd id, RepL.keep f r⟩
  | .dct l, _, ⟨p, vs, e, h, r⟩ => ⟨p, vs, e, f _ _ h.1 h.2, RepK.keep f r⟩
  | .ref _, _, h => h
  | .glo _, _, h => h
  | .ty _, _, h => h
  | .exc c fs, _, ⟨p, C, od, kvs, e, m, x, nf, hp, hd, r⟩ => ⟨p, C, od, kvs, e, m, x, nf, f _ _ hp.1 hp.2, hd.imp id fun ⟨d, e, h1, h2⟩ => ⟨d, e, f _ _ h1 h2⟩, RepX.keep f r⟩
  | .cls _, _, h => h
  | .xty _, _, h => h
theorem RepL.keep (f : Fr H M H' M') : ∀ {l : List D} {vs : List V}, RepL K mg H M l vs → RepL K mg H' M' l vs
  | [], _, h => h
  | _ :: _, _, ⟨v, r, e, h, t⟩ => ⟨v, r, e, Rep.keep f h, RepL.keep f t⟩
theorem RepK.keep (f : Fr H M H' M') : ∀ {l : List (Key × D)} {vs : List (Key × V)}, RepK K mg H M l vs → RepK K mg H' M' l vs
  | [], _, h => h
  | (_, _) :: _, _, ⟨v, r, e, h, t⟩ => ⟨v, r, e, Rep.keep f h, RepK.keep f t⟩
theorem RepX.keep (f : Fr H M H' M') : ∀ {l : List (Str × D)} {vs : List (Str × V)}, RepX K mg H M l vs → RepX K mg H' M' l vs
  | [], _, h => h
  | (_, _) :: _, _, ⟨v, r, e, h, t⟩ => ⟨v, r, e, Rep.keep f h, RepX.keep f t⟩
end
theorem RepX.iff : ∀ {l : List (Str × D)} {vs : List (Str × V)}, RepX K mg H M l vs ↔ RepP K mg H M l vs
  | [], _ => Iff.rfl
  | (_, _) :: l, _ => ⟨fun ⟨v, r, e, h, t⟩ => ⟨v, r, e, h, RepX.iff.mp t⟩, fun ⟨v, r, e, h, t⟩ => ⟨v, r, e, h, RepX.iff.mpr t⟩⟩
theorem RepK.iff : ∀ {l : List (Key × D)} {vs : List (Key × V)}, RepK K mg H M l vs ↔ RepP K mg H M l vs
  | [], _ => Iff.rfl
  | (_, _) :: l, _ => ⟨fun ⟨v, r, e, h, t⟩ => ⟨v, r, e, h, RepK.iff.mp t⟩, fun ⟨v, r, e, h, t⟩ => ⟨v, r, e, h, RepK.iff.mpr t⟩⟩
theorem RepP.keep {κ : Type} (f : Fr H M H' M') : ∀ {l : List (κ × D)} {vs : List (κ × V)}, RepP K mg H M l vs → RepP K mg H' M' l vs
  | [], _, h => h
  | (_, _) :: _, _, ⟨v, r, e, h, t⟩ => ⟨v, r, e, Rep.keep f h, RepP.keep f t⟩
theorem RepP.length {κ : Type} : ∀ {l : List (κ × D)} {vs : List (κ × V)}, RepP K mg H M l vs → l.length = vs.length
  | [], _, h => by cases h; rfl
  | (_, _) :: _, _, ⟨v, r, e, _, t⟩ => by subst e; simp [RepP.length t]
theorem RepP.vals {κ : Type} : ∀ {l : List (κ × D)} {vs : List (κ × V)}, RepP K mg H M l vs → RepL K mg H M (l.map (·.2)) (vs.map (·.2))
  | [], _, h => by cases h; rfl
  | (_, _) :: _, _, ⟨v, r, e, h, t⟩ => by subst e; exact ⟨v, _, rfl, h, RepP.vals t⟩
theorem RepP.keys {κ : Type} : ∀ {l : List (κ × D)} {vs : List (κ × V)}, RepP K mg H M l vs → vs.map (·.1) = l.map (·.1)
  | [], _, h => by cases h; rfl
  | (_, _) :: _, _, ⟨v, r, e, h, t⟩ => by subst e; simp [RepP.keys t]
theorem RepP.append {κ : Type} : ∀ {l l' : List (κ × D)} {vs vs' : List (κ × V)}, RepP K mg H M l vs → RepP K mg H M l' vs' → RepP K mg H M (l ++ l') (vs ++ vs')
  | [], _, _, _, h, h' => by cases h; exact h'
  | (_, _) :: _, _, _, _, ⟨v, r, e, h, t⟩, h' => by subst e; exact ⟨v, _, rfl, h, RepP.append t h'⟩
theorem RepL.length : ∀ {l : List D} {vs : List V}, RepL K mg H M l vs → l.length = vs.length
  | [], _, h => by cases h; rfl
  | _ :: _, _, ⟨v, r, e, _, t⟩ => by subst e; simp [RepL.length t]
theorem RepL.get : ∀ {l : List D} {vs : List V} {i : Nat} {d : D}, RepL K mg H M l vs → l[i]? = some d → ∃ v, vs[i]? = some v ∧ Rep K mg H M d v
  | [], _, _, _, _, e => by simp at e
  | a :: l, _, 0, d, ⟨v, r, e, h, _⟩, q => by simp at q; subst q; subst e; exact ⟨v, rfl, h⟩
  | a :: l, _, i + 1, d, ⟨v, r, e, _, t⟩, q => by
    subst e
    obtain ⟨u, h1, h2⟩ := RepL.get (i := i) t (by simpa using q)
    exact ⟨u, by simpa using h1, h2⟩
theorem RepL.append : ∀ {l l' : List D} {vs vs' : List V}, RepL K mg H M l vs → RepL K mg H M l' vs' → RepL K mg H M (l ++ l') (vs ++ vs')
  | [], _, _, _, h, h' => by cases h; exact h'
  | _ :: _, _, _, _, ⟨v, r, e, h, t⟩, h' => by subst e; exact ⟨v, _, rfl, h, RepL.append t h'⟩
theorem RepL.one {d : D} {v : V} (h : Rep K mg H M d v) : RepL K mg H M [d] [v] := ⟨v, [], rfl, h, rfl⟩
theorem RepL.take : ∀ {l : List D} {vs : List V} (n : Nat), RepL K mg H M l vs → RepL K mg H M (l.take n) (vs.take n)
  | _, _, 0, _ => rfl
  | [], _, _ + 1, h => by cases h; rfl
  | _ :: _, _, n + 1, ⟨v, r, e, h, t⟩ => by subst e; exact ⟨v, _, rfl, h, RepL.take n t⟩
theorem RepL.drop : ∀ {l : List D} {vs : List V} (n : Nat), RepL K mg H M l vs → RepL K mg H M (l.drop n) (vs.drop n)
  | _, _, 0, h => h
  | [], _, _ + 1, h => by cases h; rfl
  | _ :: _, _, n + 1, ⟨v, r, e, h, t⟩ => by subst e; exact RepL.drop n t
theorem RepL.set {d : D} {v : V} (h : Rep K mg H M d v) : ∀ {l : List D} {vs : List V} (i : Nat), RepL K mg H M l vs → RepL K mg H M (l.set i d) (vs.set i v)
  | [], _, _, r => by cases r; rfl
  | _ :: _, _, 0, ⟨_, r, e, _, t⟩ => by subst e; exact ⟨v, r, rfl, h, t⟩
  | _ :: _, _, i + 1, ⟨u, r, e, hu, t⟩ => by subst e; exact ⟨u, _, rfl, hu, RepL.set h i t⟩
theorem RepL.reverse : ∀ {l : List D} {vs : List V}, RepL K mg H M l vs → RepL K mg H M l.reverse vs.reverse
  | [], _, h => by cases h; rfl
  | _ :: _, _, ⟨v, r, e, h, t⟩ => by subst e; simpa using RepL.append (RepL.reverse t) (RepL.one h)
theorem RepL.split : ∀ {l l' : List D} {vs : List V}, RepL K mg H M (l ++ l') vs → ∃ us us', vs = us ++ us' ∧ RepL K mg H M l us ∧ RepL K mg H M l' us'
  | [], _, vs, h => ⟨[], vs, rfl, rfl, h⟩
  | _ :: l, l', _, ⟨v, r, e, h, t⟩ => by
    subst e
    obtain ⟨us, us', e, a, b⟩ := RepL.split (l := l) (l' := l') t
    subst e
    exact ⟨v :: us, us', rfl, ⟨v, us, rfl, h, a⟩, b⟩
/-- ints stand for themselves -/
theorem RepL.ints : ∀ (ns : List Int), RepL K mg H M (ns.map D.int) (ns.map V.int)
  | [] => rfl
  | n :: r => ⟨_, _, rfl, rfl, RepL.ints r⟩
theorem RepL.strs : ∀ (ns : List Str), RepL K mg H M (ns.map D.str) (ns.map V.str)
  | [] => rfl
  | n :: r => ⟨_, _, rfl, rfl, RepL.strs r⟩
/-- where all are texts -/
def strsOf : List D → Option (List Str)
  | [] => some []
  | .str s :: r => (strsOf r).map (s :: ·)
  | _ :: _ => none
theorem RepL.strs_of : ∀ {l : List D} {vs : List V} {ys : List Str}, RepL K mg H M l vs → strsOf l = some ys → vs = ys.map V.str
  | [], _, _, h, e => by cases h; simp [strsOf] at e; subst e; rfl
  | .str s :: l, _, ys, ⟨v, r, e, h, t⟩, q => by
    subst e
    simp only [strsOf, Option.map_eq_some_iff] at q
    obtain ⟨ys', q1, q2⟩ := q
    subst q2
    cases h
    rw [RepL.strs_of t q1]; rfl
  | .non :: _, _, _, _, e => by simp [strsOf] at e
  | .bl _ :: _, _, _, _, e => by simp [strsOf] at e
  | .int _ :: _, _, _, _, e => by simp [strsOf] at e
  | .tup _ :: _, _, _, _, e => by simp [strsOf] at e
  | .lst _ :: _, _, _, _, e => by simp [strsOf] at e
  | .scr _ :: _, _, _, _, e => by simp [strsOf] at e
  | .dct _ :: _, _, _, _, e => by simp [strsOf] at e
  | .ref _ :: _, _, _, _, e => by simp [strsOf] at e
  | .glo _ :: _, _, _, _, e => by simp [strsOf] at e
  | .ty _ :: _, _, _, _, e => by simp [strsOf] at e
  | .exc _ _ :: _, _, _, _, e => by simp [strsOf] at e
  | .cls _ :: _, _, _, _, e => by simp [strsOf] at e
  | .xty _ :: _, _, _, _, e => by simp [strsOf] at e

section
variable {κ : Type} [DecidableEq κ]
theorem RepP.get {k : κ} : ∀ {l : List (κ × D)} {vs : List (κ × V)}, RepP K mg H M l vs → (getA l k = none ∧ valV vs k = none) ∨ ∃ d v, getA l k = some d ∧ valV vs k = some v ∧ Rep K mg H M d v
  | [], _, h => by cases h; exact .inl ⟨rfl, rfl⟩
  | (k', d) :: l, _, ⟨v, r, e, h, t⟩ => by
    subst e
    by_cases hk : k' = k
    · exact .inr ⟨d, v, by simp [getA, List.find?_cons, hk], by simp [valV, List.find?_cons, hk], h⟩
    · have e1 : getA ((k', d) :: l) k = getA l k := by simp [getA, List.find?_cons, hk]
      have e2 : valV ((k', v) :: r) k = valV r k := by simp [valV, List.find?_cons, hk]
      rw [e1, e2]
      exact RepP.get t
theorem RepP.any {k : κ} : ∀ {l : List (κ × D)} {vs : List (κ × V)}, RepP K mg H M l vs → (vs.any fun kv => decide (kv.1 = k)) = (l.any fun kv => decide (kv.1 = k))
  | [], _, h => by cases h; rfl
  | (k', d) :: l, _, ⟨v, r, e, h, t⟩ => by subst e; simp only [List.any_cons]; rw [RepP.any t]
theorem RepP.over {k : κ} {d : D} {v : V} (h : Rep K mg H M d v) : ∀ {l : List (κ × D)} {vs : List (κ × V)}, RepP K mg H M l vs →
    RepP K mg H M (l.map (fun kv => if kv.1 = k then (kv.1, d) else kv)) (vs.map (fun kv => if kv.1 = k then (kv.1, v) else kv))
  | [], _, h => by cases h; rfl
  | (k', d') :: l, _, ⟨v', r, e, h', t⟩ => by
    subst e
    by_cases hk : k' = k
    · simp only [List.map_cons, if_pos hk]; exact ⟨v, _, rfl, h, RepP.over h t⟩
    · simp only [List.map_cons, if_neg hk]; exact ⟨v', _, rfl, h', RepP.over h t⟩
theorem RepP.put {k : κ} {d : D} {v : V} (h : Rep K mg H M d v) {l : List (κ × D)} {vs : List (κ × V)} (r : RepP K mg H M l vs) : RepP K mg H M (putA l k d) (putK vs k v) := by
  unfold putA putK
  rw [r.any]
  split
  · exact r.over h
  · exact r.append ⟨v, [], rfl, h, rfl⟩
theorem RepP.drop {k : κ} : ∀ {l : List (κ × D)} {vs : List (κ × V)}, RepP K mg H M l vs → RepP K mg H M (dropA l k) (dropK vs k)
  | [], _, h => by cases h; rfl
  | (k', d) :: l, _, ⟨v, r, e, h, t⟩ => by
    subst e
    by_cases hk : k' = k
    · have e1 : dropA ((k', d) :: l) k = dropA l k := by simp [dropA, hk]
      have e2 : dropK ((k', v) :: r) k = dropK r k := by simp [dropK, hk]
      rw [e1, e2]; exact RepP.drop t
    · have e1 : dropA ((k', d) :: l) k = (k', d) :: dropA l k := by simp [dropA, hk]
      have e2 : dropK ((k', v) :: r) k = (k', v) :: dropK r k := by simp [dropK, hk]
      rw [e1, e2]; exact ⟨v, _, rfl, h, RepP.drop t⟩
end
theorem CellRep.keep (f : Fr H M H' M') {p : Addr} (e : H' p = H p) {c : Cell} (h : CellRep K mg H M p c) : CellRep K mg H' M' p c := by
  cases c with
  | lst l => obtain ⟨vs, h, r⟩ := h; exact ⟨vs, e.trans h, r.keep f⟩
  | dct l => obtain ⟨vs, h, r⟩ := h; exact ⟨vs, e.trans h, r.keep f⟩
  | ins c fs => obtain ⟨C, dx, vs, m, h, r⟩ := h; exact ⟨C, dx, vs, m, e.trans h, r.keep f⟩
/-- a new object that is not live -/
theorem fr_upd {p : Addr} {o : HO} (hp : H p = none) : Fr H M (upd H p o) M := fun q u h m => ⟨by rw [upd_ne (ne_of_none h hp)]; exact h, m⟩
theorem relM_live (R : RelM K mg H M) {p : Addr} {c : Cell} (h : M p = some c) : H p ≠ none := by
  have := R.at_ p c h
  cases c with
  | lst l => obtain ⟨vs, h, _⟩ := this; rw [h]; simp
  | dct l => obtain ⟨vs, h, _⟩ := this; rw [h]; simp
  | ins c fs => obtain ⟨C, dx, vs, m, h, _⟩ := this; rw [h]; simp
theorem relM_free (R : RelM K mg H M) {p : Addr} (h : H p = none) : M p = none := by
  cases e : M p with
  | none => rfl
  | some c => exact absurd h (relM_live R e)
theorem RelM.sysF (R : RelM K mg H M) (f : Fr H M H' M') : (∃ o y, H' sysModules = some (.frz o (.own y))) ∧ M' sysModules = none := by
  obtain ⟨⟨o, y, h⟩, m⟩ := R.sys
  exact ⟨⟨o, y, (f _ _ h m).1⟩, (f _ _ h m).2⟩
theorem RelM.frz (R : RelM K mg H M) {p : Addr} {o : HO} (hp : H p = none) : RelM K mg (upd H p o) M := ⟨fun q c e =>
  (R.at_ q c e).keep (fr_upd hp) (upd_ne (show q ≠ p from fun z => relM_live R e (by rw [z]; exact hp))), R.sysF (fr_upd hp)⟩
/-- a new live object -/
theorem fr_new {p : Addr} {o : HO} {c : Cell} (hp : H p = none) : Fr H M (upd H p o) (M.set p c) := fun q u h m => ⟨by rw [upd_ne (ne_of_none h hp)]; exact h, by rw [MS.set_ne (ne_of_none h hp)]; exact m⟩
theorem RelM.new (R : RelM K mg H M) {p : Addr} {o : HO} {c : Cell} (hp : H p = none) (hc : CellRep K mg (upd H p o) (M.set p c) p c) : RelM K mg (upd H p o) (M.set p c) := ⟨fun q c' e => by
  by_cases hq : q = p
  · subst hq; rw [MS.set_same] at e; cases e; exact hc
  · rw [MS.set_ne hq] at e
    exact (R.at_ q c' e).keep (fr_new hp) (upd_ne hq), R.sysF (fr_new hp)⟩
/-- a live object is written -/
theorem fr_write {p : Addr} {o : HO} {c c' : Cell} (hm : M p = some c) : Fr H M (upd H p o) (M.set p c') := fun q u h m => by
  have hq : q ≠ p := by rintro rfl; rw [hm] at m; cases m
  exact ⟨by rw [upd_ne hq]; exact h, by rw [MS.set_ne hq]; exact m⟩
theorem RelM.write (R : RelM K mg H M) {p : Addr} {o : HO} {c c' : Cell} (hm : M p = some c) (hc : CellRep K mg (upd H p o) (M.set p c') p c') : RelM K mg (upd H p o) (M.set p c') := ⟨fun q d e => by
  by_cases hq : q = p
  · subst hq; rw [MS.set_same] at e; cases e; exact hc
  · rw [MS.set_ne hq] at e
    exact (R.at_ q d e).keep (fr_write hm) (upd_ne hq), R.sysF (fr_write hm)⟩
/-- a live object is given up -/
theorem fr_del {p : Addr} : Fr H M H (M.del p) := fun q u h m => ⟨h, by
  by_cases hq : q = p
  · subst hq; exact MS.del_same
  · rw [MS.del_ne hq]; exact m⟩
theorem RelM.del (R : RelM K mg H M) {p : Addr} : RelM K mg H (M.del p) := ⟨fun q d e => by
  by_cases hq : q = p
  · subst hq; rw [MS.del_same] at e; cases e
  · rw [MS.del_ne hq] at e
    exact (R.at_ q d e).keep fr_del rfl, R.sysF fr_del⟩
end
end Mir

/-! Mir2: readings of the hand layer by trees; operators, comparisons, names. -/
namespace Mir
open PySem L2

abbrev Ev := List (Option D)
structure GoodK (K : PySem.W.Frag) (mg : Str → Option Value) (env : Ev) (M : MS) (σ : St) (H : Hp) : Prop where
  len : env.length = σ.length
  get : ∀ (i : Nat) (d : D), env[i]? = some (some d) → ∃ v, σ[i]? = some (some v) ∧ Rep K mg H M d v
  rel : RelM K mg H M
abbrev Good (X : Cx) (env : Ev) (M : MS) (σ : St) (H : Hp) : Prop := GoodK X.K X.mg env M σ H
theorem Good.step {X : Cx} {env : Ev} {M M' : MS} {σ : St} {H H' : Hp} (G : Good X env M σ H) (f : Fr H M H' M') (r : RelM X.K X.mg H' M') : Good X env M' σ H' :=
  ⟨G.len, fun i d e => let ⟨v, h1, h2⟩ := G.get i d e; ⟨v, h1, h2.keep f⟩, r⟩
/-- an exception as the layer has it: its class, its own dict -/
def XRepK (K : PySem.W.Frag) (mg : Str → Option Value) (H : Hp) (M : MS) (x : XV) (cls : Value) (od : Option Addr) : Prop :=
  ∃ C, mg x.cls.n = some (.ref C) ∧ cls = .ref C ∧ XC K C x.cls.n x.cls.b ∧ (∀ f ∈ x.fs.map (·.1), PySem.W.findIn K (.ref C) f = some none) ∧
    ((od = none ∧ x.fs = []) ∨ ∃ d kvs, od = some d ∧ (H d = some (.xd kvs) ∧ M d = none) ∧ RepP K mg H M x.fs kvs)
abbrev XRep (X : Cx) (H : Hp) (M : MS) (x : XV) (cls : Value) (od : Option Addr) : Prop := XRepK X.K X.mg H M x cls od
/-- what is wanted behind, by trees -/
def QG {β γ : Type} (X : Cx) (R : Hp → MS → β → γ → Prop) (H : Hp) (M : MS) (Q : γ → Hp → Prop) (b : β) (M' : MS) : Prop :=
  ∀ c H', Fr H M H' M' → RelM X.K X.mg H' M' → R H' M' b c → Q c H'
def EE (X : Cx) (H : Hp) (M : MS) (Wx : WX) (σ : St) (x : XV) (M' : MS) : Prop :=
  ∀ cls od H', Fr H M H' M' → RelM X.K X.mg H' M' → XRep X H' M' x cls od → Wx cls od σ H'
def rdG {β γ : Type} (X : Cx) (Wx : WX) (R : Hp → MS → β → γ → Prop) (f : Ev → W β) : St → Hp → (γ → Hp → Prop) → Prop :=
  fun σ H Q => ∃ env M, Good X env M σ H ∧ (f env).run M (QG X R H M Q) (EE X H M Wx σ)
abbrev RV (X : Cx) : Hp → MS → D → V → Prop := fun H M d v => Rep X.K X.mg H M d v
abbrev RB : Hp → MS → Bool → Bool → Prop := fun _ _ b c => c = b
abbrev RL (X : Cx) : Hp → MS → List D → List V → Prop := fun H M l vs => RepL X.K X.mg H M l vs
abbrev rd (X : Cx) (Wx : WX) (f : Ev → W D) : TE := rdG X Wx (RV X) f
abbrev rdT (X : Cx) (Wx : WX) (f : Ev → W Bool) : TT := rdG X Wx RB f
abbrev rdA (X : Cx) (Wx : WX) (f : Ev → W (List D)) : TA := rdG X Wx (RL X) f
section
variable {X : Cx} {Wx : WX} {env : Ev} {M M1 : MS} {σ : St} {H H1 : Hp} {β γ β' γ' : Type} {R : Hp → MS → β → γ → Prop} {R' : Hp → MS → β' → γ' → Prop}
theorem QG.up {Q : γ → Hp → Prop} (f : Fr H M H1 M1) {b : β} {M' : MS} (h : QG X R H M Q b M') : QG X R H1 M1 Q b M' := fun c H' f' => h c H' (f.trans f')
theorem EE.up (f : Fr H M H1 M1) {x : XV} {M' : MS} (h : EE X H M Wx σ x M') : EE X H1 M1 Wx σ x M' := fun c d H' f' => h c d H' (f.trans f')
theorem runQ {m : W β} {P P' : γ → Hp → Prop} (h : m.run M (QG X R H M P) (EE X H M Wx σ)) (i : ∀ c H', P c H' → P' c H') : m.run M (QG X R H M P') (EE X H M Wx σ) :=
  m.mono h (fun _ _ q c H' f r x => i c H' (q c H' f r x)) fun _ _ x => x
/-- what stands behind the first of two -/
def Then (X : Cx) (Wx : WX) (R : Hp → MS → β → γ → Prop) (R' : Hp → MS → β' → γ' → Prop) (env : Ev) (σ : St) (H : Hp) (M : MS) (k : β → W β') (Q : γ' → Hp → Prop) (c : γ) (H1 : Hp) : Prop :=
  ∃ b M1, Fr H M H1 M1 ∧ Good X env M1 σ H1 ∧ R H1 M1 b c ∧ (k b).run M1 (QG X R' H1 M1 Q) (EE X H1 M1 Wx σ)
theorem rdB (G : Good X env M σ H) {m : W β} {k : β → W β'} {Q : γ' → Hp → Prop} (h : (W.bind m k).run M (QG X R' H M Q) (EE X H M Wx σ)) :
    m.run M (QG X R H M (Then X Wx R R' env σ H M k Q)) (EE X H M Wx σ) :=
  m.mono (show m.run M (fun a M' => (k a).run M' (QG X R' H M Q) (EE X H M Wx σ)) (EE X H M Wx σ) from h)
    (fun b M1 q c H1 f r x => ⟨b, M1, f, G.step f r, x, (k b).mono q (fun _ _ => QG.up f) (fun _ _ => EE.up f)⟩) fun _ _ x => x
end
theorem PE.imp {X : Cx} {e : Expr} {t t' : TE} (h : PE X e t) (i : ∀ σ H Q, t' σ H Q → t σ H Q) : PE X e t' := ⟨fun pins s σ H Q I q => h.run pins s σ H Q I (i σ H Q q)⟩
theorem PT.imp {X : Cx} {e : Expr} {t t' : TT} (h : PT X e t) (i : ∀ σ H Q, t' σ H Q → t σ H Q) : PT X e t' := ⟨fun pins s σ H Q I q => h.run pins s σ H Q I (i σ H Q q)⟩
theorem PW.imp {X : Cx} {e : Expr} {t t' : TT} (h : PW X e t) (i : ∀ σ H Q, t' σ H Q → t σ H Q) : PW X e t' := ⟨fun w pins s σ H Q I q => h.run w pins s σ H Q I (i σ H Q q)⟩
theorem PA.imp {X : Cx} {e : List Expr} {t t' : TA} (h : PA X e t) (i : ∀ σ H Q, t' σ H Q → t σ H Q) : PA X e t' := ⟨fun p pins s σ H Q I q => h.run p pins s σ H Q I (i σ H Q q)⟩
theorem PS.imp {X : Cx} {e : Stmt} {t t' : TS} (h : PS X e t) (i : ∀ D σ H, t' D σ H → t D σ H) : PS X e t' := ⟨fun pins s σ H D I q => h.run pins s σ H D I (i D σ H q)⟩
theorem PSs.imp {X : Cx} {e : List Stmt} {t t' : TS} (h : PSs X e t) (i : ∀ D σ H, t' D σ H → t D σ H) : PSs X e t' := ⟨fun pins s σ H D I q => h.run pins s σ H D I (i D σ H q)⟩

/-! ### two-place operations -/
/-- by trees: no exception -/
def rG (X : Cx) (g : D → D → W D) : R2 := fun x y H Q => ∃ d1 d2 M E, RelM X.K X.mg H M ∧ Rep X.K X.mg H M d1 x ∧ Rep X.K X.mg H M d2 y ∧ (g d1 d2).run M (QG X (RV X) H M Q) E
section
variable {X : Cx} {Wx : WX} {a b c : Expr} {fa fb fc : Ev → W D} {pos : Pos}
theorem se_op {g : D → D → W D} {t : R2 → TE} (ht : t (rG X g) = tOp (rG X g) (rd X Wx fa) (rd X Wx fb)) :
    ∀ σ H Q, rd X Wx (fun env => W.bind (fa env) fun x => W.bind (fb env) fun y => g x y) σ H Q → t (rG X g) σ H Q := by
  rw [ht]
  rintro σ H Q ⟨env, M, G, h⟩
  refine ⟨env, M, G, runQ (rdB (R := RV X) G h) ?_⟩
  rintro x H1 ⟨d1, M1, f1, G1, r1, h1⟩
  refine ⟨env, M1, G1, runQ (rdB (R := RV X) G1 h1) ?_⟩
  rintro y H2 ⟨d2, M2, f2, G2, r2, h2⟩
  exact ⟨d1, d2, M2, _, G2.rel, r1.keep f2, r2, h2⟩
theorem se_bin {op : Operator} {g : D → D → W D} (ho : OpR X (binaryOp op) (rG X g)) (ha : PE X a (rd X Wx fa)) (hb : PE X b (rd X Wx fb)) :
    PE X (.BinOp a op b pos) (rd X Wx fun env => W.bind (fa env) fun x => W.bind (fb env) fun y => g x y) :=
  PE.imp (pe_op ho ha hb) (se_op (t := fun r => tOp r (rd X Wx fa) (rd X Wx fb)) rfl)
theorem se_cmp {op : CmpOp} {g : D → D → W D} (ho : OpR X (compareOp op) (rG X g)) (ha : PE X a (rd X Wx fa)) (hb : PE X b (rd X Wx fb)) (hm : behindInMarks op b = false) :
    PE X (.Compare a [op] [b] pos) (rd X Wx fun env => W.bind (fa env) fun x => W.bind (fb env) fun y => g x y) :=
  PE.imp (pe_cmpR ho ha hb hm) (se_op (t := fun r => tOp r (rd X Wx fa) (rd X Wx fb)) rfl)
end
/-! ### reading trees -/
def lstOf (M : MS) : D → Option (List D)
  | .lst l => some l
  | .ref p => match M p with
    | some (.lst l) => some l
    | _ => none
  | _ => none
/-- a list, tuple or the script, to be read -/
def seqOf (M : MS) : D → Option (List D)
  | .lst l => some l
  | .scr l => some l
  | .tup l => some l
  | .ref p => match M p with
    | some (.lst l) => some l
    | _ => none
  | _ => none
def dctOf (M : MS) : D → Option (List (Key × D))
  | .dct l => some l
  | .ref p => match M p with
    | some (.dct l) => some l
    | _ => none
  | _ => none
section
variable {K : PySem.W.Frag} {mg : Str → Option Value} {H : Hp} {M : MS}
theorem lstOf_ok {d : D} {v : V} {l : List D} (R : RelM K mg H M) (e : lstOf M d = some l) (r : Rep K mg H M d v) : ∃ p vs, v = .ref p ∧ H p = some (.lst vs) ∧ RepL K mg H M l vs := by
  cases d with
  | lst l' => cases e; obtain ⟨p, vs, e, h, r⟩ := r; exact ⟨p, vs, e, h.1, r⟩
  | ref p =>
    simp only [lstOf] at e
    cases hp : M p with
    | none => rw [hp] at e; cases e
    | some c =>
      rw [hp] at e
      cases c with
      | lst l' => cases e; obtain ⟨vs, h, q⟩ := R.at_ p _ hp; exact ⟨p, vs, r, h, q⟩
      | dct _ => cases e
      | ins _ _ => cases e
  | _ => cases e
theorem seqOf_ok {d : D} {v : V} {l : List D} (R : RelM K mg H M) (e : seqOf M d = some l) (r : Rep K mg H M d v) : ∃ p vs, v = .ref p ∧ (SqL K H p vs ∨ SqT K H p vs) ∧ RepL K mg H M l vs := by
  cases d with
  | lst l' => cases e; obtain ⟨p, vs, e, h, r⟩ := r; exact ⟨p, vs, e, .inl (.of h.1), r⟩
  | scr l' => cases e; obtain ⟨p, vs, e, h, r⟩ := r; exact ⟨p, vs, e, .inl (sqL_of h), r⟩
  | tup l' => cases e; obtain ⟨p, vs, e, h, r⟩ := r; exact ⟨p, vs, e, .inr (sqT_of h), r⟩
  | ref p =>
    have e' : lstOf M (.ref p) = some l := e
    obtain ⟨p, vs, h1, h2, h3⟩ := lstOf_ok R e' r
    exact ⟨p, vs, h1, .inl (.of h2), h3⟩
  | _ => cases e
theorem dctOf_ok {d : D} {v : V} {l : List (Key × D)} (R : RelM K mg H M) (e : dctOf M d = some l) (r : Rep K mg H M d v) : ∃ p kvs, v = .ref p ∧ H p = some (.dK kvs) ∧ RepP K mg H M l kvs := by
  cases d with
  | dct l' => cases e; obtain ⟨p, vs, e, h, r⟩ := r; exact ⟨p, vs, e, h.1, RepK.iff.mp r⟩
  | ref p =>
    simp only [dctOf] at e
    cases hp : M p with
    | none => rw [hp] at e; cases e
    | some c =>
      rw [hp] at e
      cases c with
      | dct l' => cases e; obtain ⟨vs, h, q⟩ := R.at_ p _ hp; exact ⟨p, vs, r, h, q⟩
      | lst _ => cases e
      | ins _ _ => cases e
  | _ => cases e
end
/-! ### new lists, tuples, dicts -/
def mkL0 (lv : Bool) (l : List D) : W D := if lv then .new (.lst l) else .pure (.lst l)
def mkL (lv : Bool) (l : List D) : W D := .need (l.length ≤ sizeLine) (mkL0 lv l)
def mkT (l : List D) : W D := .need (l.length ≤ sizeLine) (.pure (.tup l))
def mkD (lv : Bool) (l : List (Key × D)) : W D := if lv then .new (.dct l) else .pure (.dct l)
section
variable {X : Cx} {H : Hp} {M : MS} {Q : VK} {E : XV → MS → Prop}
theorem mkL0_ok {lv : Bool} {l : List D} {vs : List V} (R : RelM X.K X.mg H M) (r : RepL X.K X.mg H M l vs) (h : (mkL0 lv l).run M (QG X (RV X) H M Q) E) : ∀ p, H p = none → Q (.ref p) (upd H p (.lst vs)) := by
  intro p hp
  have hm := relM_free R hp
  cases lv with
  | true =>
    have h : ∀ p, M p = none → QG X (RV X) H M Q (.ref p) (M.set p (.lst l)) := h
    exact h p hm _ _ (fr_new hp) (R.new hp ⟨vs, upd_same, r.keep (fr_new hp)⟩) rfl
  | false =>
    have h : QG X (RV X) H M Q (.lst l) M := h
    exact h _ _ (fr_upd hp) (R.frz hp) ⟨p, vs, rfl, ⟨upd_same, hm⟩, r.keep (fr_upd hp)⟩
theorem mkL_ok {lv : Bool} {l : List D} {vs : List V} (R : RelM X.K X.mg H M) (r : RepL X.K X.mg H M l vs) (h : (mkL lv l).run M (QG X (RV X) H M Q) E) : vs.length ≤ sizeLine ∧ ∀ p, H p = none → Q (.ref p) (upd H p (.lst vs)) :=
  ⟨by rw [← r.length]; exact h.1, mkL0_ok R r h.2⟩
theorem mkT0_ok {l : List D} {vs : List V} (R : RelM X.K X.mg H M) (r : RepL X.K X.mg H M l vs) (h : QG X (RV X) H M Q (.tup l) M) : ∀ p, H p = none → Q (.ref p) (upd H p (.tup vs)) := fun p hp =>
  h _ _ (fr_upd hp) (R.frz hp) ⟨p, vs, rfl, .inl ⟨.inl upd_same, relM_free R hp⟩, r.keep (fr_upd hp)⟩
theorem mkT_ok {l : List D} {vs : List V} (R : RelM X.K X.mg H M) (r : RepL X.K X.mg H M l vs) (h : (mkT l).run M (QG X (RV X) H M Q) E) : vs.length ≤ sizeLine ∧ ∀ p, H p = none → Q (.ref p) (upd H p (.tup vs)) :=
  ⟨by rw [← r.length]; exact h.1, mkT0_ok R r h.2⟩
theorem mkD_ok {lv : Bool} {l : List (Key × D)} {vs : List (Key × V)} (R : RelM X.K X.mg H M) (r : RepP X.K X.mg H M l vs) (h : (mkD lv l).run M (QG X (RV X) H M Q) E) : ∀ p, H p = none → Q (.ref p) (upd H p (.dK vs)) := by
  intro p hp
  have hm := relM_free R hp
  cases lv with
  | true =>
    have h : ∀ p, M p = none → QG X (RV X) H M Q (.ref p) (M.set p (.dct l)) := h
    exact h p hm _ _ (fr_new hp) (R.new hp ⟨vs, upd_same, r.keep (fr_new hp)⟩) rfl
  | false =>
    have h : QG X (RV X) H M Q (.dct l) M := h
    exact h _ _ (fr_upd hp) (R.frz hp) ⟨p, vs, rfl, ⟨upd_same, hm⟩, RepK.iff.mpr (r.keep (fr_upd hp))⟩
/-- what is told with the state as it is -/
theorem now (R : RelM X.K X.mg H M) {d : D} {v : V} (h : QG X (RV X) H M Q d M) (r : Rep X.K X.mg H M d v) : Q v H := h v H (Fr.refl H M) R r
end
/-! ### arithmetic -/
def addW (lv : Bool) : D → D → W D
  | .int i, .int j => .pure (.int (i + j))
  | .str a, .str b => .need (a.length + b.length ≤ sizeLine) (.pure (.str (a ++ b)))
  | .tup a, .tup b => mkT (a ++ b)
  | x, y => .get fun M => match lstOf M x, lstOf M y with
    | some a, some b => mkL lv (a ++ b)
    | _, _ => .fail
def subW : D → D → W D
  | .int i, .int j => .pure (.int (i - j))
  | _, _ => .fail
def mulW (lv : Bool) : D → D → W D
  | .int i, .int j => .need (CMul i j) (.pure (.int (i * j)))
  | .lst l, .int k => .need (-(2 ^ 63) ≤ k ∧ k < 2 ^ 63) (mkL lv (List.replicate k.toNat l).flatten)
  | .str s, .int k => .need (MulOk s k) (.pure (.str (Txt.mul s k)))
  | _, _ => .fail
def fdivW : D → D → W D
  | .int i, .int j => .need (0 < j ∧ j < 1073741824) (.pure (.int (i / j)))
  | _, _ => .fail
def modW : D → D → W D
  | .int i, .int j => .need (0 < j) (.pure (.int (i % j)))
  | _, _ => .fail
def powW : D → D → W D
  | .int i, .int j => .need (0 ≤ j ∧ j ≤ 1000000 ∧ i.natAbs < 2 ^ 64) (.pure (.int (i ^ j.toNat)))
  | _, _ => .fail
section
variable {X : Cx}
theorem OpR.imp {f : Value → Value → Sem Value} {r r' : R2} (h : OpR X f r) (i : ∀ x y H Q, r' x y H Q → r x y H Q) : OpR X f r' := fun pins s σ H x y v u Q I rx ry q => h pins s σ H x y v u Q I rx ry (i x y H Q q)
theorem OpR.or {f : Value → Value → Sem Value} {r r' : R2} (h : OpR X f r) (h' : OpR X f r') : OpR X f (fun x y H Q => r x y H Q ∨ r' x y H Q) := fun pins s σ H x y v u Q I rx ry q =>
  q.elim (h pins s σ H x y v u Q I rx ry) (h' pins s σ H x y v u Q I rx ry)
theorem op_addM {lv : Bool} : OpR X (binaryOp .Add) (rG X (addW lv)) := by
  refine OpR.imp (OpR.or op_add (OpR.or op_add_str (OpR.or op_catA op_cat))) ?_
  rintro x y H Q ⟨d1, d2, M, E, R, r1, r2, h⟩
  have cat : (W.get fun M => match lstOf M d1, lstOf M d2 with
    | some a, some b => mkL lv (a ++ b)
    | _, _ => W.fail).run M (QG X (RV X) H M Q) E → rCat x y H Q := fun h => by
    have h : (match lstOf M d1, lstOf M d2 with
      | some a, some b => mkL lv (a ++ b)
      | _, _ => W.fail).run M (QG X (RV X) H M Q) E := h
    cases e1 : lstOf M d1 with
    | none => rw [e1] at h; exact h.elim
    | some l1 =>
      cases e2 : lstOf M d2 with
      | none => rw [e1, e2] at h; exact h.elim
      | some l2 =>
        rw [e1, e2] at h
        obtain ⟨p, vs, rfl, hp, q1⟩ := lstOf_ok R e1 r1
        obtain ⟨p', vs', rfl, hp', q2⟩ := lstOf_ok R e2 r2
        obtain ⟨hl, q⟩ := mkL_ok R (q1.append q2) h
        exact ⟨p, p', vs, vs', rfl, rfl, hp, hp', by simpa using hl, q⟩
  cases d1 with
  | int i =>
    cases d2 with
    | int j => exact .inl ⟨i, j, r1, r2, now R h rfl⟩
    | _ => exact .inr (.inr (.inr (cat h)))
  | str i =>
    cases d2 with
    | str j => exact .inr (.inl ⟨i, j, r1, r2, h.1, now R h.2 rfl⟩)
    | _ => exact .inr (.inr (.inr (cat h)))
  | tup a =>
    cases d2 with
    | tup b =>
      refine .inr (.inr (.inl ?_))
      obtain ⟨p, vs, e1, s1, q1⟩ := r1
      obtain ⟨p', vs', e2, s2, q2⟩ := r2
      subst e1 e2
      obtain ⟨hl, q⟩ := mkT_ok R (q1.append q2) h
      have h' : QG X (RV X) H M Q (.tup (a ++ b)) M := h.2
      refine ⟨p, p', vs, vs', rfl, rfl, sqT_of s1, sqT_of s2, by simpa using hl, fun z => ?_, fun _ z => ?_, fun _ _ => q⟩
      · subst z
        have ea : a = [] := List.length_eq_zero_iff.mp q1.length
        subst ea
        exact now R h' ⟨p', vs', rfl, s2, q2⟩
      · subst z
        have eb : b = [] := List.length_eq_zero_iff.mp q2.length
        subst eb
        rw [List.append_nil] at h'
        exact now R h' ⟨p, vs, rfl, s1, q1⟩
    | _ => exact .inr (.inr (.inr (cat h)))
  | _ => exact .inr (.inr (.inr (cat h)))
theorem op_subM : OpR X (binaryOp .Sub) (rG X subW) := by
  refine OpR.imp op_sub ?_
  rintro x y H Q ⟨d1, d2, M, E, R, r1, r2, h⟩
  cases d1 with
  | int i =>
    cases d2 with
    | int j => exact ⟨i, j, r1, r2, now R h rfl⟩
    | _ => exact h.elim
  | _ => exact h.elim
theorem op_fdivM : OpR X (binaryOp .FloorDiv) (rG X fdivW) := by
  refine OpR.imp op_fdiv ?_
  rintro x y H Q ⟨d1, d2, M, E, R, r1, r2, h⟩
  cases d1 with
  | int i =>
    cases d2 with
    | int j => exact ⟨i, j, r1, r2, h.1, now R h.2 rfl⟩
    | _ => exact h.elim
  | _ => exact h.elim
theorem op_modM : OpR X (binaryOp .Mod) (rG X modW) := by
  refine OpR.imp op_mod ?_
  rintro x y H Q ⟨d1, d2, M, E, R, r1, r2, h⟩
  cases d1 with
  | int i =>
    cases d2 with
    | int j => exact ⟨i, j, r1, r2, h.1, now R h.2 rfl⟩
    | _ => exact h.elim
  | _ => exact h.elim
theorem op_powM : OpR X (binaryOp .Pow) (rG X powW) := by
  refine OpR.imp op_pow ?_
  rintro x y H Q ⟨d1, d2, M, E, R, r1, r2, h⟩
  cases d1 with
  | int i =>
    cases d2 with
    | int j => exact ⟨i, j, r1, r2, h.1, now R h.2 rfl⟩
    | _ => exact h.elim
  | _ => exact h.elim
theorem RepL.reps {K : PySem.W.Frag} {mg : Str → Option Value} {H : Hp} {M : MS} {l : List D} {vs : List V} (r : RepL K mg H M l vs) : ∀ n : Nat, RepL K mg H M (List.replicate n l).flatten (List.replicate n vs).flatten
  | 0 => rfl
  | n + 1 => by simp only [List.replicate_succ, List.flatten_cons]; exact r.append (r.reps n)
theorem op_mul_str : OpR X (binaryOp .Mult) (fun x y H Q => ∃ i j, x = .str i ∧ y = .int j ∧ MulOk i j ∧ Q (.str (Txt.mul i j)) H) := by
  intro pins s σ H x y v u Q I rx ry h
  obtain ⟨i, j, rfl, rfl, hz, q⟩ := h
  obtain ⟨t, rfl⟩ := rx
  obtain ⟨t', rfl⟩ := ry
  exact SB.mul hz fun t' tk => ⟨.str _, H, I.tok _, ⟨_, rfl⟩, q⟩
theorem op_mulM {lv : Bool} : OpR X (binaryOp .Mult) (rG X (mulW lv)) := by
  refine OpR.imp (OpR.or (OpR.or op_mul op_rep) op_mul_str) ?_
  rintro x y H Q ⟨d1, d2, M, E, R, r1, r2, h⟩
  cases d1 with
  | int i =>
    cases d2 with
    | int j => exact .inl (.inl ⟨i, j, r1, r2, h.1, now R h.2 rfl⟩)
    | _ => exact h.elim
  | str i =>
    cases d2 with
    | int j => exact .inr ⟨i, j, r1, r2, h.1, now R h.2 rfl⟩
    | _ => exact h.elim
  | lst l =>
    cases d2 with
    | int k =>
      obtain ⟨p, vs, e, hp, r⟩ := r1
      obtain ⟨hl, q⟩ := mkL_ok R (r.reps k.toNat) h.2
      refine .inl (.inr ⟨p, k, vs, e, r2, hp.1, h.1.1, h.1.2, ?_, q⟩)
      simpa [Nat.mul_comm] using hl
    | _ => exact h.elim
  | _ => exact h.elim
end
end Mir

/-! Mir3: trees as data (==, repr), order, membership, truth. -/
namespace Mir
open PySem L2

def mapO {α β : Type} (f : α → Option β) : List α → Option (List β)
  | [] => some []
  | a :: r => match f a, mapO f r with
    | some b, some bs => some (b :: bs)
    | _, _ => none
def keyD : Key → PyData
  | .inl i => .int i
  | .inr s => .str s
def mapK (f : D → Option PyData) : List (Key × D) → Option (List (PyData × PyData))
  | [] => some []
  | (k, d) :: r => match f d, mapK f r with
    | some b, some bs => some ((keyD k, b) :: bs)
    | _, _ => none
/-- a tree as plain data; live cells are looked up -/
def toD (M : MS) : Nat → D → Option PyData
  | 0, _ => none
  | n + 1, d => match d with
    | .non => some .none
    | .bl b => some (.bool b)
    | .int i => some (.int i)
    | .str s => some (.str s)
    | .tup l => (mapO (toD M n) l).map .tuple
    | .lst l => (mapO (toD M n) l).map .list
    | .dct l => (mapK (toD M n) l).map .dict
    | .ref p => match M p with
      | some (.lst l) => (mapO (toD M n) l).map .list
      | some (.dct l) => (mapK (toD M n) l).map .dict
      | _ => none
    | _ => none
section
variable {X : Cx} {pins : List (Addr × Obj)} {σ : St} {H : Hp} {s : Shared} {M : MS}
theorem reads_all {f : D → Option PyData} (hf : ∀ d v u pd, f d = some pd → Rep X.K X.mg H M d v → RelV v u → ∃ as, Reads s.heap u pd as ∧ ∀ b ∈ as, b ≠ sysModules) :
    ∀ {l : List D} {vs : List V} {us : List Value} {ps : List PyData}, mapO f l = some ps → RepL X.K X.mg H M l vs → Vals vs us → ∃ as, ReadsAll s.heap us ps as ∧ ∀ b ∈ as, b ≠ sysModules
  | [], _, _, _, e, r, v => by cases r; cases v; cases e; exact ⟨[], .nil, fun _ h => nomatch h⟩
  | d :: l, _, _, ps, e, ⟨v, r, ev, h, t⟩, vv => by
    subst ev
    cases vv with
    | cons r1 rr =>
      simp only [mapO] at e
      cases e1 : f d with
      | none => rw [e1] at e; cases e
      | some b =>
        cases e2 : mapO f l with
        | none => rw [e1, e2] at e; cases e
        | some bs =>
          rw [e1, e2] at e; cases e
          obtain ⟨as, h1, h2⟩ := hf _ _ _ _ e1 h r1
          obtain ⟨as', h3, h4⟩ := reads_all hf e2 t rr
          exact ⟨as ++ as', .cons h1 h3, fun b hb => (List.mem_append.mp hb).elim (h2 b) (h4 b)⟩
theorem reads_key {k : Key} {e : Value} (h : keyIs k e = true) : Reads s.heap e (keyD k) [] := by
  rcases keyIs_shape h with ⟨i, t, rfl, rfl⟩ | ⟨x, t, rfl, rfl⟩
  · exact .int _ _
  · exact .str _ _
theorem reads_kv {f : D → Option PyData} (hf : ∀ d v u pd, f d = some pd → Rep X.K X.mg H M d v → RelV v u → ∃ as, Reads s.heap u pd as ∧ ∀ b ∈ as, b ≠ sysModules) :
    ∀ {l : List (Key × D)} {kvs : List (Key × V)} {vs : List (Key × Value)} {es : List DictEntry} {ps : List (PyData × PyData)}, mapK f l = some ps → RepP X.K X.mg H M l kvs → KV kvs vs → Pairs (mixKind X.prog X.w) es vs →
    ∃ bs, ReadsAll s.heap (es.map (·.key)) (ps.map (·.1)) [] ∧ ReadsAll s.heap (es.map (·.val)) (ps.map (·.2)) bs ∧ ∀ b ∈ bs, b ≠ sysModules
  | [], _, _, _, _, e, r, kv, p => by
    cases r; cases e
    cases kv
    cases p
    exact ⟨[], .nil, .nil, fun _ h => nomatch h⟩
  | (k, d) :: l, _, _, _, ps, e, ⟨v, r, ev, h, t⟩, kv, p => by
    subst ev
    cases kv with
    | @cons p1 q1 ps1 qs1 r1 rr =>
      cases p with
      | @cons en kv' es' kvs' h1 h2 h3 =>
        simp only [mapK] at e
        cases e1 : f d with
        | none => rw [e1] at e; cases e
        | some b =>
          cases e2 : mapK f l with
          | none => rw [e1, e2] at e; cases e
          | some bs =>
            rw [e1, e2] at e; cases e
            obtain ⟨as, g1, g2⟩ := hf _ _ en.val _ e1 h (by rw [h2]; exact r1.2)
            obtain ⟨as', g3, g4, g5⟩ := reads_kv hf e2 t rr h3
            have hk : keyIs k en.key = true := by have := r1.1; simp only at this; rw [this]; exact h1
            have c := ReadsAll.cons (reads_key hk) g3
            refine ⟨as ++ as', c, .cons g1 g4, fun b hb => (List.mem_append.mp hb).elim (g2 b) (g5 b)⟩
theorem reads_lst (I : Inv X pins σ H s) (R : RelM X.K X.mg H M) {p : Addr} {vs : List V} (h : H p = some (.lst vs)) {f : D → Option PyData}
    (hf : ∀ d v u pd, f d = some pd → Rep X.K X.mg H M d v → RelV v u → ∃ as, Reads s.heap u pd as ∧ ∀ b ∈ as, b ≠ sysModules) {l : List D} {ps : List PyData} (e : mapO f l = some ps) (r : RepL X.K X.mg H M l vs) :
    ∃ as, Reads s.heap (.ref p) (.list ps) as ∧ ∀ b ∈ as, b ≠ sysModules := by
  obtain ⟨its, n, rv, ho, _⟩ := I.lst h
  obtain ⟨as, h1, h2⟩ := reads_all hf e r rv
  refine ⟨p :: as, .list ho rfl rfl (by simpa using h1), fun b hb => ?_⟩
  rcases List.mem_cons.mp hb with rfl | hb
  · rintro rfl
    obtain ⟨⟨o', y, hy⟩, _⟩ := R.sys
    rw [h] at hy; cases hy
  · exact h2 b hb
theorem reads_dct (I : Inv X pins σ H s) (R : RelM X.K X.mg H M) {p : Addr} {vs : List (Key × V)} (h : H p = some (.dK vs)) {f : D → Option PyData}
    (hf : ∀ d v u pd, f d = some pd → Rep X.K X.mg H M d v → RelV v u → ∃ as, Reads s.heap u pd as ∧ ∀ b ∈ as, b ≠ sysModules) {l : List (Key × D)} {ps : List (PyData × PyData)} (e : mapK f l = some ps) (r : RepP X.K X.mg H M l vs) :
    ∃ as, Reads s.heap (.ref p) (.dict ps) as ∧ ∀ b ∈ as, b ≠ sysModules := by
  obtain ⟨_, _, ws, rv, o, es, ep, ho, hx, hd, _, hp, _⟩ := dk_of I.hok h
  obtain ⟨bs, h1, h2, h3⟩ := reads_kv hf e r rv hp
  refine ⟨p :: [] ++ bs, .dict ho hx.1 hd h1 h2, fun b hb => ?_⟩
  rcases List.mem_cons.mp hb with rfl | hb
  · rintro rfl
    obtain ⟨⟨o', y, hy⟩, _⟩ := R.sys
    rw [h] at hy; cases hy
  · exact h3 b (by simpa using hb)
theorem reads_of (I : Inv X pins σ H s) (R : RelM X.K X.mg H M) : ∀ (n : Nat) (d : D) (v : V) (u : Value) (pd : PyData), toD M n d = some pd → Rep X.K X.mg H M d v → RelV v u → ∃ as, Reads s.heap u pd as ∧ ∀ b ∈ as, b ≠ sysModules
  | 0, _, _, _, _, e, _, _ => by cases e
  | n + 1, d, v, u, pd, e, r, ru => by
    have ih := reads_of I R n
    cases d with
    | non => cases e; cases r; cases ru; exact ⟨[], .none, fun _ h => nomatch h⟩
    | bl b => cases e; cases r; cases ru; exact ⟨[], .bool _, fun _ h => nomatch h⟩
    | int i => cases e; cases r; obtain ⟨t, rfl⟩ := ru; exact ⟨[], .int _ _, fun _ h => nomatch h⟩
    | str x => cases e; cases r; obtain ⟨t, rfl⟩ := ru; exact ⟨[], .str _ _, fun _ h => nomatch h⟩
    | tup l =>
      obtain ⟨p, vs, rfl, hs, rl⟩ := r
      cases ru
      simp only [toD, Option.map_eq_some_iff] at e
      obtain ⟨ps, e, rfl⟩ := e
      obtain ⟨its, rv, ⟨o, ho, hc, k, hd⟩, _⟩ := I.tuple (sqT_of hs)
      obtain ⟨as, h1, h2⟩ := reads_all ih e rl rv
      exact ⟨as, .tuple ho hc hd (by simpa using h1), h2⟩
    | lst l =>
      obtain ⟨p, vs, rfl, hs, rl⟩ := r
      cases ru
      simp only [toD, Option.map_eq_some_iff] at e
      obtain ⟨ps, e, rfl⟩ := e
      exact reads_lst I R hs.1 ih e rl
    | dct l =>
      obtain ⟨p, vs, rfl, hs, rl⟩ := r
      cases ru
      simp only [toD, Option.map_eq_some_iff] at e
      obtain ⟨ps, e, rfl⟩ := e
      exact reads_dct I R hs.1 ih e (RepK.iff.mp rl)
    | ref p =>
      cases r
      cases ru
      simp only [toD] at e
      cases hp : M p with
      | none => rw [hp] at e; cases e
      | some c =>
        rw [hp] at e
        cases c with
        | lst l =>
          simp only [Option.map_eq_some_iff] at e
          obtain ⟨ps, e, rfl⟩ := e
          obtain ⟨vs, h1, h2⟩ := R.at_ p _ hp
          exact reads_lst I R h1 ih e h2
        | dct l =>
          simp only [Option.map_eq_some_iff] at e
          obtain ⟨ps, e, rfl⟩ := e
          obtain ⟨vs, h1, h2⟩ := R.at_ p _ hp
          exact reads_dct I R h1 ih e h2
        | ins _ _ => cases e
    | scr _ => cases e
    | glo _ => cases e
    | ty _ => cases e
    | exc _ _ => cases e
    | cls _ => cases e
    | xty _ => cases e
end
theorem depth_mapO {f : D → Option PyData} {n : Nat} (hf : ∀ d pd, f d = some pd → pd.depth ≤ n) : ∀ {l : List D} {ps : List PyData}, mapO f l = some ps → PyData.depthAll ps ≤ n
  | [], _, e => by cases e; simp [PyData.depthAll]
  | d :: l, ps, e => by
    simp only [mapO] at e
    cases e1 : f d with
    | none => rw [e1] at e; cases e
    | some b =>
      cases e2 : mapO f l with
      | none => rw [e1, e2] at e; cases e
      | some bs =>
        rw [e1, e2] at e; cases e
        have h1 := hf _ _ e1
        have h2 := depth_mapO hf e2
        simp only [PyData.depthAll]
        omega
theorem depth_mapK {f : D → Option PyData} {n : Nat} (hf : ∀ d pd, f d = some pd → pd.depth ≤ n) : ∀ {l : List (Key × D)} {ps : List (PyData × PyData)}, mapK f l = some ps → PyData.depthKv ps ≤ n + 1
  | [], _, e => by cases e; simp [PyData.depthKv]
  | (k, d) :: l, ps, e => by
    simp only [mapK] at e
    cases e1 : f d with
    | none => rw [e1] at e; cases e
    | some b =>
      cases e2 : mapK f l with
      | none => rw [e1, e2] at e; cases e
      | some bs =>
        rw [e1, e2] at e; cases e
        have h1 := hf _ _ e1
        have h2 := depth_mapK hf e2
        have h3 : (keyD k).depth ≤ 1 := by cases k <;> simp [keyD, PyData.depth]
        simp only [PyData.depthKv]
        omega
theorem depth_toD {M : MS} : ∀ (n : Nat) (d : D) (pd : PyData), toD M n d = some pd → pd.depth ≤ 2 * n
  | 0, _, _, e => by cases e
  | n + 1, d, pd, e => by
    have ih := depth_toD (M := M) n
    cases d with
    | non => cases e; simp [PyData.depth]
    | bl b => cases e; simp [PyData.depth]
    | int i => cases e; simp [PyData.depth]
    | str x => cases e; simp [PyData.depth]
    | tup l =>
      simp only [toD, Option.map_eq_some_iff] at e
      obtain ⟨ps, e, rfl⟩ := e
      have := depth_mapO ih e
      simp only [PyData.depth]; omega
    | lst l =>
      simp only [toD, Option.map_eq_some_iff] at e
      obtain ⟨ps, e, rfl⟩ := e
      have := depth_mapO ih e
      simp only [PyData.depth]; omega
    | dct l =>
      simp only [toD, Option.map_eq_some_iff] at e
      obtain ⟨ps, e, rfl⟩ := e
      have := depth_mapK ih e
      simp only [PyData.depth]; omega
    | ref p =>
      simp only [toD] at e
      cases hp : M p with
      | none => rw [hp] at e; cases e
      | some c =>
        rw [hp] at e
        cases c with
        | lst l =>
          simp only [Option.map_eq_some_iff] at e
          obtain ⟨ps, e, rfl⟩ := e
          have := depth_mapO ih e
          simp only [PyData.depth]; omega
        | dct l =>
          simp only [Option.map_eq_some_iff] at e
          obtain ⟨ps, e, rfl⟩ := e
          have := depth_mapK ih e
          simp only [PyData.depth]; omega
        | ins _ _ => cases e
    | scr _ => cases e
    | glo _ => cases e
    | ty _ => cases e
    | exc _ _ => cases e
    | cls _ => cases e
    | xty _ => cases e
abbrev deepD : Nat := 25
end Mir

/-! Mir4: operations by values: ==, order, in, is, truth, items, slices, built-in calls. -/
namespace Mir
open PySem L2

def scalD : D → D → Option Bool
  | .non, .non => some true
  | .int i, .int j => some (decide (i = j))
  | .bl a, .bl b => some (decide (a = b))
  | .str a, .str b => some (decide (a = b))
  | .non, .int _ => some false | .int _, .non => some false | .non, .bl _ => some false | .bl _, .non => some false | .non, .str _ => some false | .str _, .non => some false
  | .int _, .str _ => some false | .str _, .int _ => some false | .bl _, .str _ => some false | .str _, .bl _ => some false
  | _, _ => none
/-- == and != -/
def difL (M : MS) (x y : D) : Bool := match lstOf M x, lstOf M y with
  | some a, some b => a.length != b.length
  | _, _ => false
def eqR (neg : Bool) (x y : D) : W D := .get fun M => match toD M deepD x, toD M deepD y with
    | some a, some b => .need (a.canLay0 = true ∧ b.canLay0 = true) (.pure (.bl (neg ^^ PyData.eqv a b)))
    | _, _ => .fail
def eqW (neg : Bool) (x y : D) : W D := match scalD x y with
  | some b => .pure (.bl (neg ^^ b))
  | none => .get fun M => if difL M x y then .pure (.bl neg) else eqR neg x y
def cmpW (op : CmpOp) : D → D → W D
  | .int i, .int j => match op with
    | .Lt => .pure (.bl (decide (i < j)))
    | .LtE => .pure (.bl (decide (i ≤ j)))
    | .Gt => .pure (.bl (decide (j < i)))
    | .GtE => .pure (.bl (decide (j ≤ i)))
    | _ => .fail
  | .str a, .str b => match op with
    | .Lt => .pure (.bl (decide (a.cps.toList < b.cps.toList)))
    | .LtE => .pure (.bl (!decide (b.cps.toList < a.cps.toList)))
    | .Gt => .pure (.bl (decide (b.cps.toList < a.cps.toList)))
    | .GtE => .pure (.bl (!decide (a.cps.toList < b.cps.toList)))
    | _ => .fail
  | _, _ => .fail
def keyOf : D → Option Key
  | .int i => some (.inl i)
  | .str s => some (.inr s)
  | _ => none
def flatD : D → Bool
  | .non => true | .bl _ => true | .int _ => true | .str _ => true | _ => false
def eqF : D → D → Bool
  | .non, .non => true
  | .bl a, .bl b => a == b
  | .bl a, .int b => (if a then 1 else 0) == b
  | .int a, .bl b => a == (if b then 1 else 0)
  | .int a, .int b => a == b
  | .str a, .str b => a == b
  | _, _ => false
/-- x in y -/
def inW (neg : Bool) (x y : D) : W D := match x, y with
  | .str s, .str z => match s.cps.toList with
    | [c] => .pure (.bl (neg ^^ decide (c ∈ z.cps.toList)))
    | _ => .fail
  | x, y => .get fun M => match dctOf M y with
    | some l => match keyOf x with
      | some k => .pure (.bl (neg ^^ (getA l k).isSome))
      | none => .fail
    | none => match seqOf M y with
      | some l => if flatD x && l.all flatD then .pure (.bl (neg ^^ l.any fun z => eqF z x)) else
        match lstOf M y, mapO (toD M deepD) l, toD M deepD x with
        | some _, some ps, some a => .need (a.canLay0 = true ∧ PyData.canLayAll0 ps = true) (.pure (.bl (neg ^^ ps.any fun z => PyData.eqv z a)))
        | _, _, _ => .fail
      | none => .fail
def isNon : D → Bool
  | .non => true
  | _ => false
def isNW (neg : Bool) (x y : D) : W D := match y with
  | .non => .pure (.bl (neg ^^ isNon x))
  | _ => .fail
def truD (M : MS) : D → Option Bool
  | .non => some false
  | .bl b => some b
  | .int i => some (i != 0)
  | .str s => some ((s.length : Int) != 0)
  | .tup l => some (!l.isEmpty)
  | .lst l => some (!l.isEmpty)
  | .scr l => some (!l.isEmpty)
  | .dct l => some (!l.isEmpty)
  | .ref p => match M p with
    | some (.lst l) => some (!l.isEmpty)
    | some (.dct l) => some (!l.isEmpty)
    | _ => none
  | _ => none
def strFits : D → Prop
  | .str s => s.length ≤ sizeLine
  | _ => True
def truW (x : D) : W Bool := .get fun M => match truD M x with
  | some b => .need (strFits x) (.pure b)
  | none => .fail
section
variable {X : Cx}
theorem scalD_ok {K : PySem.W.Frag} {mg : Str → Option Value} {H : Hp} {M : MS} {d1 d2 : D} {x y : V} {b : Bool} (e : scalD d1 d2 = some b) (r1 : Rep K mg H M d1 x) (r2 : Rep K mg H M d2 y) : scal x y = true ∧ decide (x = y) = b := by
  cases d1 <;> cases d2 <;> simp only [scalD, Option.some.injEq, reduceCtorEq] at e <;> cases r1 <;> cases r2 <;> subst e <;> exact ⟨rfl, by simp⟩
theorem shaped_toD {M : MS} {d : D} {pd : PyData} (e : toD M deepD d = some pd) (h : pd.canLay0 = true) : SeqAt.shaped pd = true := by
  unfold SeqAt.shaped
  have := depth_toD deepD d pd e
  simp only [h, Bool.true_and, decide_eq_true_eq]
  unfold deepD at this
  omega
theorem difL_ok {pins : List (Addr × Obj)} {s : Shared} {σ : L2.St} {H : Hp} {M : MS} {d1 d2 : D} {x y : V} (I : Inv X pins σ H s) (R : RelM X.K X.mg H M) (h : difL M d1 d2 = true) (r1 : Rep X.K X.mg H M d1 x) (r2 : Rep X.K X.mg H M d2 y) :
    ∃ p p' us us', x = .ref p ∧ y = .ref p' ∧ s.heap.IsList p us ∧ s.heap.IsList p' us' ∧ (us.size != us'.size) = true := by
  unfold difL at h
  cases e1 : lstOf M d1 with
  | none => rw [e1] at h; cases h
  | some a =>
    cases e2 : lstOf M d2 with
    | none => rw [e1, e2] at h; cases h
    | some b =>
      rw [e1, e2] at h
      obtain ⟨p, vs, rfl, hp, q1⟩ := lstOf_ok R e1 r1
      obtain ⟨p', vs', rfl, hp', q2⟩ := lstOf_ok R e2 r2
      obtain ⟨us, w1, p1, _⟩ := I.list (SqL.of hp)
      obtain ⟨us', w2, p2, _⟩ := I.list (SqL.of hp')
      refine ⟨p, p', us.toArray, us'.toArray, rfl, rfl, p1.isList, p2.isList, ?_⟩
      rw [List.size_toArray, List.size_toArray, ← w1.length, ← w2.length, ← q1.length, ← q2.length]
      exact h
theorem op_eqM (hu : X.A.units + 64 < cLine) : OpR X (compareOp .Eq) (rG X (eqW false)) := by
  intro pins s σ H x y v u Q I rx ry h
  obtain ⟨d1, d2, M, E, R, r1, r2, h⟩ := h
  unfold eqW at h
  cases e : scalD d1 d2 with
  | some b =>
    rw [e] at h
    obtain ⟨h1, h2⟩ := scalD_ok e r1 r2
    refine op_eq pins s σ H x y v u Q I rx ry ⟨h1, ?_⟩
    rw [h2]
    have := now R h rfl
    simpa using this
  | none =>
    rw [e] at h
    replace h : (if difL M d1 d2 then W.pure (D.bl false) else eqR false d1 d2).run M (QG X (RV X) H M Q) E := h
    by_cases hd : difL M d1 d2 = true
    · rw [if_pos hd] at h
      obtain ⟨p, p', us, us', e1, e2, k1, k2, hne⟩ := difL_ok I R hd r1 r2
      subst e1 e2
      cases (show v = Value.ref p from rx)
      cases (show u = Value.ref p' from ry)
      exact SeqAt.RcAt.lists_lengths k1 k2 hne (by omega) _ _ _ _ ⟨.bl _, H, I, rfl, now R h rfl⟩
    rw [if_neg hd] at h
    have h : (match toD M deepD d1, toD M deepD d2 with
      | some a, some b => W.need (a.canLay0 = true ∧ b.canLay0 = true) (.pure (D.bl (false ^^ PyData.eqv a b)))
      | _, _ => W.fail).run M (QG X (RV X) H M Q) E := h
    cases e1 : toD M deepD d1 with
    | none => rw [e1] at h; exact h.elim
    | some a =>
      cases e2 : toD M deepD d2 with
      | none => rw [e1, e2] at h; exact h.elim
      | some b =>
        rw [e1, e2] at h
        obtain ⟨⟨c1, c2⟩, h⟩ := h
        obtain ⟨as, w1, _⟩ := reads_of I R _ _ _ _ _ e1 r1 rx
        obtain ⟨bs, w2, _⟩ := reads_of I R _ _ _ _ _ e2 r2 ry
        refine SeqAt.compareEq_shaped w1 w2 (shaped_toD e1 c1) (shaped_toD e2 c2) hu ⟨.bl _, H, I, rfl, ?_⟩
        have := now R h rfl
        simpa using this
theorem op_neM (hu : X.A.units + 64 < cLine) : OpR X (compareOp .NotEq) (rG X (eqW true)) := by
  intro pins s σ H x y v u Q I rx ry h
  obtain ⟨d1, d2, M, E, R, r1, r2, h⟩ := h
  unfold eqW at h
  cases e : scalD d1 d2 with
  | some b =>
    rw [e] at h
    obtain ⟨h1, h2⟩ := scalD_ok e r1 r2
    refine op_ne pins s σ H x y v u Q I rx ry ⟨h1, ?_⟩
    rw [h2]
    have := now R h rfl
    simpa using this
  | none =>
    rw [e] at h
    replace h : (if difL M d1 d2 then W.pure (D.bl true) else eqR true d1 d2).run M (QG X (RV X) H M Q) E := h
    by_cases hd : difL M d1 d2 = true
    · rw [if_pos hd] at h
      obtain ⟨p, p', us, us', e1, e2, k1, k2, hne⟩ := difL_ok I R hd r1 r2
      subst e1 e2
      cases (show v = Value.ref p from rx)
      cases (show u = Value.ref p' from ry)
      exact SeqAt.RcNeAt.lists_lengths k1 k2 hne (by omega) _ _ _ _ ⟨.bl _, H, I, rfl, now R h rfl⟩
    rw [if_neg hd] at h
    have h : (match toD M deepD d1, toD M deepD d2 with
      | some a, some b => W.need (a.canLay0 = true ∧ b.canLay0 = true) (.pure (D.bl (true ^^ PyData.eqv a b)))
      | _, _ => W.fail).run M (QG X (RV X) H M Q) E := h
    cases e1 : toD M deepD d1 with
    | none => rw [e1] at h; exact h.elim
    | some a =>
      cases e2 : toD M deepD d2 with
      | none => rw [e1, e2] at h; exact h.elim
      | some b =>
        rw [e1, e2] at h
        obtain ⟨⟨c1, c2⟩, h⟩ := h
        obtain ⟨as, w1, _⟩ := reads_of I R _ _ _ _ _ e1 r1 rx
        obtain ⟨bs, w2, _⟩ := reads_of I R _ _ _ _ _ e2 r2 ry
        refine SeqAt.compareNe_shaped w1 w2 (shaped_toD e1 c1) (shaped_toD e2 c2) hu ⟨.bl _, H, I, rfl, ?_⟩
        have := now R h rfl
        simpa using this
theorem cmp_cases {op : CmpOp} {d1 d2 : D} {M : MS} {P : D → MS → Prop} {E : XV → MS → Prop} (h : (cmpW op d1 d2).run M P E) : (∃ i j, d1 = .int i ∧ d2 = .int j) ∨ ∃ i j, d1 = .str i ∧ d2 = .str j := by
  cases d1 with
  | int i =>
    cases d2 with
    | int j => exact .inl ⟨i, j, rfl, rfl⟩
    | _ => exact h.elim
  | str i =>
    cases d2 with
    | str j => exact .inr ⟨i, j, rfl, rfl⟩
    | _ => exact h.elim
  | _ => exact h.elim
theorem op_ltM : OpR X (compareOp .Lt) (rG X (cmpW .Lt)) := by
  refine OpR.imp (OpR.or op_lt op_lt_str) ?_
  rintro x y H Q ⟨d1, d2, M, E, R, r1, r2, h⟩
  rcases cmp_cases h with ⟨i, j, rfl, rfl⟩ | ⟨i, j, rfl, rfl⟩
  · exact .inl ⟨i, j, r1, r2, now R h rfl⟩
  · exact .inr ⟨i, j, r1, r2, now R h rfl⟩
theorem op_leM : OpR X (compareOp .LtE) (rG X (cmpW .LtE)) := by
  refine OpR.imp (OpR.or op_le op_le_str) ?_
  rintro x y H Q ⟨d1, d2, M, E, R, r1, r2, h⟩
  rcases cmp_cases h with ⟨i, j, rfl, rfl⟩ | ⟨i, j, rfl, rfl⟩
  · exact .inl ⟨i, j, r1, r2, now R h rfl⟩
  · exact .inr ⟨i, j, r1, r2, now R h rfl⟩
theorem op_gtM : OpR X (compareOp .Gt) (rG X (cmpW .Gt)) := by
  refine OpR.imp (OpR.or op_gt op_gt_str) ?_
  rintro x y H Q ⟨d1, d2, M, E, R, r1, r2, h⟩
  rcases cmp_cases h with ⟨i, j, rfl, rfl⟩ | ⟨i, j, rfl, rfl⟩
  · exact .inl ⟨i, j, r1, r2, now R h rfl⟩
  · exact .inr ⟨i, j, r1, r2, now R h rfl⟩
theorem op_geM : OpR X (compareOp .GtE) (rG X (cmpW .GtE)) := by
  refine OpR.imp (OpR.or op_ge op_ge_str) ?_
  rintro x y H Q ⟨d1, d2, M, E, R, r1, r2, h⟩
  rcases cmp_cases h with ⟨i, j, rfl, rfl⟩ | ⟨i, j, rfl, rfl⟩
  · exact .inl ⟨i, j, r1, r2, now R h rfl⟩
  · exact .inr ⟨i, j, r1, r2, now R h rfl⟩
theorem isN_ok {K : PySem.W.Frag} {mg : Str → Option Value} {H : Hp} {M : MS} {d : D} {x : V} (r : Rep K mg H M d x) : decide (x = .non) = isNon d := by
  cases d with
  | non => cases r; rfl
  | bl _ => cases r; rfl
  | int _ => cases r; rfl
  | str _ => cases r; rfl
  | tup _ => obtain ⟨p, _, rfl, _⟩ := r; rfl
  | lst _ => obtain ⟨p, _, rfl, _⟩ := r; rfl
  | scr _ => obtain ⟨p, _, rfl, _⟩ := r; rfl
  | dct _ => obtain ⟨p, _, rfl, _⟩ := r; rfl
  | ref _ => cases r; rfl
  | glo _ => obtain ⟨p, _, rfl⟩ := r; rfl
  | ty _ => cases r; rfl
  | exc _ _ => obtain ⟨p, C, od, kvs, rfl, _⟩ := r; rfl
  | cls _ => obtain ⟨C, _, _, rfl⟩ := r; rfl
  | xty _ => cases r; rfl
theorem op_isM : OpR X (compareOp .Is) (rG X (isNW false)) := by
  refine OpR.imp op_isN ?_
  rintro x y H Q ⟨d1, d2, M, E, R, r1, r2, h⟩
  cases d2 with
  | non =>
    have := now R h rfl
    rw [Bool.false_xor] at this
    exact ⟨r2, by rw [isN_ok r1]; exact this⟩
  | _ => exact h.elim
theorem op_isnotM : OpR X (compareOp .IsNot) (rG X (isNW true)) := by
  refine OpR.imp op_notN ?_
  rintro x y H Q ⟨d1, d2, M, E, R, r1, r2, h⟩
  cases d2 with
  | non =>
    have := now R h rfl
    rw [Bool.true_xor] at this
    exact ⟨r2, by rw [isN_ok r1]; exact this⟩
  | _ => exact h.elim
theorem flat_ok {K : PySem.W.Frag} {mg : Str → Option Value} {H : Hp} {M : MS} {d : D} {x : V} (r : Rep K mg H M d x) (f : flatD d = true) : flatV x = true ∧ ∀ d' x', Rep K mg H M d' x' → flatD d' = true → eqV x' x = eqF d' d := by
  cases d <;> first | (cases f; done) | skip
  all_goals
    cases r
    refine ⟨rfl, fun d' x' r' f' => ?_⟩
    cases d' <;> first | (cases f'; done) | skip
    all_goals (cases r'; rfl)
theorem flats_ok {K : PySem.W.Frag} {mg : Str → Option Value} {H : Hp} {M : MS} {d : D} {x : V} (r : Rep K mg H M d x) (f : flatD d = true) : ∀ {l : List D} {vs : List V}, RepL K mg H M l vs → l.all flatD = true → vs.all flatV = true ∧ inV x vs = l.any fun z => eqF z d
  | [], _, h, _ => by cases h; exact ⟨rfl, rfl⟩
  | e :: l, _, ⟨v, vs, ev, h, t⟩, q => by
    subst ev
    simp only [List.all_cons, Bool.and_eq_true] at q
    obtain ⟨h1, h2⟩ := flats_ok r f t q.2
    refine ⟨by simp [(flat_ok h q.1).1, h1], ?_⟩
    unfold inV at h2 ⊢
    simp only [List.any_cons, (flat_ok r f).2 e v h q.1, h2]
theorem op_inMG (neg : Bool) (op : CmpOp) (ho : op = if neg then .NotIn else .In) (hu : X.A.units + 65 < cLine) : OpR X (compareOp op) (rG X (inW neg)) := by
  intro pins s σ H x y v u Q I rx ry h
  obtain ⟨d1, d2, M, E, R, r1, r2, h⟩ := h
  have hu1 : X.A.units + 1 < cLine := by omega
  have rest : (W.get fun M => match dctOf M d2 with
    | some l => match keyOf d1 with
      | some k => W.pure (D.bl (neg ^^ (getA l k).isSome))
      | none => W.fail
    | none => match seqOf M d2 with
      | some l => if flatD d1 && l.all flatD then W.pure (.bl (neg ^^ l.any fun z => eqF z d1)) else
        match lstOf M d2, mapO (toD M deepD) l, toD M deepD d1 with
        | some _, some ps, some a => W.need (a.canLay0 = true ∧ PyData.canLayAll0 ps = true) (.pure (.bl (neg ^^ ps.any fun z => PyData.eqv z a)))
        | _, _, _ => W.fail
      | none => W.fail).run M (QG X (RV X) H M Q) E → wpAny (model X.prog X.w) X.A (compareOp op v u) (EP X pins σ Q) X.xe s := fun h => by
    have h : (match dctOf M d2 with
      | some l => match keyOf d1 with
        | some k => W.pure (D.bl (neg ^^ (getA l k).isSome))
        | none => W.fail
      | none => match seqOf M d2 with
        | some l => if flatD d1 && l.all flatD then W.pure (.bl (neg ^^ l.any fun z => eqF z d1)) else
          match lstOf M d2, mapO (toD M deepD) l, toD M deepD d1 with
          | some _, some ps, some a => W.need (a.canLay0 = true ∧ PyData.canLayAll0 ps = true) (.pure (.bl (neg ^^ ps.any fun z => PyData.eqv z a)))
          | _, _, _ => W.fail
        | none => W.fail).run M (QG X (RV X) H M Q) E := h
    cases e : dctOf M d2 with
    | some l =>
      rw [e] at h
      obtain ⟨p, kvs, rfl, hp, rp⟩ := dctOf_ok R e r2
      cases ry
      cases ek : keyOf d1 with
      | none => rw [ek] at h; exact h.elim
      | some k =>
        rw [ek] at h
        have ex : x = kV k := by
          cases d1 <;> simp only [keyOf, Option.some.injEq, reduceCtorEq] at ek <;> subst ek <;> cases r1 <;> rfl
        subst ex
        have g : DGet H p (kV k) (valV kvs k) := DGet.k hp
        have hs : (valV kvs k).isSome = (getA l k).isSome := by
          rcases rp.get (k := k) with ⟨a, b⟩ | ⟨d, v, a, b, _⟩ <;> rw [a, b] <;> rfl
        have q := now R h rfl
        cases neg with
        | false =>
          subst ho
          exact d_in hu1 I g rx fun s' I' => ⟨.bl _, H, I', rfl, by rw [hs]; simpa using q⟩
        | true =>
          subst ho
          exact d_notIn hu1 I g rx fun s' I' => ⟨.bl _, H, I', rfl, by rw [hs]; simpa using q⟩
    | none =>
      rw [e] at h
      cases e2 : seqOf M d2 with
      | none => rw [e2] at h; exact h.elim
      | some l =>
        rw [e2] at h
        simp only at h
        obtain ⟨p, vs, rfl, hq, rl⟩ := seqOf_ok R e2 r2
        by_cases hf : (flatD d1 && l.all flatD) = true
        · rw [if_pos hf] at h
          have q := now R h rfl
          rw [Bool.and_eq_true] at hf
          obtain ⟨f1, f2⟩ := flats_ok r1 hf.1 rl hf.2
          cases neg with
          | false =>
            subst ho
            exact op_in_seq pins s σ H x _ v u Q I rx ry ⟨p, vs, rfl, hq, (flat_ok r1 hf.1).1, f1, by rw [f2]; simpa using q⟩
          | true =>
            subst ho
            exact op_notIn_seq pins s σ H x _ v u Q I rx ry ⟨p, vs, rfl, hq, (flat_ok r1 hf.1).1, f1, by rw [f2]; simpa using q⟩
        · rw [if_neg hf] at h
          cases e3 : lstOf M d2 with
          | none => rw [e3] at h; exact h.elim
          | some l' =>
            cases e4 : mapO (toD M deepD) l with
            | none => rw [e3, e4] at h; exact h.elim
            | some ps =>
              cases e5 : toD M deepD d1 with
              | none => rw [e3, e4, e5] at h; exact h.elim
              | some a =>
                rw [e3, e4, e5] at h
                obtain ⟨⟨c1, c2⟩, h⟩ := h
                have q := now R h rfl
                obtain ⟨p', vs', ep, hp', rl'⟩ := lstOf_ok R e3 r2
                cases ep
                cases ry
                obtain ⟨as, w1, _⟩ := reads_of I R _ _ _ _ _ e5 r1 rx
                have hll : l' = l := by
                  cases d2 with
                  | lst _ => cases e2; cases e3; rfl
                  | ref p =>
                    have : lstOf M (.ref p) = some l := e2
                    rw [this] at e3; exact (Option.some.inj e3).symm
                  | _ => cases e3
                subst hll
                obtain ⟨bs, w2, _⟩ := reads_lst I R hp' (reads_of I R deepD) e4 rl'
                have sh : PyData.canLay0 (.list ps) = true := by simpa [PyData.canLay0] using c2
                cases neg with
                | false =>
                  subst ho
                  exact SeqAt.in_list_reads w2 w1 sh c1 (PyProof.Rows.room_in_shaped (shaped_toD e5 c1) hu) ⟨.bl _, H, I, rfl, by simpa using q⟩
                | true =>
                  subst ho
                  exact SeqAt.notIn_list_reads w2 w1 sh c1 (PyProof.Rows.room_in_shaped (shaped_toD e5 c1) hu) ⟨.bl _, H, I, rfl, by simpa using q⟩
  cases d1 with
  | str sx =>
    cases d2 with
    | str z =>
      have h : (match sx.cps.toList with
        | [c] => W.pure (D.bl (neg ^^ decide (c ∈ z.cps.toList)))
        | _ => W.fail).run M (QG X (RV X) H M Q) E := h
      cases es : sx.cps.toList with
      | nil => rw [es] at h; exact h.elim
      | cons c r =>
        cases r with
        | cons _ _ => rw [es] at h; exact h.elim
        | nil =>
          rw [es] at h
          have esx : sx = ⟨#[c]⟩ := by
            obtain ⟨arr⟩ := sx
            have : arr = #[c] := by
              apply Array.toList_inj.mp
              simpa using es
            rw [this]
          subst esx
          have q := now R h rfl
          cases neg with
          | false => subst ho; exact op_in_sign pins s σ H x y v u Q I rx ry ⟨c, z, r1, r2, by simpa using q⟩
          | true => subst ho; exact op_notIn_sign pins s σ H x y v u Q I rx ry ⟨c, z, r1, r2, by simpa using q⟩
    | _ => exact rest h
  | _ => cases d2 <;> exact rest h
theorem op_inM (hu : X.A.units + 65 < cLine) : OpR X (compareOp .In) (rG X (inW false)) := op_inMG false .In rfl hu
theorem op_notInM (hu : X.A.units + 65 < cLine) : OpR X (compareOp .NotIn) (rG X (inW true)) := op_inMG true .NotIn rfl hu
/-- truth -/
theorem isE {K : PySem.W.Frag} {mg : Str → Option Value} {H : Hp} {M : MS} {l : List D} {vs : List V} (r : RepL K mg H M l vs) : (!vs.isEmpty) = !l.isEmpty := by
  cases l with
  | nil => cases r; rfl
  | cons d l => obtain ⟨v, r, rfl, _⟩ := r; rfl
theorem isEP {κ : Type} {K : PySem.W.Frag} {mg : Str → Option Value} {H : Hp} {M : MS} {l : List (κ × D)} {vs : List (κ × V)} (r : RepP K mg H M l vs) : (!vs.isEmpty) = !l.isEmpty := by
  cases l with
  | nil => cases r; rfl
  | cons d l => obtain ⟨k, d⟩ := d; obtain ⟨v, r, rfl, _⟩ := r; rfl
theorem truD_ok {H : Hp} {M : MS} {d : D} {x : V} {b : Bool} (R : RelM X.K X.mg H M) (r : Rep X.K X.mg H M d x) (e : truD M d = some b) (hf : strFits d) : TruV X.K x H b := by
  cases d with
  | non => cases r; cases e; rfl
  | bl _ => cases r; cases e; rfl
  | int _ => cases r; cases e; rfl
  | str _ => cases r; cases e; exact ⟨hf, rfl⟩
  | tup l => obtain ⟨p, vs, rfl, hs, rl⟩ := r; cases e; exact .inr (.inl ⟨vs, sqT_of hs, (isE rl).symm⟩)
  | lst l => obtain ⟨p, vs, rfl, hs, rl⟩ := r; cases e; exact .inl ⟨vs, .of hs.1, (isE rl).symm⟩
  | scr l => obtain ⟨p, vs, rfl, hs, rl⟩ := r; cases e; exact .inl ⟨vs, sqL_of hs, (isE rl).symm⟩
  | dct l => obtain ⟨p, vs, rfl, hs, rl⟩ := r; cases e; exact .inr (.inr ⟨vs, hs.1, (isEP (RepK.iff.mp rl)).symm⟩)
  | ref p =>
    cases r
    simp only [truD] at e
    cases hp : M p with
    | none => rw [hp] at e; cases e
    | some c =>
      rw [hp] at e
      cases c with
      | lst l => cases e; obtain ⟨vs, h, q⟩ := R.at_ p _ hp; exact .inl ⟨vs, .of h, (isE q).symm⟩
      | dct l => cases e; obtain ⟨vs, h, q⟩ := R.at_ p _ hp; exact .inr (.inr ⟨vs, h, (isEP q).symm⟩)
      | ins _ _ => cases e
  | glo _ => cases e
  | ty _ => cases e
  | exc _ _ => cases e
  | cls _ => cases e
  | xty _ => cases e
end
end Mir

/-! Mir5: built-in calls, items, slices, by values. -/
namespace Mir
open PySem L2 PyProof.Rows

/-- a call by trees: no exception -/
def rC (X : Cx) (g : List D → W D) : List V → Hp → VK → Prop := fun xs H Q => ∃ ds M E, RelM X.K X.mg H M ∧ RepL X.K X.mg H M ds xs ∧ (g ds).run M (QG X (RV X) H M Q) E
def arg1 (f : D → W D) : List D → W D
  | [d] => f d
  | _ => .fail
def arg2 (f : D → D → W D) : List D → W D
  | [d, e] => f d e
  | _ => .fail
def lenD (M : MS) : D → Option Nat
  | .str s => some s.length
  | .tup l => some l.length
  | .lst l => some l.length
  | .scr l => some l.length
  | .dct l => some l.length
  | .ref p => match M p with
    | some (.lst l) => some l.length
    | some (.dct l) => some l.length
    | _ => none
  | _ => none
/-- a partial look, then a condition -/
def opt {α : Type} (o : Option α) (k : α → W D) : W D := match o with
  | some a => k a
  | none => .fail
def lenW (d : D) : W D := .get fun M => opt (lenD M d) fun n => .need (strFits d) (.pure (.int n))
def absW : D → W D
  | .int i => .pure (.int (if i < 0 then -i else i))
  | _ => .fail
def minW : D → D → W D
  | .int i, .int j => .pure (.int (if j < i then j else i))
  | _, _ => .fail
def maxW : D → D → W D
  | .int i, .int j => .pure (.int (if j > i then j else i))
  | _, _ => .fail
def tyD (M : MS) : D → Option Ty
  | .non => some .none
  | .bl _ => some .bool
  | .int _ => some .int
  | .str _ => some .str
  | .tup _ => some .tuple
  | .lst _ => some .list
  | .dct _ => some .dict
  | .ref p => match M p with
    | some (.lst _) => some .list
    | some (.dct _) => some .dict
    | _ => none
  | _ => none
def isTy (a b : Ty) : Bool := match a, b with
  | .bool, .int => true
  | a, b => decide (a = b)
def tysOf : List D → Option (List Ty)
  | [] => some []
  | .ty t :: r => (tysOf r).map (t :: ·)
  | _ :: _ => none
/-- an exception's class against a class that is asked for -/
def xisi (x : XN) : D → Option Bool
  | .cls c => some (decide (x.n = c.n))
  | .xty t => some (x.b.le t)
  | _ => none
def xisis (x : XN) : List D → Option Bool
  | [] => some false
  | c :: r => match xisi x c, xisis x r with
    | some a, some b => some (a || b)
    | _, _ => none
def isiW (d c : D) : W D := match c with
  | .ty b => .get fun M => opt (tyD M d) fun a => .pure (.bl (isTy a b))
  | .tup l => match d with
    | .exc x _ => opt (xisis x l) fun b => .pure (.bl b)
    | d => .get fun M => opt (tyD M d) fun a => opt (tysOf l) fun ts => .pure (.bl (ts.any (isTy a)))
  | .cls c => match d with
    | .exc x _ => .pure (.bl (decide (x.n = c.n)))
    | _ => .fail
  | .xty t => match d with
    | .exc x _ => .pure (.bl (x.b.le t))
    | _ => .fail
  | _ => .fail
def blsOf : List D → Option (List Bool)
  | [] => some []
  | .bl b :: r => (blsOf r).map (b :: ·)
  | _ :: _ => none
def allW (d : D) : W D := .get fun M => opt (lstOf M d) fun l => opt (blsOf l) fun bs => .pure (.bl (bs.all id))
def anyW (d : D) : W D := .get fun M => opt (lstOf M d) fun l => opt (blsOf l) fun bs => .pure (.bl (bs.any id))
def listW (lv : Bool) (d : D) : W D := .get fun M => opt (seqOf M d) fun l => mkL0 lv l
def tupleW (d : D) : W D := match d with
  | .tup l => .pure (.tup l)
  | d => .get fun M => opt (lstOf M d) fun l => .pure (.tup l)
def strW : D → W D
  | .int i => .need (i.natAbs.log2 < 1920) (.pure (.str (toString i)))
  | .str a => .pure (.str a)
  | _ => .fail
def intW : D → W D
  | .int i => .pure (.int i)
  | .bl b => .pure (.int (if b then 1 else 0))
  | .str a => opt (PySem.intText? a) fun n => .need (a.length ≤ 640) (.pure (.int n))
  | _ => .fail
def reprW (d : D) : W D := .get fun M => opt (toD M deepD d) fun pd => .need (pd.showable = true ∧ pd.shown.length ≤ sizeLine) (.pure (.str pd.shown))
section
variable {X : Cx}
theorem CallR.imp {f : Value} {r r' : List V → Hp → VK → Prop} (h : CallR X f r) (i : ∀ xs H Q, r' xs H Q → r xs H Q) : CallR X f r' := fun pins s σ H xs us Q I rs q => h pins s σ H xs us Q I rs (i xs H Q q)
theorem opt_run {α : Type} {o : Option α} {k : α → W D} {M : MS} {Q : D → MS → Prop} {E : XV → MS → Prop} (h : (opt o k).run M Q E) : ∃ a, o = some a ∧ (k a).run M Q E := by
  cases o with
  | none => exact h.elim
  | some a => exact ⟨a, rfl, h⟩
theorem get_run {k : MS → W D} {M : MS} {Q : D → MS → Prop} {E : XV → MS → Prop} (h : (W.get k).run M Q E) : (k M).run M Q E := h
theorem rC1 {f : D → W D} {xs : List V} {H : Hp} {Q : VK} (h : rC X (arg1 f) xs H Q) : ∃ d v M E, xs = [v] ∧ RelM X.K X.mg H M ∧ Rep X.K X.mg H M d v ∧ (f d).run M (QG X (RV X) H M Q) E := by
  obtain ⟨ds, M, E, R, r, h⟩ := h
  rcases ds with _ | ⟨d, _ | ⟨e, l⟩⟩
  · exact h.elim
  · obtain ⟨v, r, rfl, hr, rfl⟩ := r
    exact ⟨d, v, M, E, rfl, R, hr, h⟩
  · exact h.elim
theorem rC2 {f : D → D → W D} {xs : List V} {H : Hp} {Q : VK} (h : rC X (arg2 f) xs H Q) : ∃ d e v u M E, xs = [v, u] ∧ RelM X.K X.mg H M ∧ Rep X.K X.mg H M d v ∧ Rep X.K X.mg H M e u ∧ (f d e).run M (QG X (RV X) H M Q) E := by
  obtain ⟨ds, M, E, R, r, h⟩ := h
  rcases ds with _ | ⟨d, _ | ⟨e, _ | ⟨g, l⟩⟩⟩
  · exact h.elim
  · exact h.elim
  · obtain ⟨v, r, rfl, hr, u, r', rfl, hr', rfl⟩ := r
    exact ⟨d, e, v, u, M, E, rfl, R, hr, hr', h⟩
  · exact h.elim
theorem call_lenM : CallR X (.builtin "len") (rC X (arg1 lenW)) := by
  refine CallR.imp (CallR.or call_len call_lenD) fun xs H Q hh => ?_
  obtain ⟨d, v, M, E, rfl, R, r, h⟩ := rC1 hh
  obtain ⟨n, e, hf, h⟩ := opt_run (get_run h)
  have q := now R h rfl
  cases d with
  | str s => cases r; cases e; exact .inl ⟨_, _, rfl, ⟨hf, rfl⟩, q⟩
  | tup l => obtain ⟨p, vs, rfl, hs, rl⟩ := r; cases e; exact .inl ⟨_, _, rfl, Or.inr ⟨vs, sqT_of hs, rl.length⟩, q⟩
  | lst l => obtain ⟨p, vs, rfl, hs, rl⟩ := r; cases e; exact .inl ⟨_, _, rfl, Or.inl ⟨vs, .of hs.1, rl.length⟩, q⟩
  | scr l => obtain ⟨p, vs, rfl, hs, rl⟩ := r; cases e; exact .inl ⟨_, _, rfl, Or.inl ⟨vs, sqL_of hs, rl.length⟩, q⟩
  | dct l => obtain ⟨p, vs, rfl, hs, rl⟩ := r; cases e; exact .inr ⟨p, vs, rfl, hs.1, by rw [← (RepK.iff.mp rl).length]; exact q⟩
  | ref p =>
    cases r
    simp only [lenD] at e
    cases hp : M p with
    | none => rw [hp] at e; cases e
    | some c =>
      rw [hp] at e
      cases c with
      | lst l => cases e; obtain ⟨vs, h1, h2⟩ := R.at_ p _ hp; exact .inl ⟨_, _, rfl, Or.inl ⟨vs, .of h1, h2.length⟩, q⟩
      | dct l => cases e; obtain ⟨vs, h1, h2⟩ := R.at_ p _ hp; exact .inr ⟨p, vs, rfl, h1, by rw [← h2.length]; exact q⟩
      | ins _ _ => cases e
  | _ => cases e
theorem call_absM : CallR X (.builtin "abs") (rC X (arg1 absW)) := by
  refine CallR.imp call_abs fun xs H Q hh => ?_
  obtain ⟨d, v, M, E, rfl, R, r, h⟩ := rC1 hh
  cases d with
  | int i => cases r; exact ⟨i, rfl, now R h rfl⟩
  | _ => exact h.elim
theorem call_minM (hc : X.calm = true) : CallR X (.builtin "min") (rC X (arg2 minW)) := by
  refine CallR.imp (call_min2 hc) fun xs H Q hh => ?_
  obtain ⟨d, e, v, u, M, E, rfl, R, r, r', h⟩ := rC2 hh
  cases d with
  | int i =>
    cases e with
    | int j => cases r; cases r'; exact ⟨i, j, rfl, now R h rfl⟩
    | _ => exact h.elim
  | _ => exact h.elim
theorem call_maxM (hc : X.calm = true) : CallR X (.builtin "max") (rC X (arg2 maxW)) := by
  refine CallR.imp (call_max2 hc) fun xs H Q hh => ?_
  obtain ⟨d, e, v, u, M, E, rfl, R, r, r', h⟩ := rC2 hh
  cases d with
  | int i =>
    cases e with
    | int j => cases r; cases r'; exact ⟨i, j, rfl, now R h rfl⟩
    | _ => exact h.elim
  | _ => exact h.elim
theorem kit_all : ∀ a b : Ty, kitB a.name b.name = some (isTy a b) := by
  intro a b
  cases b <;> cases a <;> decide +kernel
theorem tyD_ok {H : Hp} {M : MS} {d : D} {x : V} {t : Ty} (R : RelM X.K X.mg H M) (r : Rep X.K X.mg H M d x) (e : tyD M d = some t) : TyX X.K H x (.type t.name) := by
  cases d with
  | non => cases r; cases e; exact .base .non
  | bl _ => cases r; cases e; exact .base (.bl _)
  | int _ => cases r; cases e; exact .base (.int _)
  | str _ => cases r; cases e; exact .base (.str _)
  | tup l =>
    obtain ⟨p, vs, rfl, hs, rl⟩ := r
    cases e
    rcases hs with ⟨h | ⟨o, h⟩, _⟩ | (h | ⟨o, h⟩) | ⟨o, its, n, h1, h2, _⟩
    · exact .base (.tup h)
    · exact .fTuple h
    · cases h
    · cases h
    · exact .kTuple h1 h2
  | lst l => obtain ⟨p, vs, rfl, hs, rl⟩ := r; cases e; exact .base (.lst hs.1)
  | dct l => obtain ⟨p, vs, rfl, hs, rl⟩ := r; cases e; exact .base (.dK hs.1)
  | ref p =>
    cases r
    simp only [tyD] at e
    cases hp : M p with
    | none => rw [hp] at e; cases e
    | some c =>
      rw [hp] at e
      cases c with
      | lst l => cases e; obtain ⟨vs, h1, h2⟩ := R.at_ p _ hp; exact .base (.lst h1)
      | dct l => cases e; obtain ⟨vs, h1, h2⟩ := R.at_ p _ hp; exact .base (.dK h1)
      | ins _ _ => cases e
  | scr _ => cases e
  | glo _ => cases e
  | ty _ => cases e
  | exc _ _ => cases e
  | cls _ => cases e
  | xty _ => cases e
theorem tysOf_ok {K : PySem.W.Frag} {mg : Str → Option Value} {H : Hp} {M : MS} (a : Ty) : ∀ {l : List D} {vs : List V} {ts : List Ty}, tysOf l = some ts → RepL K mg H M l vs → Paired ClsV vs (ts.map fun t => Value.type t.name) ∧ PySem.W.kitAny K (.type a.name) (ts.map fun t => Value.type t.name) = some (ts.any (isTy a))
  | [], _, _, e, r => by cases r; cases e; exact ⟨.nil, rfl⟩
  | d :: l, _, ts, e, ⟨v, r, ev, h, q⟩ => by
    subst ev
    cases d <;> simp only [tysOf, reduceCtorEq, Option.map_eq_some_iff] at e
    obtain ⟨ts', e, rfl⟩ := e
    cases h
    obtain ⟨h1, h2⟩ := tysOf_ok a e q
    refine ⟨.cons (.ty _) h1, ?_⟩
    simp only [List.map_cons, PySem.W.kitAny, kit_ty (kit_all a _), List.any_cons, h2]
    cases isTy a _ <;> rfl
theorem isi_tup {l : List D} {v : V} {H : Hp} {M : MS} (r : Rep X.K X.mg H M (.tup l) v) : ∃ p vs, v = .ref p ∧ (H p = some (.tup vs) ∨ (∃ o, H p = some (.frz o (.tup vs))) ∨ SqT X.K (fun _ => none) p vs) ∧ RepL X.K X.mg H M l vs := by
  obtain ⟨p, vs, rfl, hs, rl⟩ := r
  rcases hs with ⟨h | ⟨o, h⟩, _⟩ | h
  · exact ⟨p, vs, rfl, .inl h, rl⟩
  · exact ⟨p, vs, rfl, .inr (.inl ⟨o, h⟩), rl⟩
  · exact ⟨p, vs, rfl, .inr (.inr h), rl⟩
/-- an exception's value asked for a class -/
theorem xisi_ok {K : PySem.W.Frag} {mg : Str → Option Value} {H : Hp} {M : MS} {x : XN} {C : Addr} (hm : mg x.n = some (.ref C)) (T : XC K C x.n x.b) {c : D} {u : V} {b : Bool} (e : xisi x c = some b) (r : Rep K mg H M c u) : ∃ cv, ClsV u cv ∧ PySem.W.kitOne K (.ref C) cv = some b := by
  cases c with
  | cls c =>
    obtain ⟨C', m', T', rfl⟩ := r
    simp only [xisi, Option.some.injEq] at e
    subst e
    refine ⟨.ref C', .own _, kit_own T T' fun en => ?_⟩
    rw [← en, hm] at m'
    cases m'
    rfl
  | xty t =>
    cases r
    simp only [xisi, Option.some.injEq] at e
    subst e
    exact ⟨.type t.nm, .ty _, kit_xty T t⟩
  | _ => cases e
theorem xisis_ok {K : PySem.W.Frag} {mg : Str → Option Value} {H : Hp} {M : MS} {x : XN} {C : Addr} (hm : mg x.n = some (.ref C)) (T : XC K C x.n x.b) : ∀ {l : List D} {vs : List V} {b : Bool}, xisis x l = some b → RepL K mg H M l vs →
    ∃ cs, Paired ClsV vs cs ∧ PySem.W.kitAny K (.ref C) cs = some b
  | [], _, _, e, r => by cases r; cases e; exact ⟨[], .nil, rfl⟩
  | d :: l, _, b, e, ⟨v, r, ev, h, q⟩ => by
    subst ev
    simp only [xisis] at e
    cases e1 : xisi x d with
    | none => rw [e1] at e; cases e
    | some a =>
      cases e2 : xisis x l with
      | none => rw [e1, e2] at e; cases e
      | some b' =>
        rw [e1, e2] at e
        cases e
        obtain ⟨cv, c1, c2⟩ := xisi_ok hm T e1 h
        obtain ⟨cs, c3, c4⟩ := xisis_ok hm T e2 q
        refine ⟨cv :: cs, .cons c1 c3, ?_⟩
        simp only [PySem.W.kitAny, c2, c4]
        cases a <;> rfl
theorem exc_inst {pins : List (Addr × Obj)} {s : Shared} {σ : L2.St} {H : Hp} {C p : Addr} {od : Option Addr} {kvs : List (Str × V)} (I : Inv X pins σ H s) (hp : H p = some (exV (.ref C) od p)) (hd : (od = none ∧ kvs = []) ∨ ∃ d, od = some d ∧ H d = some (.xd kvs)) :
    ∃ oe oo, PySem.W.InstAt s.heap p oe C oo := by
  obtain ⟨oe, vs, ho, hz, hf⟩ := exV_at I.hok hp
  rcases hd with ⟨rfl, _⟩ | ⟨d, rfl, hd⟩
  · exact ⟨oe, none, ho, hz.1, by unfold PySem.W.notCls; rw [hf] <;> rfl, by rw [hz.2]; trivial⟩
  · have hx : ObjOk X.prog X.w H s.heap d (.xd kvs) := I.hok d _ hd
    obtain ⟨mA, hns, _⟩ := hx
    obtain ⟨o', hod, _⟩ := lookIn_ns hns
    exact ⟨oe, some o', ho, hz.1, by unfold PySem.W.notCls; rw [hf] <;> rfl, by rw [hz.2]; exact hod⟩
theorem call_isiM : CallR X (.builtin "isinstance") (rC X (arg2 isiW)) := by
  intro pins s σ H xs us Q I rs hh
  obtain ⟨d, c, v, u, M, E, rfl, R, r, r', h⟩ := rC2 hh
  cases c with
  | ty b =>
    obtain ⟨a, e, h⟩ := opt_run (get_run h)
    cases r'
    exact call_isi pins s σ H _ us Q I rs ⟨v, _, _, _, _, rfl, .ty _, tyD_ok R r e, kit_ty (kit_all a b), now R h rfl⟩
  | tup l =>
    have tupO : (W.get fun M => opt (tyD M d) fun a => opt (tysOf l) fun ts => .pure (.bl (ts.any (isTy a)))).run M (QG X (RV X) H M Q) E → wpAny (model X.prog X.w) X.A (call (.builtin "isinstance") us) (EP X pins σ Q) X.xe s := fun h => by
      obtain ⟨a, e, h⟩ := opt_run (get_run h)
      obtain ⟨ts, e2, h⟩ := opt_run h
      obtain ⟨p, vs, rfl, hs, rl⟩ := r'
      obtain ⟨h1, h2⟩ := tysOf_ok a e2 rl
      have q := now R h rfl
      have ty := tyD_ok R r e
      obtain ⟨u1, u2, rfl, q1, q2⟩ := vals2 rs
      cases (show u2 = Value.ref p from q2)
      obtain ⟨P, Z, pz, hx⟩ := kit_of I q1 ty
      obtain ⟨its, rv, ⟨o, ho, hc, n, hd⟩, _⟩ := I.tuple (sqT_of hs)
      have e3 := ClsV.all h1 rv
      subst e3
      obtain ⟨cls, dd, data, sl⟩ := o
      simp only at hc hd
      subst hc hd
      exact PySem.W.kia_tup Z I.kIn pz ho h2 hx fun tk => ⟨.bl _, H, I.tok tk, rfl, q⟩
    cases d with
    | exc x fs =>
      obtain ⟨b, e, h⟩ := opt_run (show (opt (xisis x l) fun b => W.pure (.bl b)).run M (QG X (RV X) H M Q) E from h)
      obtain ⟨p, C, od, kvs, rfl, m, T, _, hp, hd, _⟩ := r
      obtain ⟨pt, vs, rfl, hs, rl⟩ := r'
      obtain ⟨cs, c1, c2⟩ := xisis_ok m T e rl
      have q := now R h rfl
      obtain ⟨u1, u2, rfl, q1, q2⟩ := vals2 rs
      cases (show u1 = Value.ref p from q1)
      cases (show u2 = Value.ref pt from q2)
      obtain ⟨oe, oo, J⟩ := exc_inst I hp.1 (hd.imp id fun ⟨d, e, h1, _⟩ => ⟨d, e, h1⟩)
      obtain ⟨its, rv, ⟨o, ho, hc, n, hd'⟩, _⟩ := I.tuple (sqT_of hs)
      have e3 := ClsV.all c1 rv
      subst e3
      obtain ⟨cls, dd, data, sl⟩ := o
      simp only at hc hd'
      subst hc hd'
      exact PySem.W.kia_tup T.kit I.kIn J ho c2 (fun z => nomatch z) fun tk => ⟨.bl _, H, I.tok tk, rfl, q⟩
    | _ => exact tupO h
  | cls c =>
    cases d with
    | exc x fs =>
      obtain ⟨p, C, od, kvs, rfl, m, T, _, hp, hd, _⟩ := r
      obtain ⟨cv, c1, c2⟩ := xisi_ok (c := .cls c) m T rfl r'
      have q := now R h rfl
      obtain ⟨u1, u2, rfl, q1, q2⟩ := vals2 rs
      cases (show u1 = Value.ref p from q1)
      have e2 := c1.eq q2
      subst e2
      obtain ⟨oe, oo, J⟩ := exc_inst I hp.1 (hd.imp id fun ⟨d, e, h1, _⟩ => ⟨d, e, h1⟩)
      exact PySem.W.kia_one T.kit I.kIn J c2 (fun z => nomatch z) fun tk => ⟨.bl _, H, I.tok tk, rfl, q⟩
    | _ => exact h.elim
  | xty t =>
    cases d with
    | exc x fs =>
      obtain ⟨p, C, od, kvs, rfl, m, T, _, hp, hd, _⟩ := r
      obtain ⟨cv, c1, c2⟩ := xisi_ok (c := .xty t) m T rfl r'
      have q := now R h rfl
      obtain ⟨u1, u2, rfl, q1, q2⟩ := vals2 rs
      cases (show u1 = Value.ref p from q1)
      have e2 := c1.eq q2
      subst e2
      obtain ⟨oe, oo, J⟩ := exc_inst I hp.1 (hd.imp id fun ⟨d, e, h1, _⟩ => ⟨d, e, h1⟩)
      exact PySem.W.kia_one T.kit I.kIn J c2 (fun z => nomatch z) fun tk => ⟨.bl _, H, I.tok tk, rfl, q⟩
    | _ => exact h.elim
  | _ => exact h.elim
theorem blsOf_ok {K : PySem.W.Frag} {mg : Str → Option Value} {H : Hp} {M : MS} : ∀ {l : List D} {vs : List V} {bs : List Bool}, blsOf l = some bs → RepL K mg H M l vs → vs = bs.map V.bl
  | [], _, _, e, r => by cases r; cases e; rfl
  | d :: l, _, bs, e, ⟨v, r, ev, h, q⟩ => by
    subst ev
    cases d <;> simp only [blsOf, reduceCtorEq, Option.map_eq_some_iff] at e
    obtain ⟨bs', e, rfl⟩ := e
    cases h
    rw [blsOf_ok e q]; rfl
theorem call_allM (hc : X.calm = true) : CallR X (.builtin "all") (rC X (arg1 allW)) := by
  refine CallR.imp (cr_all hc) fun xs H Q hh => ?_
  obtain ⟨d, v, M, E, rfl, R, r, h⟩ := rC1 hh
  obtain ⟨l, e, h⟩ := opt_run (get_run h)
  obtain ⟨bs, e2, h⟩ := opt_run h
  obtain ⟨p, vs, rfl, hp, rl⟩ := lstOf_ok R e r
  have := blsOf_ok e2 rl
  subst this
  exact ⟨p, bs, rfl, .of hp, now R h rfl⟩
theorem call_anyM (hc : X.calm = true) : CallR X (.builtin "any") (rC X (arg1 anyW)) := by
  refine CallR.imp (cr_any hc) fun xs H Q hh => ?_
  obtain ⟨d, v, M, E, rfl, R, r, h⟩ := rC1 hh
  obtain ⟨l, e, h⟩ := opt_run (get_run h)
  obtain ⟨bs, e2, h⟩ := opt_run h
  obtain ⟨p, vs, rfl, hp, rl⟩ := lstOf_ok R e r
  have := blsOf_ok e2 rl
  subst this
  exact ⟨p, bs, rfl, .of hp, now R h rfl⟩
theorem call_listM {lv : Bool} : CallR X (.type "list") (rC X (arg1 (listW lv))) := by
  refine CallR.imp call_list_of fun xs H Q hh => ?_
  obtain ⟨d, v, M, E, rfl, R, r, h⟩ := rC1 hh
  obtain ⟨l, e, h⟩ := opt_run (get_run h)
  obtain ⟨p, vs, rfl, hp, rl⟩ := seqOf_ok R e r
  exact ⟨p, vs, rfl, hp, mkL0_ok R rl h⟩
theorem call_tupleM : CallR X (.type "tuple") (rC X (arg1 tupleW)) := by
  refine CallR.imp call_tuple_of fun xs H Q hh => ?_
  obtain ⟨d, v, M, E, rfl, R, r, h⟩ := rC1 hh
  have h0 := h
  cases d with
  | tup l =>
    have h' : QG X (RV X) H M Q (.tup l) M := h
    obtain ⟨p, vs, rfl, hs, rl⟩ := r
    exact ⟨p, vs, rfl, .inr ⟨sqT_of hs, now R h' ⟨p, vs, rfl, hs, rl⟩⟩⟩
  | lst l =>
    obtain ⟨l', e, h⟩ := opt_run (show (opt (lstOf M (.lst l)) fun l => W.pure (.tup l)).run M (QG X (RV X) H M Q) E from h)
    obtain ⟨p, vs, rfl, hp, rl⟩ := lstOf_ok R e r
    exact ⟨p, vs, rfl, .inl ⟨.of hp, mkT0_ok R rl h⟩⟩
  | ref a =>
    obtain ⟨l', e, h⟩ := opt_run (show (opt (lstOf M (.ref a)) fun l => W.pure (.tup l)).run M (QG X (RV X) H M Q) E from h)
    obtain ⟨p, vs, rfl, hp, rl⟩ := lstOf_ok R e r
    exact ⟨p, vs, rfl, .inl ⟨.of hp, mkT0_ok R rl h⟩⟩
  | _ => exact h.elim
theorem call_strM : CallR X (.type "str") (rC X (arg1 strW)) := by
  refine CallR.imp (CallR.or call_str_int SkE.call_str_str) fun xs H Q hh => ?_
  obtain ⟨d, v, M, E, rfl, R, r, h⟩ := rC1 hh
  cases d with
  | int i => cases r; exact .inl ⟨i, rfl, h.1, now R h.2 rfl⟩
  | str a => cases r; exact .inr ⟨a, rfl, now R h rfl⟩
  | _ => exact h.elim
theorem call_intM : CallR X (.type "int") (rC X (arg1 intW)) := by
  refine CallR.imp (CallR.or call_int1 call_int_str) fun xs H Q hh => ?_
  obtain ⟨d, v, M, E, rfl, R, r, h⟩ := rC1 hh
  cases d with
  | int i => cases r; exact .inl (.inl ⟨i, rfl, now R h rfl⟩)
  | bl b => cases r; exact .inl (.inr ⟨b, rfl, now R h rfl⟩)
  | str a =>
    cases r
    obtain ⟨n, e, h⟩ := opt_run (show (opt (PySem.intText? a) fun n => W.need (a.length ≤ 640) (.pure (.int n))).run M (QG X (RV X) H M Q) E from h)
    exact .inr ⟨a, n, rfl, e, h.1, now R h.2 rfl⟩
  | _ => exact h.elim
theorem call_reprM (hg : X.A.guards = some []) (hu : X.A.units + 64 < cLine) : CallR X (.builtin "repr") (rC X (arg1 reprW)) := by
  intro pins s σ H xs us Q I rs hh
  obtain ⟨d, v, M, E, rfl, R, r, h⟩ := rC1 hh
  obtain ⟨pd, e, ⟨h1, h2⟩, h⟩ := opt_run (get_run h)
  have q := now R h rfl
  obtain ⟨u, rfl, ru⟩ := vals1 rs
  obtain ⟨as, w, ht⟩ := reads_of I R _ _ _ _ _ e r ru
  have hs : sysModules ∉ as := fun hm => ht _ hm rfl
  have hd := depth_toD deepD d pd e
  cases w with
  | none => exact PySem.P.repr_of_none ⟨.str _, H, I.tok _, ⟨_, rfl⟩, q⟩
  | bool b => exact PySem.P.repr_of_bool ⟨.str _, H, I.tok _, ⟨_, rfl⟩, q⟩
  | int i t => exact PySem.P.repr_of_int (by simpa [PyData.showable] using h1) ⟨.str _, H, I.tok _, ⟨_, rfl⟩, q⟩
  | str x t => exact PySem.P.repr_of_str ⟨.str _, H, I.tok _, ⟨_, rfl⟩, q⟩ h2
  | list a1 a2 a3 a4 =>
    exact repr_of_reads' (.list a1 a2 a3 a4) h1 (fun _ => hs) hg (by unfold deepD at hd; omega) (fun _ _ z => z) (fun h' u tk k => ⟨.str _, H, I.kept k, ⟨_, rfl⟩, q⟩) h2
  | tuple a1 a2 a3 a4 =>
    exact repr_of_reads' (.tuple a1 a2 a3 a4) h1 (fun _ => hs) hg (by unfold deepD at hd; omega) (fun _ _ z => z) (fun h' u tk k => ⟨.str _, H, I.kept k, ⟨_, rfl⟩, q⟩) h2
  | dict a1 a2 a3 a4 a5 =>
    exact repr_of_reads' (.dict a1 a2 a3 a4 a5) h1 (fun _ => hs) hg (by unfold deepD at hd; omega) (fun _ _ z => z) (fun h' u tk k => ⟨.str _, H, I.kept k, ⟨_, rfl⟩, q⟩) h2
end
end Mir

/-! Mir6: items, slices, built-in methods, by values. -/
namespace Mir
open PySem L2 PyProof.Rows

/-! ### items -/
def intOf : D → Option Int
  | .int i => some i
  | _ => none
def idxR (x y : D) : W D := .get fun M => match dctOf M x with
  | some l => opt (keyOf y) fun k => opt (getA l k) fun d => .pure d
  | none => opt (seqOf M x) fun l => opt (intOf y) fun i => opt (atI l i) fun d => .pure d
def idxW (x y : D) : W D := match x, y with
  | .str z, .int i => opt (atI z.cps.toList i) fun c => .need (z.length ≤ sizeLine) (.pure (.str ⟨#[c]⟩))
  | x, y => idxR x y
def cutD (xs : List D) (lo hi : Option Int) : List D := (xs.drop (HT.sIx xs.length 0 lo)).take (HT.sIx xs.length xs.length hi - HT.sIx xs.length 0 lo)
def slW (lv : Bool) (x : D) (lo hi : Option Int) : W D := match x with
  | .str z => .need (z.length ≤ sizeLine) (.pure (.str (cutS z lo hi)))
  | .tup l => .pure (.tup (cutD l lo hi))
  | x => .get fun M => opt (seqOf M x) fun l => mkL0 lv (cutD l lo hi)
section
variable {X : Cx}
theorem IxR.imp {r r' : R2} (h : IxR X r) (i : ∀ x y H Q, r' x y H Q → r x y H Q) : IxR X r' := fun a b pins s σ H x y v u Q I rx ry q => h a b pins s σ H x y v u Q I rx ry (i x y H Q q)
theorem IxR.or {r r' : R2} (h : IxR X r) (h' : IxR X r') : IxR X (fun x y H Q => r x y H Q ∨ r' x y H Q) := fun a b pins s σ H x y v u Q I rx ry q hs =>
  q.elim (fun q => h a b pins s σ H x y v u Q I rx ry q hs) (fun q => h' a b pins s σ H x y v u Q I rx ry q hs)
theorem SlR.imp {r r' : V → Option Int → Option Int → Hp → VK → Prop} (h : SlR X r) (i : ∀ x l u H Q, r' x l u H Q → r x l u H Q) : SlR X r' := fun pins s σ H x v vl vu lo hi sl Q I rx hs pl pu q => h pins s σ H x v vl vu lo hi sl Q I rx hs pl pu (i x lo hi H Q q)
theorem atI_ok {K : PySem.W.Frag} {mg : Str → Option Value} {H : Hp} {M : MS} {l : List D} {vs : List V} {i : Int} {d : D} (r : RepL K mg H M l vs) (e : atI l i = some d) : ∃ v, atI vs i = some v ∧ Rep K mg H M d v := by
  unfold atI at e ⊢
  rw [r.length] at e
  cases h : ixN vs.length i with
  | none => rw [h] at e; cases e
  | some j =>
    rw [h] at e
    obtain ⟨v, h1, h2⟩ := r.get (show l[j]? = some d from e)
    exact ⟨v, h1, h2⟩
def rDG : R2 := fun x y H Q => ∃ a v, x = .ref a ∧ DGet H a y (some v) ∧ Q v H
theorem ix_dict (hu : X.A.units + 1 < cLine) : IxR X rDG := by
  intro a b pins s σ H x y v u Q I rx ry h hs
  obtain ⟨p, w, rfl, g, q⟩ := h
  obtain rfl : v = Value.ref p := rx
  exact tail_any (dict_typeIs I g) PySem.F.slot_dict_getitem.lookup (d_getItem hu I g ry fun w' s3 I3 rw' => ⟨w, H, I3, rw', q⟩) hs
theorem kV_of {K : PySem.W.Frag} {mg : Str → Option Value} {H : Hp} {M : MS} {d : D} {k : Key} {x : V} (e : keyOf d = some k) (r : Rep K mg H M d x) : x = kV k := by
  cases d <;> simp only [keyOf, Option.some.injEq, reduceCtorEq] at e <;> subst e <;> cases r <;> rfl
theorem ix_M (hu : X.A.units + 1 < cLine) : IxR X (rG X idxW) := by
  refine IxR.imp (IxR.or ix_str (IxR.or (ix_dict hu) (IxR.or ix_list ix_tup))) ?_
  rintro x y H Q ⟨d1, d2, M, E, R, r1, r2, h⟩
  have rest : (idxR d1 d2).run M (QG X (RV X) H M Q) E → rIxS x y H Q ∨ rDG x y H Q ∨ rIxL X.K x y H Q ∨ rIxT X.K x y H Q := fun hr => by
    clear h
    have h := get_run hr
    clear hr
    cases e : dctOf M d1 with
    | some l =>
      rw [e] at h
      obtain ⟨k, ek, h⟩ := opt_run h
      obtain ⟨d, ed, h⟩ := opt_run h
      obtain ⟨p, kvs, rfl, hp, rp⟩ := dctOf_ok R e r1
      rcases rp.get (k := k) with ⟨a, b⟩ | ⟨d', v, a, b, rv⟩
      · rw [ed] at a; cases a
      · rw [ed] at a; cases a
        refine .inr (.inl ⟨p, v, rfl, ?_, now R h rv⟩)
        rw [kV_of ek r2, ← b]
        exact DGet.k hp
    | none =>
      rw [e] at h
      replace h : (opt (seqOf M d1) fun l => opt (intOf d2) fun i => opt (atI l i) fun d => W.pure d).run M (QG X (RV X) H M Q) E := h
      obtain ⟨l, el, h1⟩ := opt_run h
      obtain ⟨i, ei, h2⟩ := opt_run h1
      obtain ⟨d, ed, h3⟩ := opt_run h2
      have e2 : d2 = .int i := by
        cases d2 <;> simp only [intOf, reduceCtorEq, Option.some.injEq] at ei
        rw [ei]
      subst e2
      obtain ⟨p, vs, rfl, hs, rl⟩ := seqOf_ok R el r1
      obtain ⟨v, ev, rv⟩ := atI_ok rl ed
      cases r2
      rcases hs with hs | hs
      · exact .inr (.inr (.inl ⟨p, vs, i, v, rfl, rfl, hs, ev, now R h3 rv⟩))
      · exact .inr (.inr (.inr ⟨p, vs, i, v, rfl, rfl, hs, ev, now R h3 rv⟩))
  cases d1 with
  | str z =>
    cases d2 with
    | int i =>
      obtain ⟨c, e, h⟩ := opt_run (show (opt (atI z.cps.toList i) fun c => W.need (z.length ≤ sizeLine) (.pure (.str ⟨#[c]⟩))).run M (QG X (RV X) H M Q) E from h)
      exact .inl ⟨z, i, c, r1, r2, h.1, e, now R h.2 rfl⟩
    | _ => exact rest h
  | _ => exact rest h
theorem cut_ok {K : PySem.W.Frag} {mg : Str → Option Value} {H : Hp} {M : MS} {l : List D} {vs : List V} (r : RepL K mg H M l vs) (lo hi : Option Int) : RepL K mg H M (cutD l lo hi) (cutV vs lo hi) := by
  unfold cutD cutV
  rw [r.length]
  exact (r.drop _).take _
/-- slices by trees -/
def rSM (X : Cx) (lv : Bool) : V → Option Int → Option Int → Hp → VK → Prop := fun x lo hi H Q => ∃ d M E, RelM X.K X.mg H M ∧ Rep X.K X.mg H M d x ∧ (slW lv d lo hi).run M (QG X (RV X) H M Q) E
theorem cutD_whole {l : List D} {lo hi : Option Int} (h : HT.sIx l.length 0 lo = 0 ∧ HT.sIx l.length l.length hi = l.length) : cutD l lo hi = l := by
  unfold cutD
  rw [h.1, h.2]; simp
theorem sl_M {lv : Bool} : SlR X (rSM X lv) := by
  refine SlR.imp (SlR.or sl_str (SlR.or sl_list sl_tupA)) ?_
  rintro x lo hi H Q ⟨d, M, E, R, r, h⟩
  cases d with
  | str z => cases r; exact .inl ⟨z, rfl, h.1, now R h.2 rfl⟩
  | tup l =>
    have h' : QG X (RV X) H M Q (.tup (cutD l lo hi)) M := h
    obtain ⟨p, vs, rfl, hs, rl⟩ := r
    refine .inr (.inr ⟨p, vs, rfl, sqT_of hs, fun z => ?_, fun _ => mkT0_ok R (cut_ok rl lo hi) h'⟩)
    have z' : HT.sIx l.length 0 lo = 0 ∧ HT.sIx l.length l.length hi = l.length := by rw [rl.length]; exact z
    rw [cutD_whole z'] at h'
    exact now R h' ⟨p, vs, rfl, hs, rl⟩
  | lst l =>
    obtain ⟨l', e, h⟩ := opt_run (show (opt (seqOf M (.lst l)) fun l => mkL0 lv (cutD l lo hi)).run M (QG X (RV X) H M Q) E from h)
    obtain ⟨p, vs, rfl, hs, rl⟩ := r
    cases e
    exact .inr (.inl ⟨p, vs, rfl, .of hs.1, mkL0_ok R (cut_ok rl lo hi) h⟩)
  | scr l =>
    obtain ⟨l', e, h⟩ := opt_run (show (opt (seqOf M (.scr l)) fun l => mkL0 lv (cutD l lo hi)).run M (QG X (RV X) H M Q) E from h)
    obtain ⟨p, vs, rfl, hs, rl⟩ := r
    cases e
    exact .inr (.inl ⟨p, vs, rfl, sqL_of hs, mkL0_ok R (cut_ok rl lo hi) h⟩)
  | ref a =>
    obtain ⟨l', e, h⟩ := opt_run (show (opt (seqOf M (.ref a)) fun l => mkL0 lv (cutD l lo hi)).run M (QG X (RV X) H M Q) E from h)
    obtain ⟨p, vs, rfl, hs, rl⟩ := lstOf_ok R (show lstOf M (.ref a) = some l' from e) r
    exact .inr (.inl ⟨p, vs, rfl, .of hs, mkL0_ok R (cut_ok rl lo hi) h⟩)
  | _ => exact h.elim
end
end Mir

/-! Mir7: expressions by trees, construct by construct. -/
namespace Mir
open PySem L2 PyProof.Rows

section
variable {X : Cx} {Wx : WX} {a b c : Expr} {fa fb fc : Ev → W D} {ft fu : Ev → W Bool} {pos : Pos}
/-! ### names, constants -/
def varW (i : Nat) (env : Ev) : W D := match env[i]? with
  | some (some d) => .pure d
  | _ => .fail
theorem se_var {i : Nat} {x : Str} (hN : X.N[i]? = some x) (hv : Vis X.env.scope x) (hd : (x == ("__debug__" : Str)) = false) (hcd : (x == ("__classdict__" : Str)) = false) : PE X (.Name x pos) (rd X Wx (varW i)) := by
  refine PE.imp (pe_var hN hv hd hcd) ?_
  rintro σ H Q ⟨env, M, G, h⟩
  unfold varW at h
  cases e : env[i]? with
  | none => rw [e] at h; exact h.elim
  | some o =>
    cases o with
    | none => rw [e] at h; exact h.elim
    | some d =>
      rw [e] at h
      obtain ⟨v, h1, h2⟩ := G.get i d e
      exact ⟨v, h1, now G.rel h h2⟩
theorem se_const {v : V} {d : D} {e : Expr} (h : PE X e (tC v)) (hr : ∀ H M, Rep X.K X.mg H M d v) : PE X e (rd X Wx fun _ => .pure d) :=
  PE.imp h fun σ H Q ⟨env, M, G, q⟩ => now G.rel q (hr H M)
/-! ### truth, and, or, not, if -/
theorem tru_M {x : V} {H : Hp} {M : MS} {d : D} (R : RelM X.K X.mg H M) (r : Rep X.K X.mg H M d x) {k : Bool → W D} {P : D → MS → Prop} {E : XV → MS → Prop} (h : (W.bind (truW d) k).run M P E) : ∃ b, TruV X.K x H b ∧ (k b).run M P E := by
  have h : ((match truD M d with
    | some b => W.need (strFits d) (.pure b)
    | none => W.fail : W Bool)).run M (fun b M' => (k b).run M' P E) E := h
  cases e : truD M d with
  | none => rw [e] at h; exact h.elim
  | some b => rw [e] at h; exact ⟨b, truD_ok R r e h.1, h.2⟩
theorem tru_MB {x : V} {H : Hp} {M : MS} {d : D} (R : RelM X.K X.mg H M) (r : Rep X.K X.mg H M d x) {P : Bool → MS → Prop} {E : XV → MS → Prop} (h : (truW d).run M P E) : ∃ b, TruV X.K x H b ∧ P b M := by
  have h : ((match truD M d with
    | some b => W.need (strFits d) (.pure b)
    | none => W.fail : W Bool)).run M P E := h
  cases e : truD M d with
  | none => rw [e] at h; exact h.elim
  | some b => rw [e] at h; exact ⟨b, truD_ok R r e h.1, h.2⟩
theorem se_not (ha : PE X a (rd X Wx fa)) : PE X (.UnaryOp .Not a pos) (rd X Wx fun env => W.bind (fa env) fun x => W.bind (truW x) fun b => .pure (.bl (!b))) := by
  refine PE.imp (pe_notT ha) ?_
  rintro σ H Q ⟨env, M, G, h⟩
  refine ⟨env, M, G, runQ (rdB (R := RV X) G h) ?_⟩
  rintro x H1 ⟨d1, M1, f1, G1, r1, h1⟩
  obtain ⟨b, t, h1⟩ := tru_M G1.rel r1 h1
  exact ⟨b, t, now G1.rel h1 rfl⟩
theorem se_neg (ha : PE X a (rd X Wx fa)) : PE X (.UnaryOp .USub a pos) (rd X Wx fun env => W.bind (fa env) fun x => match x with | .int i => .pure (.int (-i)) | _ => .fail) := by
  refine PE.imp (pe_un un_neg ha) ?_
  rintro σ H Q ⟨env, M, G, h⟩
  refine ⟨env, M, G, runQ (rdB (R := RV X) G h) ?_⟩
  rintro x H1 ⟨d1, M1, f1, G1, r1, h1⟩
  cases d1 with
  | int i => exact ⟨i, r1, now G1.rel h1 rfl⟩
  | _ => exact h1.elim
theorem se_or {rest : List Expr} (ha : PE X a (rd X Wx fa)) (hb : PE X (.BoolOp .Or (b :: rest) pos) (rd X Wx fb)) :
    PE X (.BoolOp .Or (a :: b :: rest) pos) (rd X Wx fun env => W.bind (fa env) fun x => W.bind (truW x) fun t => if t then .pure x else fb env) := by
  refine PE.imp (pe_orT ha hb) ?_
  rintro σ H Q ⟨env, M, G, h⟩
  refine ⟨env, M, G, runQ (rdB (R := RV X) G h) ?_⟩
  rintro x H1 ⟨d1, M1, f1, G1, r1, h1⟩
  obtain ⟨t, ht, h1⟩ := tru_M G1.rel r1 h1
  refine ⟨t, ht, ?_⟩
  cases t with
  | true => exact iteT (now G1.rel h1 r1)
  | false => exact iteF ⟨env, M1, G1, h1⟩
theorem se_and {rest : List Expr} (ha : PE X a (rd X Wx fa)) (hb : PE X (.BoolOp .And (b :: rest) pos) (rd X Wx fb)) :
    PE X (.BoolOp .And (a :: b :: rest) pos) (rd X Wx fun env => W.bind (fa env) fun x => W.bind (truW x) fun t => if t then fb env else .pure x) := by
  refine PE.imp (pe_andT ha hb) ?_
  rintro σ H Q ⟨env, M, G, h⟩
  refine ⟨env, M, G, runQ (rdB (R := RV X) G h) ?_⟩
  rintro x H1 ⟨d1, M1, f1, G1, r1, h1⟩
  obtain ⟨t, ht, h1⟩ := tru_M G1.rel r1 h1
  refine ⟨t, ht, ?_⟩
  cases t with
  | true => exact iteT ⟨env, M1, G1, h1⟩
  | false => exact iteF (now G1.rel h1 r1)
theorem se_one {op} (h : PE X a (rd X Wx fa)) : PE X (.BoolOp op [a] pos) (rd X Wx fa) := pe_one h
/-- a test's answer now -/
theorem nowT {H : Hp} {M : MS} {Q : Bool → Hp → Prop} {b : Bool} (R : RelM X.K X.mg H M) (h : QG X RB H M Q b M) : Q b H := h b H (Fr.refl H M) R rfl
theorem se_ifExp (hc : PT X c (rdT X Wx ft)) (ha : PE X a (rd X Wx fa)) (hb : PE X b (rd X Wx fb)) :
    PE X (.IfExp c a b pos) (rd X Wx fun env => W.bind (ft env) fun t => if t then fa env else fb env) := by
  refine PE.imp (pe_ifExp hc ha hb) ?_
  rintro σ H Q ⟨env, M, G, h⟩
  refine ⟨env, M, G, runQ (rdB (R := RB) G h) ?_⟩
  rintro x H1 ⟨t, M1, f1, G1, r1, h1⟩
  cases r1
  cases x with
  | true => exact iteT ⟨env, M1, G1, h1⟩
  | false => exact iteF ⟨env, M1, G1, h1⟩
/-! ### tests -/
def blW : D → W Bool
  | .bl b => .pure b
  | _ => .fail
theorem st_truth (ha : PE X a (rd X Wx fa)) (he : ∀ whole, isTrue a X.env whole = (do let v ← whole; standAt a.pos; holding [v] (truthy v))) : PT X a (rdT X Wx fun env => W.bind (fa env) truW) := by
  refine PT.imp (pt_truth ha he) ?_
  rintro σ H Q ⟨env, M, G, h⟩
  refine ⟨env, M, G, runQ (rdB (R := RV X) G h) ?_⟩
  rintro x H1 ⟨d1, M1, f1, G1, r1, h1⟩
  obtain ⟨b, t, h1⟩ := tru_MB G1.rel r1 h1
  exact ⟨b, t, nowT G1.rel h1⟩
theorem st_not (ha : PT X a (rdT X Wx ft)) : PT X (.UnaryOp .Not a pos) (rdT X Wx fun env => W.bind (ft env) fun b => .pure (!b)) := by
  refine PT.imp (pt_not ha) ?_
  rintro σ H Q ⟨env, M, G, h⟩
  refine ⟨env, M, G, runQ (rdB (R := RB) G h) ?_⟩
  rintro x H1 ⟨t, M1, f1, G1, r1, h1⟩
  cases r1
  exact nowT G1.rel h1
theorem sw_one {op} (ha : PT X a (rdT X Wx ft)) : PW X (.BoolOp op [a] pos) (rdT X Wx ft) := by
  cases op with
  | And => exact pw_and1 ha
  | Or => exact pw_or1 ha
theorem sw_and {rest : List Expr} (ha : PT X a (rdT X Wx ft)) (hb : PW X (.BoolOp .And (b :: rest) pos) (rdT X Wx fu)) : PW X (.BoolOp .And (a :: b :: rest) pos) (rdT X Wx fun env => W.bind (ft env) fun t => if t then fu env else .pure false) := by
  refine PW.imp (pw_and ha hb) ?_
  rintro σ H Q ⟨env, M, G, h⟩
  refine ⟨env, M, G, runQ (rdB (R := RB) G h) ?_⟩
  rintro x H1 ⟨t, M1, f1, G1, r1, h1⟩
  cases r1
  cases x with
  | true => exact iteT ⟨env, M1, G1, h1⟩
  | false => exact iteF (nowT G1.rel h1)
theorem sw_or {rest : List Expr} (ha : PT X a (rdT X Wx ft)) (hb : PW X (.BoolOp .Or (b :: rest) pos) (rdT X Wx fu)) : PW X (.BoolOp .Or (a :: b :: rest) pos) (rdT X Wx fun env => W.bind (ft env) fun t => if t then .pure true else fu env) := by
  refine PW.imp (pw_or ha hb) ?_
  rintro σ H Q ⟨env, M, G, h⟩
  refine ⟨env, M, G, runQ (rdB (R := RB) G h) ?_⟩
  rintro x H1 ⟨t, M1, f1, G1, r1, h1⟩
  cases r1
  cases x with
  | true => exact iteT (nowT G1.rel h1)
  | false => exact iteF ⟨env, M1, G1, h1⟩
theorem bl_run {d : D} {M : MS} {P : Bool → MS → Prop} {E : XV → MS → Prop} (h : (blW d).run M P E) : ∃ b, d = .bl b ∧ P b M := by
  cases d with
  | bl b => exact ⟨b, rfl, h⟩
  | _ => exact h.elim
theorem st_cmp {op : CmpOp} {g : D → D → W D} (ho : OpR X (compareOp op) (rG X g)) (ha : PE X a (rd X Wx fa)) (hb : PE X b (rd X Wx fb)) (hm : behindInMarks op b = false) :
    PT X (.Compare a [op] [b] pos) (rdT X Wx fun env => W.bind (fa env) fun x => W.bind (fb env) fun y => W.bind (g x y) blW) := by
  refine PT.imp (pt_cmpR ho ha hb hm) ?_
  rintro σ H Q ⟨env, M, G, h⟩
  refine ⟨env, M, G, runQ (rdB (R := RV X) G h) ?_⟩
  rintro x H1 ⟨d1, M1, f1, G1, r1, h1⟩
  refine ⟨env, M1, G1, runQ (rdB (R := RV X) G1 h1) ?_⟩
  rintro y H2 ⟨d2, M2, f2, G2, r2, h2⟩
  refine ⟨d1, d2, M2, _, G2.rel, r1.keep f2, r2, (g d1 d2).mono (show (g d1 d2).run M2 (fun d M' => (blW d).run M' _ _) _ from h2) ?_ fun _ _ z => z⟩
  intro d M3 q z H3 f3 R3 r3
  obtain ⟨b, rfl, q⟩ := bl_run q
  cases r3
  exact ⟨b, rfl, q b H3 f3 R3 rfl⟩
theorem chain_aux {σ : L2.St} {H : Hp} {Q : VK} {g g' : D → D → W D} (h : rd X Wx (fun env => W.bind (fa env) fun x => W.bind (fb env) fun y => W.bind (g x y) fun z => W.bind (blW z) fun t => if t then W.bind (fc env) fun u => g' y u else .pure (.bl false)) σ H Q) :
    tChain (rG X g) (rG X g') (rd X Wx fa) (rd X Wx fb) (rd X Wx fc) σ H Q := by
  obtain ⟨env, M, G, h⟩ := h
  refine ⟨env, M, G, runQ (rdB (R := RV X) G h) ?_⟩
  rintro x H1 ⟨d1, M1, f1, G1, r1, h1⟩
  refine ⟨env, M1, G1, runQ (rdB (R := RV X) G1 h1) ?_⟩
  rintro y H2 ⟨d2, M2, f2, G2, r2, h2⟩
  refine ⟨d1, d2, M2, _, G2.rel, r1.keep f2, r2, runQ (rdB (R := RV X) (Wx := Wx) (σ := σ) G2 h2) ?_⟩
  rintro z H3 ⟨d3, M3, f3, G3, r3, h3⟩
  obtain ⟨k, rfl, h3⟩ := bl_run (show (blW d3).run M3 (fun t M' => (if t = true then W.bind (fc env) fun u => g' d2 u else .pure (.bl false)).run M' _ _) _ from h3)
  cases r3
  refine ⟨k, rfl, ?_⟩
  cases k with
  | true =>
    refine iteT ⟨env, M3, G3, runQ (rdB (R := RV X) G3 h3) ?_⟩
    rintro w' H4 ⟨d4, M4, f4, G4, r4, h4⟩
    exact ⟨d2, d4, M4, _, G4.rel, (r2.keep f3).keep f4, r4, h4⟩
  | false => exact iteF (now G3.rel h3 rfl)
theorem st_chain {op op' : CmpOp} {g g' : D → D → W D} (ho : OpR X (compareOp op) (rG X g)) (ho' : OpR X (compareOp op') (rG X g')) (ha : PE X a (rd X Wx fa)) (hb : PE X b (rd X Wx fb)) (hc : PE X c (rd X Wx fc)) (hm : lastMarks [op, op'] [b, c] = false) :
    PT X (.Compare a [op, op'] [b, c] pos) (rdT X Wx fun env => W.bind (W.bind (fa env) fun x => W.bind (fb env) fun y => W.bind (g x y) fun z => W.bind (blW z) fun t => if t then W.bind (fc env) fun u => g' y u else .pure (.bl false)) blW) := by
  refine PT.imp (pt_chain ho ho' ha hb hc hm) fun σ H Q h => ?_
  obtain ⟨env, M, G, h⟩ := h
  refine chain_aux (σ := σ) ⟨env, M, G, ?_⟩
  refine W.mono _ (show (W.bind (fa env) fun x => W.bind (fb env) fun y => W.bind (g x y) fun z => W.bind (blW z) fun t => if t then W.bind (fc env) fun u => g' y u else .pure (.bl false)).run M (fun d M' => (blW d).run M' (QG X RB H M Q) (EE X H M Wx σ)) (EE X H M Wx σ) from h) ?_ fun _ _ z => z
  intro d M' q z H' f' R' r'
  obtain ⟨k, rfl, q⟩ := bl_run q
  cases r'
  exact ⟨k, rfl, q k H' f' R' rfl⟩
theorem se_chain {op op' : CmpOp} {g g' : D → D → W D} (ho : OpR X (compareOp op) (rG X g)) (ho' : OpR X (compareOp op') (rG X g')) (ha : PE X a (rd X Wx fa)) (hb : PE X b (rd X Wx fb)) (hc : PE X c (rd X Wx fc)) (hm : lastMarks [op, op'] [b, c] = false) :
    PE X (.Compare a [op, op'] [b, c] pos) (rd X Wx fun env => W.bind (fa env) fun x => W.bind (fb env) fun y => W.bind (g x y) fun z => W.bind (blW z) fun t => if t then W.bind (fc env) fun u => g' y u else .pure (.bl false)) :=
  PE.imp (pe_chain ho ho' ha hb hc hm) fun σ H Q h => chain_aux h
end
end Mir

/-! Mir8: arguments, displays, calls, items, slices, built-in methods. -/
namespace Mir
open PySem L2 PyProof.Rows

section
variable {X : Cx} {Wx : WX} {a b c e o : Expr} {es : List Expr} {fa fb fc fe fo : Ev → W D} {ft fu : Ev → W Bool} {fs : Ev → W (List D)} {pos p : Pos} {x : Str}
/-! ### arguments, displays -/
theorem nowA {H : Hp} {M : MS} {Q : List V → Hp → Prop} {l : List D} {vs : List V} (R : RelM X.K X.mg H M) (h : QG X (RL X) H M Q l M) (r : RepL X.K X.mg H M l vs) : Q vs H := h vs H (Fr.refl H M) R r
theorem sa_nil : PA X [] (rdA X Wx fun _ => .pure []) := PA.imp pa_nil fun σ H Q ⟨env, M, G, h⟩ => nowA G.rel h rfl
theorem sa_cons (he : PE X e (rd X Wx fe)) (hr : PA X es (rdA X Wx fs)) (hs : starEach (e :: es) X.env = (false, eval e X.env) :: starEach es X.env) :
    PA X (e :: es) (rdA X Wx fun env => W.bind (fe env) fun x => W.bind (fs env) fun xs => .pure (x :: xs)) := by
  refine PA.imp (pa_cons he hr hs) ?_
  rintro σ H Q ⟨env, M, G, h⟩
  refine ⟨env, M, G, runQ (rdB (R := RV X) G h) ?_⟩
  rintro x H1 ⟨d1, M1, f1, G1, r1, h1⟩
  refine ⟨env, M1, G1, runQ (rdB (R := RL X) G1 h1) ?_⟩
  rintro xs H2 ⟨ds, M2, f2, G2, r2, h2⟩
  exact nowA G2.rel h2 ⟨x, xs, rfl, r1.keep f2, r2⟩
theorem se_lst {lv : Bool} (h : PA X es (rdA X Wx fs)) : PE X (.List es pos) (rd X Wx fun env => W.bind (fs env) (mkL lv)) := by
  refine PE.imp (pe_lst h) ?_
  rintro σ H Q ⟨env, M, G, h⟩
  refine ⟨env, M, G, runQ (rdB (R := RL X) G h) ?_⟩
  rintro xs H1 ⟨ds, M1, f1, G1, r1, h1⟩
  exact mkL_ok G1.rel r1 h1
theorem se_tup {k} (h : PA X es (rdA X Wx fs)) : PE X (.Tuple es k pos) (rd X Wx fun env => W.bind (fs env) mkT) := by
  refine PE.imp (pe_tup h) ?_
  rintro σ H Q ⟨env, M, G, h⟩
  refine ⟨env, M, G, runQ (rdB (R := RL X) G h) ?_⟩
  rintro xs H1 ⟨ds, M1, f1, G1, r1, h1⟩
  exact mkT_ok G1.rel r1 h1
theorem se_dnew {lv : Bool} : PE X (.Dict [] [] pos) (rd X Wx fun _ => mkD lv []) := by
  refine PE.imp pe_dnewK ?_
  rintro σ H Q ⟨env, M, G, h⟩
  exact mkD_ok (l := []) (vs := []) G.rel rfl h
/-! ### calls -/
theorem se_callB {id : String} {g : List D → W D} (hc : CallR X (.builtin id) (rC X g)) (hg : Gl X x) (hm : X.mg x = none) (hv : bootBuiltins x = some (.builtin id)) (ha : PA X (e :: es) (rdA X Wx fs)) (hn : x ≠ "__name__") (hdb : (x == ("__debug__" : Str)) = false)
    (he : starEach (e :: es) X.env = (false, eval e X.env) :: starEach es X.env) (hpl : (backTo pos (starEach es X.env)).any (·.1) = false) : PE X (.Call (.Name x p) (e :: es) [] pos) (rd X Wx fun env => W.bind (fs env) g) := by
  refine PE.imp (pe_callB hc hg hm hv ha hn hdb he hpl) ?_
  rintro σ H Q ⟨env, M, G, h⟩
  refine ⟨env, M, G, runQ (rdB (R := RL X) G h) ?_⟩
  rintro xs H1 ⟨ds, M1, f1, G1, r1, h1⟩
  exact ⟨ds, M1, _, G1.rel, r1, h1⟩
theorem se_callTy {T : String} {g : List D → W D} (hc : CallR X (.type T) (rC X g)) (hg : Gl X x) (hm : X.mg x = none) (hv : bootBuiltins x = some (.type T)) (ha : PA X (e :: es) (rdA X Wx fs)) (hn : x ≠ "__name__") (hdb : (x == ("__debug__" : Str)) = false)
    (he : starEach (e :: es) X.env = (false, eval e X.env) :: starEach es X.env) (hpl : (backTo pos (starEach es X.env)).any (·.1) = false) : PE X (.Call (.Name x p) (e :: es) [] pos) (rd X Wx fun env => W.bind (fs env) g) := by
  refine PE.imp (pe_callTy hc hg hm hv ha hn hdb he hpl) ?_
  rintro σ H Q ⟨env, M, G, h⟩
  refine ⟨env, M, G, runQ (rdB (R := RL X) G h) ?_⟩
  rintro xs H1 ⟨ds, M1, f1, G1, r1, h1⟩
  exact ⟨ds, M1, _, G1.rel, r1, h1⟩
end
/-- a def keeps a promise, called where nothing is being shown (no repr goes on) -/
structure FnG (P : Program) (w : World) (K : PySem.W.Frag) (mg : Str → Option Value) (base : Heap) (CX : CXT) (k : Nat) (f : Addr) (fd : FuncData) (ps : List Str) (sp : Sp) : Prop where
  len : ∀ vs H Q E, sp vs H Q E → vs.length = ps.length
  run : ∀ (A : Around) (outer : List Env) (s : Shared) (H : Hp) (args : Args) (us : List Value) (vs : List V) (Q : VK) (E : XK), Room k A → A.guards = some [] → Env0 P w K mg base A outer s H → BindsTo s fd args (ps.zip us) → Vals vs us → sp vs H Q E →
    codeAny (model P w) A (.call (.ref f) args) (CR CX outer P w H s Q E) s
/-- the promise of a def by trees: n arguments -/
def spOf (K : PySem.W.Frag) (mg : Str → Option Value) (n : Nat) (g : List D → W D) : Sp := fun vs H Q E => ∃ ds M, ds.length = n ∧ RelM K mg H M ∧ RepL K mg H M ds vs ∧
  (g ds).run M (fun d M' => ∀ v H', Fr H M H' M' → RelM K mg H' M' → Rep K mg H' M' d v → Q v H')
    (fun x M' => ∀ cls od H', Fr H M H' M' → RelM K mg H' M' → XRepK K mg H' M' x cls od → E cls od H')
section
variable {X : Cx} {Wx : WX} {e : Expr} {es : List Expr} {fs : Ev → W (List D)} {pos p : Pos} {x : Str} {k : Nat} {f : Addr} {fd : FuncData} {ps : List Str} {g : List D → W D} {dvs : List V} {ds : List Value}
def tCallG (sp : Sp) (dvs : List V) (Wx : WX) (t : TA) : TE := fun σ H Q => t σ H fun vs H1 => sp (vs ++ dvs) H1 Q (fun cls d H' => Wx cls d σ H')
theorem run_fnG {sp : Sp} {pins : List (Addr × Obj)} {σ : L2.St} {H : Hp} {s : Shared} {Q : VK} {us : List Value} {vs : List V} (F : FnG X.prog X.w X.K X.mg X.base (CX X.prog X.w) k f fd ps sp) (hr : Room k X.A) (hgd : X.A.guards = some []) (hb : Binds X.K fd ps ds) (hd : Vals dvs ds) (tk : Takes X Wx)
    (I : Inv X pins σ H s) (r : Vals vs us) (h : sp (vs ++ dvs) H Q (fun cls d H' => Wx cls d σ H')) : wpAny (model X.prog X.w) X.A (call (.ref f) us) (EP X pins σ Q) X.xe s := by
  have r2 : Vals (vs ++ dvs) (us ++ ds) := r.append hd
  have hl : (us ++ ds).length = ps.length := by rw [← r2.length]; exact F.len _ _ _ _ h
  refine wpAny_call (codeAny_mono (F.run X.A X.stack s H ⟨us, []⟩ (us ++ ds) (vs ++ dvs) Q _ hr hgd I.env0 (hb s us I.kIn hl) r2 h) fun r s' hq => ?_)
  cases r with
  | error e => exact tk e s' (XE.of_call I (fun _ _ _ z => z) hq)
  | ok fl =>
    cases fl with
    | ret u => exact I.after hq
    | next => exact False.elim hq
    | brk => exact False.elim hq
    | cont => exact False.elim hq
theorem pe_callG {sp : Sp} {t : TA} (F : FnG X.prog X.w X.K X.mg X.base (CX X.prog X.w) k f fd ps sp) (hr : Room k X.A) (hgd : X.A.guards = some []) (hg : Gl X x) (hm : X.mg x = some (.ref f)) (hk : PySem.W.keepIn X.K (.ref f) = true) (hb : Binds X.K fd ps ds) (hd : Vals dvs ds) (tk : Takes X Wx)
    (ha : PA X (e :: es) t) (hdb : (x == ("__debug__" : Str)) = false) (he : starEach (e :: es) X.env = (false, eval e X.env) :: starEach es X.env) (hpl : (backTo pos (starEach es X.env)).any (·.1) = false) :
    PE X (.Call (.Name x p) (e :: es) [] pos) (tCallG sp dvs Wx t) := by
  refine ⟨fun pins s σ H Q I h => ?_⟩
  refine wpAny_Call_Name_kw (ld_glob I hg hm ?_ hdb)
  refine PySem.W.callWith_K (h₀ := X.base) I.ok.mod.kin hk (thn (ha.run pos pins s σ H _ I h) fun us s1 ⟨vs, H1, I1, r, q⟩ => ⟨I1.kIn, ?_⟩) he hpl
  exact run_fnG F hr hgd hb hd tk I1 r q
theorem pe_callG0 {sp : Sp} (F : FnG X.prog X.w X.K X.mg X.base (CX X.prog X.w) k f fd ps sp) (hr : Room k X.A) (hgd : X.A.guards = some []) (hg : Gl X x) (hm : X.mg x = some (.ref f)) (hk : PySem.W.keepIn X.K (.ref f) = true) (hb : Binds X.K fd ps ds) (hd : Vals dvs ds) (tk : Takes X Wx)
    (hdb : (x == ("__debug__" : Str)) = false) : PE X (.Call (.Name x p) [] [] pos) (tCallG sp dvs Wx tNil) := by
  refine ⟨fun pins s σ H Q I h => ?_⟩
  refine wpAny_Call_Name_kw (ld_glob I hg hm ?_ hdb)
  exact PySem.W.callWith_K0 I.kIn hk (run_fnG (us := []) F hr hgd hb hd tk I .nil h)
theorem se_call {n : Nat} (F : FnG X.prog X.w X.K X.mg X.base (CX X.prog X.w) k f fd ps (spOf X.K X.mg n g)) (hr : Room k X.A) (hgd : X.A.guards = some []) (hg : Gl X x) (hm : X.mg x = some (.ref f)) (hk : PySem.W.keepIn X.K (.ref f) = true) (hb : Binds X.K fd ps []) (tk : Takes X Wx)
    (ha : PA X (e :: es) (rdA X Wx fs)) (hdb : (x == ("__debug__" : Str)) = false) (he : starEach (e :: es) X.env = (false, eval e X.env) :: starEach es X.env) (hpl : (backTo pos (starEach es X.env)).any (·.1) = false) :
    PE X (.Call (.Name x p) (e :: es) [] pos) (rd X Wx fun env => W.bind (fs env) fun ds => if ds.length = n then g ds else .fail) := by
  refine PE.imp (pe_callG (dvs := []) (ds := []) F hr hgd hg hm hk hb .nil tk ha hdb he hpl) ?_
  rintro σ H Q ⟨env, M, G, h⟩
  refine ⟨env, M, G, runQ (rdB (R := RL X) G h) ?_⟩
  rintro xs H1 ⟨ds, M1, f1, G1, r1, h1⟩
  by_cases hn : ds.length = n
  · replace h1 : (if ds.length = n then g ds else W.fail).run M1 _ _ := h1
    rw [if_pos hn] at h1
    exact ⟨ds, M1, hn, G1.rel, by rw [List.append_nil]; exact r1, h1⟩
  · replace h1 : (if ds.length = n then g ds else W.fail).run M1 _ _ := h1
    rw [if_neg hn] at h1
    exact h1.elim
theorem se_call0 (F : FnG X.prog X.w X.K X.mg X.base (CX X.prog X.w) k f fd ps (spOf X.K X.mg 0 g)) (hr : Room k X.A) (hgd : X.A.guards = some []) (hg : Gl X x) (hm : X.mg x = some (.ref f)) (hk : PySem.W.keepIn X.K (.ref f) = true) (hb : Binds X.K fd ps []) (tk : Takes X Wx)
    (hdb : (x == ("__debug__" : Str)) = false) : PE X (.Call (.Name x p) [] [] pos) (rd X Wx fun _ => g []) := by
  refine PE.imp (pe_callG0 (dvs := []) (ds := []) F hr hgd hg hm hk hb .nil tk hdb) ?_
  rintro σ H Q ⟨env, M, G, h⟩
  exact ⟨[], M, rfl, G.rel, rfl, h⟩
end
/-! ### items, slices -/
section
variable {X : Cx} {Wx : WX} {a b : Expr} {fa fb : Ev → W D} {pos p2 : Pos}
theorem se_idx (hu : X.A.units + 1 < cLine) (ha : PE X a (rd X Wx fa)) (hb : PE X b (rd X Wx fb)) (hs : PlainIx b) : PE X (.Subscript a b pos) (rd X Wx fun env => W.bind (fa env) fun x => W.bind (fb env) fun y => idxW x y) :=
  PE.imp (pe_ix (ix_M hu) ha hb hs) (se_op (t := fun r => tOp r (rd X Wx fa) (rd X Wx fb)) rfl)
/-- a part of a slice -/
def partW (f : Option (Ev → W D)) (env : Ev) : W (Option Int) := match f with
  | none => .pure none
  | some f => W.bind (f env) fun d => match d with
    | .int i => .pure (some i)
    | _ => .fail
abbrev RO : Hp → MS → Option Int → Option Int → Prop := fun _ _ b c => c = b
theorem so_none : PO X none (rdG X Wx RO (partW none)) := ⟨fun pins s σ H Q I ⟨env, M, G, h⟩ => po_none.run pins s σ H Q I (h none H (Fr.refl H M) G.rel rfl)⟩
theorem so_some (ha : PE X a (rd X Wx fa)) : PO X (some a) (rdG X Wx RO (partW (some fa))) := ⟨fun pins s σ H Q I ⟨env, M, G, h⟩ => (po_some ha).run pins s σ H Q I ⟨env, M, G, runQ (rdB (R := RV X) G h) (by
  rintro x H1 ⟨d1, M1, f1, G1, r1, h1⟩
  cases d1 with
  | int i => exact ⟨i, r1, h1 (some i) H1 (Fr.refl H1 M1) G1.rel rfl⟩
  | _ => exact h1.elim)⟩⟩
theorem se_slice {lv : Bool} {lo hi : Option Expr} {fl fh : Option (Ev → W D)} (ha : PE X a (rd X Wx fa)) (hl : PO X lo (rdG X Wx RO (partW fl))) (hh : PO X hi (rdG X Wx RO (partW fh))) :
    PE X (.Subscript a (.Slice lo hi none p2) pos) (rd X Wx fun env => W.bind (fa env) fun x => W.bind (partW fl env) fun l => W.bind (partW fh env) fun h => slW lv x l h) := by
  refine PE.imp (pe_slice (sl_M (lv := lv)) ha hl hh) ?_
  rintro σ H Q ⟨env, M, G, h⟩
  refine ⟨env, M, G, runQ (rdB (R := RV X) G h) ?_⟩
  rintro x H1 ⟨d1, M1, f1, G1, r1, h1⟩
  refine ⟨env, M1, G1, runQ (rdB (R := RO) G1 h1) ?_⟩
  rintro l H2 ⟨l', M2, f2, G2, r2, h2⟩
  refine ⟨env, M2, G2, runQ (rdB (R := RO) G2 h2) ?_⟩
  rintro u H3 ⟨u', M3, f3, G3, r3, h3⟩
  cases r2; cases r3
  exact ⟨d1, M3, _, G3.rel, (r1.keep f2).keep f3, h3⟩
end
/-! ### built-in methods -/
inductive Mth where
  | append | join | pop
  deriving DecidableEq
def Mth.name : Mth → Str
  | .append => "append"
  | .join => "join"
  | .pop => "pop"
/-- l.pop() -/
def popW (d : D) (l : List D) : W D := match d, l with
  | .ref p, [] => .get fun M => match M p with
    | some (.lst l) => opt (l[l.length - 1]?) fun y => .put p (.lst l.dropLast) (.pure y)
    | _ => .fail
  | _, _ => .fail
def appendW (d y : D) : W D := match d with
  | .ref p => .get fun M => match M p with
    | some (.lst l) => .need (l.length < sizeLine) (.put p (.lst (l ++ [y])) (.pure .non))
    | _ => .fail
  | _ => .fail
def joinW (d y : D) : W D := match d with
  | .str a => .get fun M => opt (seqOf M y) fun l => opt (strsOf l) fun ys => .need ((ys.map (·.length)).sum + ys.length * a.length ≤ 16777216) (.pure (.str (PySem.Txt.join a ys)))
  | _ => .fail
def methW (m : Mth) (T : Ty) (d : D) : List D → W D := match m, T with
  | .append, .list => arg1 (appendW d)
  | .join, .str => arg1 (joinW d)
  | .pop, .list => popW d
  | _, _ => fun _ => .fail
def Mth.on : Mth → Ty → Bool
  | .append, .list => true
  | .join, .str => true
  | .pop, .list => true
  | _, _ => false
def rMt (X : Cx) (g : D → List D → W D) : V → List V → Hp → VK → Prop := fun x xs H Q => ∃ d ds M E, RelM X.K X.mg H M ∧ Rep X.K X.mg H M d x ∧ RepL X.K X.mg H M ds xs ∧ (g d ds).run M (QG X (RV X) H M Q) E
theorem MtR.imp {X : Cx} {id : String} {r r' : V → List V → Hp → VK → Prop} (h : MtR X id r) (i : ∀ x xs H Q, r' x xs H Q → r x xs H Q) : MtR X id r' := fun pins s σ H x xs v us Q I rx rs q => h pins s σ H x xs v us Q I rx rs (i x xs H Q q)
theorem rMt1 {X : Cx} {g : D → D → W D} {x : V} {xs : List V} {H : Hp} {Q : VK} (h : rMt X (fun d => arg1 (g d)) x xs H Q) : ∃ d e v M E, xs = [v] ∧ RelM X.K X.mg H M ∧ Rep X.K X.mg H M d x ∧ Rep X.K X.mg H M e v ∧ (g d e).run M (QG X (RV X) H M Q) E := by
  obtain ⟨d, ds, M, E, R, r, rl, h⟩ := h
  rcases ds with _ | ⟨e, _ | ⟨e', l⟩⟩
  · exact h.elim
  · obtain ⟨v, r', rfl, hr, rfl⟩ := rl
    exact ⟨d, e, v, M, E, rfl, R, r, hr, h⟩
  · exact h.elim
theorem mt_appendM {X : Cx} : MtR X "list.append" (rMt X fun d => arg1 (appendW d)) := by
  refine MtR.imp (show MtR X "list.append" rAppend from mt_append) fun x xs H Q hh => ?_
  obtain ⟨d, e, v, M, E, rfl, R, r, re, h⟩ := rMt1 hh
  cases d with
  | ref p =>
    cases r
    have h : (match M p with
      | some (.lst l) => W.need (l.length < sizeLine) (W.put p (.lst (l ++ [e])) (.pure D.non))
      | _ => W.fail).run M (QG X (RV X) H M Q) E := h
    cases hp : M p with
    | none => rw [hp] at h; exact h.elim
    | some c =>
      cases c with
      | lst l =>
        rw [hp] at h
        obtain ⟨hl, h⟩ := h
        have h : QG X (RV X) H M Q .non (M.set p (.lst (l ++ [e]))) := h
        obtain ⟨vs, h1, h2⟩ := R.at_ p _ hp
        refine ⟨p, vs, v, rfl, rfl, h1, by rw [← h2.length]; exact hl, ?_⟩
        have f : Fr H M (upd H p (.lst (vs ++ [v]))) (M.set p (.lst (l ++ [e]))) := fr_write hp
        exact h .non _ f (R.write hp ⟨vs ++ [v], upd_same, (h2.append (RepL.one re)).keep f⟩) rfl
      | dct _ => rw [hp] at h; exact h.elim
      | ins _ _ => rw [hp] at h; exact h.elim
  | _ => exact h.elim
theorem mt_joinM {X : Cx} : MtR X "str.join" (rMt X fun d => arg1 (joinW d)) := by
  refine MtR.imp mt_join fun x xs H Q hh => ?_
  obtain ⟨d, e, v, M, E, rfl, R, r, re, h⟩ := rMt1 hh
  cases d with
  | str a =>
    cases r
    obtain ⟨l, e1, h1⟩ := opt_run (show (opt (seqOf M e) fun l => opt (strsOf l) fun ys => W.need ((ys.map (·.length)).sum + ys.length * a.length ≤ 16777216) (.pure (.str (PySem.Txt.join a ys)))).run M (QG X (RV X) H M Q) E from h)
    obtain ⟨ys, e2, h2⟩ := opt_run h1
    obtain ⟨p, vs, rfl, hs, rl⟩ := seqOf_ok R e1 re
    have := rl.strs_of e2
    subst this
    exact ⟨a, p, ys, rfl, rfl, hs, h2.1, now R h2.2 rfl⟩
  | _ => exact h.elim
theorem mt_popM {X : Cx} : MtR X "list.pop" (rMt X popW) := by
  refine MtR.imp (show MtR X "list.pop" rPop from mt_pop) fun x xs H Q hh => ?_
  obtain ⟨d, ds, M, E, R, r, rl, h⟩ := hh
  cases d with
  | ref p =>
    cases r
    cases ds with
    | cons _ _ => exact h.elim
    | nil =>
      cases rl
      have h : (match M p with
        | some (.lst l) => opt (l[l.length - 1]?) fun y => W.put p (.lst l.dropLast) (.pure y)
        | _ => W.fail).run M (QG X (RV X) H M Q) E := h
      cases hp : M p with
      | none => rw [hp] at h; exact h.elim
      | some c =>
        cases c with
        | lst l =>
          rw [hp] at h
          obtain ⟨y, ey, h⟩ := opt_run h
          have h : QG X (RV X) H M Q y (M.set p (.lst l.dropLast)) := h
          obtain ⟨vs, h1, h2⟩ := R.at_ p _ hp
          obtain ⟨v, ev, rv⟩ := h2.get ey
          refine ⟨p, vs, v, rfl, rfl, h1, by rw [← h2.length]; exact ev, ?_⟩
          have f : Fr H M (upd H p (.lst vs.dropLast)) (M.set p (.lst l.dropLast)) := fr_write hp
          have h3 : RepL X.K X.mg H M l.dropLast vs.dropLast := by
            rw [List.dropLast_eq_take, List.dropLast_eq_take, h2.length]
            exact h2.take _
          exact h v _ f (R.write hp ⟨vs.dropLast, upd_same, h3.keep f⟩) (rv.keep f)
        | dct _ => rw [hp] at h; exact h.elim
        | ins _ _ => rw [hp] at h; exact h.elim
  | _ => exact h.elim
section
variable {X : Cx} {Wx : WX} {e o : Expr} {es : List Expr} {fo : Ev → W D} {fs : Ev → W (List D)} {apos cpos : Pos} {name : Str}
/-- what a method's call on a value of the type asks -/
structure MtOk (X : Cx) (m : Mth) (T : Ty) : Prop where
  ok : ∃ id, PlainAttrs T.name ∧ Slot T.name m.name id ∧ typeOf (.builtin id) = pure (.type "method_descriptor") ∧ MtR X id (rMt X (methW m T))
theorem mtOk (m : Mth) (T : Ty) (h : m.on T = true) : MtOk X m T := by
  cases m <;> cases T <;> first | (cases h; done) | skip
  · exact ⟨_, PySem.F.plainAttrs_list, PySem.F.slot_list_append, PySem.F.type_list_append, mt_appendM⟩
  · exact ⟨_, PySem.F.plainAttrs_str, PySem.F.slot_str_join, PySem.F.type_str_join, mt_joinM⟩
  · exact ⟨_, PySem.F.plainAttrs_list, PySem.F.slot_list_pop, PySem.F.type_list_pop, mt_popM⟩
theorem tyV_of {H : Hp} {M : MS} {d : D} {x : V} {T : Ty} (R : RelM X.K X.mg H M) (r : Rep X.K X.mg H M d x) (e : tyD M d = some T) (hT : T = .list ∨ T = .str ∨ T = .dict) : tyV X.K T.name x H := by
  cases d with
  | str _ => cases r; cases e; rfl
  | lst l => obtain ⟨p, vs, rfl, hs, rl⟩ := r; cases e; exact Or.inl ⟨rfl, vs, .of hs.1⟩
  | dct l => obtain ⟨p, vs, rfl, hs, rl⟩ := r; cases e; exact Or.inr (Or.inr (Or.inl ⟨rfl, Or.inl ⟨vs, hs.1⟩⟩))
  | ref p =>
    cases r
    simp only [tyD] at e
    cases hp : M p with
    | none => rw [hp] at e; cases e
    | some c =>
      rw [hp] at e
      cases c with
      | lst l => cases e; obtain ⟨vs, h1, h2⟩ := R.at_ p _ hp; exact Or.inl ⟨rfl, vs, .of h1⟩
      | dct l => cases e; obtain ⟨vs, h1, h2⟩ := R.at_ p _ hp; exact Or.inr (Or.inr (Or.inl ⟨rfl, Or.inl ⟨vs, h1⟩⟩))
      | ins _ _ => cases e
  | tup _ => cases e; rcases hT with h | h | h <;> cases h
  | non => cases e; rcases hT with h | h | h <;> cases h
  | bl _ => cases e; rcases hT with h | h | h <;> cases h
  | int _ => cases e; rcases hT with h | h | h <;> cases h
  | scr _ => cases e
  | glo _ => cases e
  | ty _ => cases e
  | exc _ _ => cases e
  | cls _ => cases e
  | xty _ => cases e
/-- the receiver's type, then the arguments, then the method -/
def recvW (m : Mth) (d : D) (k : Ty → W D) : W D := .get fun M => match tyD M d with
  | some T => if m.on T then k T else .fail
  | none => .fail
theorem recv_run {m : Mth} {d : D} {k : Ty → W D} {M : MS} {P : D → MS → Prop} {E : XV → MS → Prop} (h : (recvW m d k).run M P E) : ∃ T, tyD M d = some T ∧ m.on T = true ∧ (k T).run M P E := by
  have h : (match tyD M d with
    | some T => if m.on T then k T else W.fail
    | none => W.fail).run M P E := h
  cases e : tyD M d with
  | none => rw [e] at h; exact h.elim
  | some T =>
    rw [e] at h
    by_cases ho : m.on T = true
    · simp only [ho, if_true] at h
      exact ⟨T, rfl, ho, h⟩
    · simp only [ho] at h
      exact h.elim
theorem on_ty {m : Mth} {T : Ty} (h : m.on T = true) : T = .list ∨ T = .str ∨ T = .dict := by
  cases m <;> cases T <;> first | (cases h; done) | simp
theorem se_meth {m : Mth} (hname : name = m.name) (ho : PE X o (rd X Wx fo)) (ha : PA X (e :: es) (rdA X Wx fs)) (hbase : attributeBase o name X.env (eval o X.env) = eval o X.env)
    (hfew : ((backTo cpos (starEach (e :: es) X.env)).all (fun x => !x.1) && (backToKw cpos (keywordEach [] X.env)).all (fun x => x.1.isSome)
      && decide ((e :: es).length + ([] : List Keyword).length + (if ([] : List Keyword).isEmpty then 0 else 1) < 30)) = true)
    (hline : (apos.endLine == cpos.line) = true) (hs : starEach (e :: es) X.env = (false, eval e X.env) :: starEach es X.env) (hplain : (backTo cpos (starEach es X.env)).any (·.1) = false) :
    PE X (.Call (.Attribute o name apos) (e :: es) [] cpos) (rd X Wx fun env => W.bind (fo env) fun x => recvW m x fun T => W.bind (fs env) fun ds => methW m T x ds) := by
  subst hname
  refine ⟨fun pins s σ H Q I ⟨env, M, G, h⟩ => ?_⟩
  refine wpAny_Call_method_late hbase hfew hline rfl (thn (ho.run pins s σ H _ I ⟨env, M, G, rdB (R := RV X) G h⟩) ?_)
  rintro v s1 ⟨x, H1, I1, r1, d1, M1, f1, G1, rx, h1⟩
  obtain ⟨T, eT, hon, h1⟩ := recv_run h1
  obtain ⟨id, pa, slot, hty, hm⟩ := (mtOk (X := X) m T hon).ok
  obtain ⟨g1, g2⟩ := tyV_is I1 r1 (tyV_of G1.rel rx eT (on_ty hon))
  refine ⟨T.name, id, pa, slot, hty, g1, g2, ?_⟩
  have hA := ha.run cpos pins s1 σ H1 _ I1 ⟨env, M1, G1, rdB (R := RL X) G1 h1⟩
  rw [hs] at hA ⊢
  refine Calls.callWith_builtin (by show (false || (backTo cpos (starEach es X.env)).any (·.1)) = false; rw [hplain] <;> rfl) (Calls.evalArgs_plain ?_)
  refine thn hA ?_
  rintro us s2 ⟨vs, H2, I2, r2, ds, M2, f2, G2, rl, h2⟩
  exact hm pins s2 σ H2 x vs v us Q I2 r1 r2 ⟨d1, ds, M2, _, G2.rel, rx.keep f2, rl, h2⟩
theorem se_meth0 {m : Mth} (hname : name = m.name) (ho : PE X o (rd X Wx fo)) (hbase : attributeBase o name X.env (eval o X.env) = eval o X.env) (hline : (apos.endLine == cpos.line) = true) :
    PE X (.Call (.Attribute o name apos) [] [] cpos) (rd X Wx fun env => W.bind (fo env) fun x => recvW m x fun T => methW m T x []) := by
  subst hname
  refine ⟨fun pins s σ H Q I ⟨env, M, G, h⟩ => ?_⟩
  refine wpAny_Call_method0_late hbase hline (thn (ho.run pins s σ H _ I ⟨env, M, G, rdB (R := RV X) G h⟩) ?_)
  rintro v s1 ⟨x, H1, I1, r1, d1, M1, f1, G1, rx, h1⟩
  obtain ⟨T, eT, hon, h1⟩ := recv_run h1
  obtain ⟨id, pa, slot, hty, hm⟩ := (mtOk (X := X) m T hon).ok
  obtain ⟨g1, g2⟩ := tyV_is I1 r1 (tyV_of G1.rel rx eT (on_ty hon))
  refine ⟨T.name, id, pa, slot, hty, g1, g2, Calls.callWith_builtin rfl (PySem.evalArgs_none ?_)⟩
  exact hm pins s1 σ H1 x [] v [] Q I1 r1 .nil ⟨d1, [], M1, _, G1.rel, rx, rfl, h1⟩
end
end Mir

/-! Mir9: what is walked, targets, list comprehensions, displayed dicts. -/
namespace Mir
open PySem L2 PyProof.Rows

/-! ### what is walked -/
def guardM (po : Option Addr) (l : List D) (M : MS) : Prop := match po with
  | none => True
  | some p => M p = some (.lst l)
def ItOk (X : Cx) (J : It) (b : List D × Option Addr) (H : Hp) (M : MS) : Prop := ∀ H' M', Fr H M H' M' → RelM X.K X.mg H' M' → guardM b.2 b.1 M' → ∀ i : Nat,
  (∀ d, b.1[i]? = some d → J.go i H' ∧ ∀ x H'', J.yld i H' x H'' → H'' = H' ∧ Rep X.K X.mg H' M' d x) ∧ (b.1.length ≤ i → J.stop i H')
theorem ItOk.up {X : Cx} {J : It} {b : List D × Option Addr} {H H1 : Hp} {M M1 : MS} (h : ItOk X J b H M) (f : Fr H M H1 M1) : ItOk X J b H1 M1 := fun H' M' f' => h H' M' (f.trans f')
abbrev RI (X : Cx) : Hp → MS → (List D × Option Addr) → It → Prop := fun H M b J => ItOk X J b H M
abbrev rdI (X : Cx) (Wx : WX) (f : Ev → W (List D × Option Addr)) : TI := rdG X Wx (RI X) f
theorem PI.imp {X : Cx} {tg e : Expr} {t t' : TI} (h : PI X tg e t) (i : ∀ σ H R, t' σ H R → t σ H R) : PI X tg e t' := ⟨fun pins s σ H R I q => h.run pins s σ H R I (i σ H R q)⟩
def signs (z : Str) : List D := z.cps.toList.map fun c => D.str ⟨#[c]⟩
def srcOf (M : MS) : D → Option (List D × Option Addr)
  | .tup l => some (l, none)
  | .lst l => some (l, none)
  | .scr l => some (l, none)
  | .str z => some (signs z, none)
  | .ref p => match M p with
    | some (.lst l) => some (l, some p)
    | _ => none
  | _ => none
def srcW (d : D) : W (List D × Option Addr) := .get fun M => match srcOf M d with
  | some b => .pure b
  | none => .fail
/-- a list, a tuple or a text, whichever comes -/
def iAny (K : PySem.W.Frag) (te : TE) : TI := fun σ H R => te σ H fun x H1 => (∃ a, x = .ref a ∧ (∃ xs, SqL K H1 a xs) ∧ R (Itl K a) H1) ∨ (∃ a, x = .ref a ∧ (∃ xs, SqT K H1 a xs) ∧ R (Itt K a) H1) ∨ ∃ z, x = .str z ∧ R (Its z) H1
section
variable {X : Cx} {Wx : WX} {tg e : Expr} {te : TE} {fe : Ev → W D}
theorem pi_any (he : PE X e te) : PI X tg e (iAny X.K te) := by
  refine ⟨fun pins s σ H R I h => ?_⟩
  refine thn (he.run pins s σ H _ I h) ?_
  rintro v s1 ⟨x, H1, I1, r1, q1⟩
  rcases q1 with ⟨a, e, ⟨xs, hq⟩, q⟩ | ⟨a, e, ⟨xs, hq⟩, q⟩ | ⟨z, ex, q⟩
  · subst e
    cases r1
    obtain ⟨its, rv, p, hz⟩ := I1.list hq
    refine wpAny_pyIter_list p.isList ?_
    refine ⟨s1.heap.objs.size, [s1.heap.objs.size], _, _, H1, rfl, I1.kept (t' := s1.toks) fun b o e => Heap.get?_push_of_some _ e, turn_list a _, ⟨_, Heap.get?_push_size _ rfl, rfl, rfl⟩, fun b hb => ?_, q⟩
    have e : b = s1.heap.objs.size := by simpa using hb
    subst e
    exact I1.fpOk (Nat.le_refl _) (I1.hok.fresh (Nat.le_refl _))
  · subst e
    cases r1
    obtain ⟨its, rv, p, hz⟩ := I1.tuple hq
    refine wpAny_pyIter_tuple (show s1.heap.IsTuple a its.toArray from p) ?_
    refine ⟨s1.heap.objs.size, [s1.heap.objs.size], _, _, H1, rfl, I1.kept (t' := s1.toks) fun b o e => Heap.get?_push_of_some _ e, turn_tuple a _, ⟨_, Heap.get?_push_size _ rfl, rfl, rfl⟩, fun b hb => ?_, q⟩
    have e : b = s1.heap.objs.size := by simpa using hb
    subst e
    exact I1.fpOk (Nat.le_refl _) (I1.hok.fresh (Nat.le_refl _))
  · subst ex
    obtain ⟨t, rfl⟩ := r1
    cases ha : z.cps.all (· < 128)
    · exact wpAny_pyIter_wide ha (pi_one (tk := s1.toks) I1 _ (turn_str _ z t "str_iterator" (.inr rfl)) ⟨_, Heap.get?_push_size _ rfl, rfl, rfl⟩ q)
    · exact wpAny_pyIter_ascii ha (pi_one (tk := s1.toks) I1 _ (turn_str _ z t "str_ascii_iterator" (.inl rfl)) ⟨_, Heap.get?_push_size _ rfl, rfl, rfl⟩ q)
theorem it_list {a : Addr} {l : List D} {po : Option Addr} {H : Hp} {M : MS} (h : ∀ H' M', Fr H M H' M' → RelM X.K X.mg H' M' → guardM po l M' → ∃ vs, SqL X.K H' a vs ∧ RepL X.K X.mg H' M' l vs) : ItOk X (Itl X.K a) (l, po) H M := by
  intro H' M' f R g i
  obtain ⟨vs, hs, r⟩ := h H' M' f R g
  refine ⟨fun d e => ?_, fun hl => ⟨vs, hs, by rw [← r.length]; exact hl⟩⟩
  obtain ⟨v, h1, h2⟩ := r.get e
  refine ⟨⟨vs, v, hs, h1⟩, fun x H'' hy => ?_⟩
  obtain ⟨rfl, hy⟩ := hy
  have := hy vs hs
  rw [h1] at this
  cases this
  exact ⟨rfl, h2⟩
theorem it_tuple {a : Addr} {l : List D} {H : Hp} {M : MS} (h : ∀ H' M', Fr H M H' M' → RelM X.K X.mg H' M' → ∃ vs, SqT X.K H' a vs ∧ RepL X.K X.mg H' M' l vs) : ItOk X (Itt X.K a) (l, none) H M := by
  intro H' M' f R g i
  obtain ⟨vs, hs, r⟩ := h H' M' f R
  refine ⟨fun d e => ?_, fun hl => ⟨vs, hs, by rw [← r.length]; exact hl⟩⟩
  obtain ⟨v, h1, h2⟩ := r.get e
  refine ⟨⟨vs, v, hs, h1⟩, fun x H'' hy => ?_⟩
  obtain ⟨rfl, hy⟩ := hy
  have := hy vs hs
  rw [h1] at this
  cases this
  exact ⟨rfl, h2⟩
theorem si_any (he : PE X e (rd X Wx fe)) : PI X tg e (rdI X Wx fun env => W.bind (fe env) srcW) := by
  refine PI.imp (pi_any he) ?_
  rintro σ H R ⟨env, M, G, h⟩
  refine ⟨env, M, G, runQ (rdB (R := RV X) G h) ?_⟩
  rintro x H1 ⟨d, M1, f1, G1, r1, h1⟩
  have h1 : (match srcOf M1 d with
    | some b => W.pure b
    | none => W.fail).run M1 (QG X (RI X) H1 M1 R) (EE X H1 M1 Wx σ) := h1
  cases e : srcOf M1 d with
  | none => rw [e] at h1; exact h1.elim
  | some b =>
    rw [e] at h1
    have q : ∀ J, ItOk X J b H1 M1 → R J H1 := fun J hJ => h1 J H1 (Fr.refl _ _) G1.rel hJ
    cases d with
    | tup l =>
      cases e
      obtain ⟨p, vs, rfl, hs, rl⟩ := r1
      refine .inr (.inl ⟨p, rfl, ⟨vs, sqT_of hs⟩, q _ (it_tuple fun H' M' f R' => ⟨vs, sqT_of (hs.imp f.rd id), rl.keep f⟩)⟩)
    | lst l =>
      cases e
      obtain ⟨p, vs, rfl, hs, rl⟩ := r1
      exact .inl ⟨p, rfl, ⟨vs, .of hs.1⟩, q _ (it_list fun H' M' f R' _ => ⟨vs, .of (f _ _ hs.1 hs.2).1, rl.keep f⟩)⟩
    | scr l =>
      cases e
      obtain ⟨p, vs, rfl, hs, rl⟩ := r1
      exact .inl ⟨p, rfl, ⟨vs, sqL_of hs⟩, q _ (it_list fun H' M' f R' _ => ⟨vs, sqL_of (hs.imp f.rd id), rl.keep f⟩)⟩
    | str z =>
      cases e
      cases r1
      refine .inr (.inr ⟨z, rfl, q _ ?_⟩)
      intro H' M' f R' _ i
      refine ⟨fun d hd => ?_, fun hl => ?_⟩
      · simp only [signs, List.getElem?_map, Option.map_eq_some_iff, Array.getElem?_toList] at hd
        obtain ⟨c, hc, rfl⟩ := hd
        refine ⟨(Array.getElem?_eq_some_iff.mp hc).1, ?_⟩
        rintro x H'' ⟨rfl, c', hc', rfl⟩
        rw [hc] at hc'; cases hc'
        exact ⟨rfl, rfl⟩
      · show z.cps.size ≤ i
        simpa [signs] using hl
    | ref p =>
      cases r1
      simp only [srcOf] at e
      cases hp : M1 p with
      | none => rw [hp] at e; cases e
      | some c =>
        rw [hp] at e
        cases c with
        | lst l =>
          cases e
          obtain ⟨vs, h2, h3⟩ := G1.rel.at_ p _ hp
          refine .inl ⟨p, rfl, ⟨vs, .of h2⟩, q _ (it_list fun H' M' f R' g => ?_)⟩
          obtain ⟨vs', h4, h5⟩ := R'.at_ p _ g
          exact ⟨vs', .of h4, h5⟩
        | dct _ => cases e
        | ins _ _ => cases e
    | _ => cases e
/-- range(n), range(a, b) -/
def intsD (lo : Int) (n : Nat) : List D := (List.range n).map fun k : Nat => D.int (lo + k)
def rangeW1 : List D → W (List D × Option Addr)
  | [.int n] => .need (-(2 ^ 62) ≤ n ∧ n < 2 ^ 62) (.pure (intsD 0 n.toNat, none))
  | _ => .fail
def rangeW2 : List D → W (List D × Option Addr)
  | [.int a, .int b] => .need (-(2 ^ 62) ≤ a ∧ a < 2 ^ 62 ∧ -(2 ^ 62) ≤ b ∧ b < 2 ^ 62) (.pure (intsD a (b - a).toNat, none))
  | _ => .fail
theorem it_range {lo : Int} {n : Nat} {H : Hp} {M : MS} : ItOk X (Itr lo n) (intsD lo n, none) H M := by
  intro H' M' f R' _ i
  refine ⟨fun d hd => ?_, fun hl => ?_⟩
  · simp only [intsD, List.getElem?_map, Option.map_eq_some_iff] at hd
    obtain ⟨k, hk, rfl⟩ := hd
    obtain ⟨h1, h2⟩ := List.getElem?_eq_some_iff.mp hk
    simp only [List.length_range] at h1
    simp only [List.getElem_range] at h2
    subst h2
    refine ⟨h1, ?_⟩
    rintro x H'' ⟨rfl, rfl⟩
    exact ⟨rfl, rfl⟩
  · show n ≤ i
    simpa [intsD] using hl
theorem si_range1 {a : Expr} {fs : Ev → W (List D)} {p pos : Pos} (hg : Gl X "range") (hm : X.mg "range" = none) (ha : PA X [a] (rdA X Wx fs)) (hs : starEach [a] X.env = [(false, eval a X.env)]) : PI X tg (.Call (.Name "range" p) [a] [] pos) (rdI X Wx fun env => W.bind (fs env) rangeW1) := by
  refine PI.imp (pi_range1 hg hm ha hs) ?_
  rintro σ H R ⟨env, M, G, h⟩
  refine ⟨env, M, G, runQ (rdB (R := RL X) G h) ?_⟩
  rintro xs H1 ⟨ds, M1, f1, G1, r1, h1⟩
  rcases ds with _ | ⟨d, _ | ⟨d', l⟩⟩
  · exact h1.elim
  · cases d with
    | int n =>
      obtain ⟨v, r, rfl, hr, rfl⟩ := r1
      cases hr
      exact ⟨n, rfl, h1.1.1, h1.1.2, h1.2 _ H1 (Fr.refl _ _) G1.rel it_range⟩
    | _ => exact h1.elim
  · cases d <;> exact h1.elim
theorem si_range2 {a b : Expr} {fs : Ev → W (List D)} {p pos : Pos} (hg : Gl X "range") (hm : X.mg "range" = none) (ha : PA X [a, b] (rdA X Wx fs)) (hs : starEach [a, b] X.env = [(false, eval a X.env), (false, eval b X.env)]) (hs2 : starEach [b] X.env = [(false, eval b X.env)]) :
    PI X tg (.Call (.Name "range" p) [a, b] [] pos) (rdI X Wx fun env => W.bind (fs env) rangeW2) := by
  refine PI.imp (pi_range2 hg hm ha hs hs2) ?_
  rintro σ H R ⟨env, M, G, h⟩
  refine ⟨env, M, G, runQ (rdB (R := RL X) G h) ?_⟩
  rintro xs H1 ⟨ds, M1, f1, G1, r1, h1⟩
  rcases ds with _ | ⟨d, _ | ⟨d', _ | ⟨d'', l⟩⟩⟩
  · exact h1.elim
  · cases d <;> exact h1.elim
  · cases d with
    | int n =>
      cases d' with
      | int m =>
        obtain ⟨v, r, rfl, hr, v', r', rfl, hr', rfl⟩ := r1
        cases hr; cases hr'
        exact ⟨n, m, rfl, h1.1, h1.2 _ H1 (Fr.refl _ _) G1.rel it_range⟩
      | _ => exact h1.elim
    | _ => cases d' <;> exact h1.elim
  · cases d <;> cases d' <;> exact h1.elim
end
/-! ### targets -/
/-- the slots of ts may have changed, no others -/
def SameOut (ts : List Nat) (σ σ' : L2.St) : Prop := σ'.length = σ.length ∧ ∀ i, i ∉ ts → σ'[i]? = σ[i]?
theorem SameOut.refl (ts : List Nat) (σ : L2.St) : SameOut ts σ σ := ⟨rfl, fun _ _ => rfl⟩
theorem SameOut.trans {ts : List Nat} {σ σ1 σ2 : L2.St} (a : SameOut ts σ σ1) (b : SameOut ts σ1 σ2) : SameOut ts σ σ2 := ⟨b.1.trans a.1, fun i h => (b.2 i h).trans (a.2 i h)⟩
theorem sameOut_wipe {ts vs : List Nat} {σ σ' : L2.St} (h : SameOut ts σ σ') (hs : ∀ i ∈ ts, i ∈ vs) : L2.wipe σ' vs = L2.wipe σ vs := by
  have key : ∀ (vs : List Nat) (τ : L2.St) (i : Nat), (L2.wipe τ vs)[i]? = if i ∈ vs then (if i < τ.length then some none else none) else τ[i]? := by
    intro vs
    induction vs with
    | nil => intro τ i; simp [L2.wipe]
    | cons v vs ih =>
      intro τ i
      unfold L2.wipe
      by_cases hi : v = i
      · subst hi
        simp only [List.mem_cons, true_or, if_true]
        rw [List.getElem?_set_self']
        rw [ih]
        by_cases hv : v < τ.length
        · by_cases hm : v ∈ vs
          · simp [hm, hv]
          · simp [hm, hv]
        · have : τ[v]? = none := List.getElem?_eq_none (by omega)
          by_cases hm : v ∈ vs <;> simp [hm, hv, this]
      · rw [List.getElem?_set_ne hi, ih]
        have : i ∈ v :: vs ↔ i ∈ vs := by simp [Ne.symm hi]
        by_cases hm : i ∈ vs
        · rw [if_pos hm, if_pos (this.mpr hm)]
        · rw [if_neg hm, if_neg (fun z => hm (this.mp z))]
  apply List.ext_getElem?
  intro i
  rw [key, key, h.1]
  by_cases hi : i ∈ vs
  · simp [hi]
  · simp only [hi, if_false]
    exact h.2 i fun z => hi (hs i z)
/-- a target by trees -/
def rdTg (X : Cx) (ts : List Nat) (f : D → Ev → W Ev) : TG := fun v σ H Q => ∃ d env M, Good X env M σ H ∧ Rep X.K X.mg H M d v ∧ (f d env).run M (fun env' M' => ∀ σ' H', Fr H M H' M' → Good X env' M' σ' H' → SameOut ts σ σ' → Q σ' H') (fun _ _ => False)
def rdTgs (X : Cx) (ts : List Nat) (f : List D → Ev → W Ev) : TGs := fun vs σ H Q => ∃ ds env M, Good X env M σ H ∧ RepL X.K X.mg H M ds vs ∧ (f ds env).run M (fun env' M' => ∀ σ' H', Fr H M H' M' → Good X env' M' σ' H' → SameOut ts σ σ' → Q σ' H') (fun _ _ => False)
section
variable {X : Cx} {Wx : WX} {pos : Pos} {ts us : List Nat}
theorem PG.or {tg : Expr} {t t' : TG} (h : PG X tg t) (h' : PG X tg t') : PG X tg (fun v σ H Q => t v σ H Q ∨ t' v σ H Q) := ⟨fun pins s σ H v u Q I r q => q.elim (h.run pins s σ H v u Q I r) (h'.run pins s σ H v u Q I r)⟩
theorem PG.imp {tg : Expr} {t t' : TG} (h : PG X tg t) (i : ∀ v σ H Q, t' v σ H Q → t v σ H Q) : PG X tg t' := ⟨fun pins s σ H v u Q I r q => h.run pins s σ H v u Q I r (i v σ H Q q)⟩
theorem PGs.imp {tg : List Expr} {t t' : TGs} (h : PGs X tg t) (i : ∀ v σ H Q, t' v σ H Q → t v σ H Q) : PGs X tg t' := ⟨fun pins s σ H v u Q I r q => h.run pins s σ H v u Q I r (i v σ H Q q)⟩
theorem Good.set {env : Ev} {M : MS} {σ : L2.St} {H : Hp} {i : Nat} {d : D} {v : V} (G : Good X env M σ H) (r : Rep X.K X.mg H M d v) : Good X (env.set i (some d)) M (σ.set i (some v)) H := by
  refine ⟨by simp [G.len], fun j e h => ?_, G.rel⟩
  by_cases hj : i = j
  · subst hj
    by_cases hi : i < env.length
    · rw [List.getElem?_set_self hi] at h
      cases h
      exact ⟨v, List.getElem?_set_self (by rw [← G.len]; exact hi), r⟩
    · rw [List.getElem?_eq_none (by simpa using hi)] at h; cases h
  · rw [List.getElem?_set_ne hj] at h
    obtain ⟨w, h1, h2⟩ := G.get j e h
    exact ⟨w, by rw [List.getElem?_set_ne hj]; exact h1, h2⟩
theorem sameOut_set {σ : L2.St} {i : Nat} {v : V} (hi : i ∈ ts) : SameOut ts σ (σ.set i (some v)) := ⟨by simp, fun j hj => List.getElem?_set_ne (show i ≠ j from fun e => hj (by rw [← e]; exact hi))⟩
theorem sg_name {i : Nat} {x : Str} (hN : X.N.Nodup) (hi : X.N[i]? = some x) (hx : Loc X.env.scope x) (hf : X.fn x = true ∨ X.env.scope.names.lookup x = some .local) (ht : i ∈ ts) : PG X (.Name x pos) (rdTg X ts fun d env => .pure (env.set i (some d))) := by
  refine PG.imp (pg_name hN hi hx hf) ?_
  rintro v σ H Q ⟨d, env, M, G, r, h⟩
  exact h _ _ (Fr.refl H M) (G.set r) (sameOut_set ht)
theorem sgs_nil : PGs X [] (rdTgs X ts fun ds env => match ds with | [] => .pure env | _ => .fail) := by
  refine PGs.imp pgs_nil ?_
  rintro vs σ H Q ⟨ds, env, M, G, r, h⟩
  cases ds with
  | nil => cases r; exact ⟨rfl, h _ _ (Fr.refl H M) G (SameOut.refl _ _)⟩
  | cons _ _ => exact h.elim
theorem sgs_cons {e : Expr} {es : List Expr} {f : D → Ev → W Ev} {g : List D → Ev → W Ev} (h1 : PG X e (rdTg X ts f)) (h2 : PGs X es (rdTgs X ts g)) (ha : (assignEach (e :: es) X.env).map (·.2) = assign e X.env :: (assignEach es X.env).map (·.2)) :
    PGs X (e :: es) (rdTgs X ts fun ds env => match ds with | d :: r => W.bind (f d env) fun env' => g r env' | [] => .fail) := by
  refine PGs.imp (pgs_cons h1 h2 ha) ?_
  rintro vs σ H Q ⟨ds, env, M, G, r, h⟩
  cases ds with
  | nil => exact h.elim
  | cons d ds =>
    obtain ⟨v, vr, rfl, hr, hrr⟩ := r
    refine ⟨v, vr, rfl, d, env, M, G, hr, (f d env).mono (show (f d env).run M (fun env' M' => (g ds env').run M' _ _) _ from h) ?_ fun _ _ z => z⟩
    intro env' M1 q σ1 H1 f1 G1 s1
    refine ⟨ds, env', M1, G1, hrr.keep f1, (g ds env').mono q ?_ fun _ _ z => z⟩
    intro env'' M2 q2 σ2 H2 f2 G2 s2
    exact q2 σ2 H2 (f1.trans f2) G2 (s1.trans s2)
theorem sg_tup {es : List Expr} {k n : Nat} {g : List D → Ev → W Ev} (hc : X.calm = true) (h : PGs X es (rdTgs X ts g)) (hn : (assignEach es X.env).length = n) (hst : (assignEach es X.env).findIdx? (·.1) = none) :
    PG X (.Tuple es k pos) (rdTg X ts fun d env => match d with | .tup l => if l.length = n then g l env else .fail | .lst l => if l.length = n then g l env else .fail | _ => .fail) := by
  refine PG.imp (PG.or (pg_tup hc h hn hst) (pg_unl hc h hn hst)) ?_
  rintro v σ H Q ⟨d, env, M, G, r, h⟩
  cases d with
  | tup l =>
    obtain ⟨p, vs, rfl, hs, rl⟩ := r
    by_cases hl : l.length = n
    · replace h : (if l.length = n then g l env else W.fail).run M _ _ := h
      rw [if_pos hl] at h
      exact .inl ⟨p, vs, rfl, sqT_of hs, by rw [← rl.length]; exact hl, l, env, M, G, rl, h⟩
    · replace h : (if l.length = n then g l env else W.fail).run M _ _ := h
      rw [if_neg hl] at h
      exact h.elim
  | lst l =>
    obtain ⟨p, vs, rfl, hs, rl⟩ := r
    by_cases hl : l.length = n
    · replace h : (if l.length = n then g l env else W.fail).run M _ _ := h
      rw [if_pos hl] at h
      exact .inr ⟨p, vs, rfl, .of hs.1, by rw [← rl.length]; exact hl, l, env, M, G, rl, h⟩
    · replace h : (if l.length = n then g l env else W.fail).run M _ _ := h
      rw [if_neg hl] at h
      exact h.elim
  | _ => exact h.elim
end
/-! ### list comprehensions -/
/-- the env without the block's own names -/
def wipeE (env : Ev) : List Nat → Ev
  | [] => env
  | v :: vs => (wipeE env vs).set v none
theorem wipeE_length (env : Ev) : ∀ vs : List Nat, (wipeE env vs).length = env.length
  | [] => rfl
  | v :: vs => by unfold wipeE; rw [List.length_set, wipeE_length env vs]
theorem wipeE_get (env : Ev) : ∀ (vs : List Nat) (i : Nat) (d : D), (wipeE env vs)[i]? = some (some d) → env[i]? = some (some d) ∧ i ∉ vs
  | [], i, d, h => ⟨h, by simp⟩
  | v :: vs, i, d, h => by
    unfold wipeE at h
    by_cases hi : v = i
    · subst hi
      by_cases hv : v < (wipeE env vs).length
      · rw [List.getElem?_set_self hv] at h; cases h
      · rw [List.getElem?_eq_none (by simpa using hv)] at h; cases h
    · rw [List.getElem?_set_ne hi] at h
      obtain ⟨h1, h2⟩ := wipeE_get env vs i d h
      exact ⟨h1, by simp only [List.mem_cons, not_or]; exact ⟨fun e => hi e.symm, h2⟩⟩
theorem wipe_get (σ : L2.St) : ∀ (vs : List Nat) (i : Nat), i ∉ vs → (L2.wipe σ vs)[i]? = σ[i]?
  | [], _, _ => rfl
  | v :: vs, i, h => by
    unfold L2.wipe
    rw [List.getElem?_set_ne (show v ≠ i from fun e => h (by rw [e]; exact List.mem_cons_self)), wipe_get σ vs i fun z => h (List.mem_cons_of_mem _ z)]
theorem Good.wipe {X : Cx} {env : Ev} {M : MS} {σ : L2.St} {H : Hp} (G : Good X env M σ H) (vs : List Nat) : Good X (wipeE env vs) M (L2.wipe σ vs) H := by
  refine ⟨by rw [wipeE_length, wipe_length]; exact G.len, fun i d h => ?_, G.rel⟩
  obtain ⟨h1, h2⟩ := wipeE_get env vs i d h
  obtain ⟨v, h3, h4⟩ := G.get i d h1
  exact ⟨v, by rw [wipe_get σ vs i h2]; exact h3, h4⟩
/-- the turns: body tells what is put behind, if anything -/
def loopC (b : List D × Option Addr) (p : Addr) (body : D → W (Option D)) : List D → W Unit
  | [] => .get fun M => .need (guardM b.2 b.1 M) (.pure ())
  | d :: r => .get fun M => .need (guardM b.2 b.1 M) (W.bind (body d) fun o => match o with
    | none => loopC b p body r
    | some y => .get fun M => match M p with
      | some (.lst acc) => .need (acc.length < sizeLine) (.put p (.lst (acc ++ [y])) (loopC b p body r))
      | _ => .fail)
/-- what was put together, live or as a tree -/
def tellL (lv : Bool) (p : Addr) : W D := .get fun M => match M p with
  | some (.lst acc) => if lv then .pure (.ref p) else .del p (.pure (.lst acc))
  | _ => .fail
def compW (lv : Bool) (b : List D × Option Addr) (body : D → W (Option D)) : W D := .alloc (.lst []) fun p => W.bind (loopC b p body b.1) fun _ => tellL lv p
/-- no exception -/
def noX {α : Type} (m : W α) : W α := ⟨fun M Q _ => m.run M Q (fun _ _ => False), fun h q _ => m.mono h q fun _ _ z => z⟩
/-- one turn -/
def bodyC (g : D → Ev → W Ev) (t : Ev → W Bool) (e : Ev → W D) (env : Ev) (d : D) : W (Option D) := noX (W.bind (g d env) fun env' => W.bind (t env') fun b => if b then W.bind (e env') fun y => .pure (some y) else .pure none)
abbrev W0 : WX := fun _ _ _ _ => False
theorem ee0 {X : Cx} {H : Hp} {M : MS} {σ : L2.St} {x : XV} {M' : MS} (h : False) : EE X H M W0 σ x M' := h.elim
section
variable {X : Cx} {Wx : WX} {elt tg iter : Expr} {ifs : List Expr} {scope : Scope} {own : List (Str × Nat)} {pos : Pos} {fi : Ev → W (List D × Option Addr)} {g : D → Ev → W Ev} {ft : Ev → W Bool} {fe : Ev → W D} {ts : List Nat} {lv : Bool}
theorem tell_run {p : Addr} {M : MS} {P : D → MS → Prop} {E : XV → MS → Prop} (h : (tellL lv p).run M P E) : ∃ acc, M p = some (.lst acc) ∧ (lv = true → P (.ref p) M) ∧ (lv = false → P (.lst acc) (M.del p)) := by
  replace h : (match M p with
    | some (.lst acc) => if lv then W.pure (D.ref p) else W.del p (.pure (.lst acc))
    | _ => W.fail).run M P E := h
  cases hp : M p with
  | none => rw [hp] at h; exact h.elim
  | some c =>
    rw [hp] at h
    cases c with
    | lst acc =>
      refine ⟨acc, rfl, fun e => ?_, fun e => ?_⟩
      · subst e; exact h
      · subst e; exact h
    | dct _ => exact h.elim
    | ins _ _ => exact h.elim
theorem lc_read (hts : ∀ i ∈ ts, i ∈ own.map (·.2)) : ∀ σ H Q, rd X Wx (fun env => W.bind (fi env) fun b => compW lv b (bodyC g ft fe (wipeE env (own.map (·.2))))) σ H Q →
    tLc (rdI X Wx fi) (rdTg X ts g) (rdT X W0 ft) (rd X W0 fe) (own.map (·.2)) σ H Q := by
  rintro σ H Q ⟨env, M, G, h⟩
  refine ⟨env, M, G, runQ (rdB (R := RI X) G h) ?_⟩
  rintro J H1 ⟨b, M1, f1, G1, hJ, h1⟩ D hD
  have mD := relM_free G1.rel hD
  replace h1 : (loopC b D (bodyC g ft fe (wipeE env (own.map (·.2)))) b.1).run (M1.set D (.lst [])) (fun _ M' => (tellL lv D).run M' (QG X (RV X) H1 M1 Q) (EE X H1 M1 Wx σ)) (EE X H1 M1 Wx σ) := h1 D mD
  have fD : Fr H1 M1 (upd H1 D (.lst [])) (M1.set D (.lst [])) := fr_new hD
  refine ⟨fun i m Hi => ∃ Mi, i + m = b.1.length ∧ Fr H1 M1 Hi Mi ∧ RelM X.K X.mg Hi Mi ∧
    (loopC b D (bodyC g ft fe (wipeE env (own.map (·.2)))) (b.1.drop i)).run Mi (fun _ M' => (tellL lv D).run M' (QG X (RV X) H1 M1 Q) (EE X H1 M1 Wx σ)) (EE X H1 M1 Wx σ), ?_, ?_⟩
  · exact ⟨b.1.length, _, by omega, fD, G1.rel.new hD ⟨[], upd_same, rfl⟩, by rw [List.drop_zero]; exact h1⟩
  · rintro i m Hi ⟨Mi, em, fi', Ri, hl⟩
    by_cases hi : i < b.1.length
    · have ed : b.1.drop i = b.1[i] :: b.1.drop (i + 1) := List.drop_eq_getElem_cons hi
      rw [ed] at hl
      obtain ⟨hg, hl⟩ := hl
      obtain ⟨hgo, hy⟩ := (hJ Hi Mi fi' Ri hg i).1 b.1[i] (List.getElem?_eq_getElem hi)
      refine .inr ⟨hgo, fun Hn => ∃ Mn, Fr H1 M1 Hn Mn ∧ RelM X.K X.mg Hn Mn ∧
        (loopC b D (bodyC g ft fe (wipeE env (own.map (·.2)))) (b.1.drop (i + 1))).run Mn (fun _ M' => (tellL lv D).run M' (QG X (RV X) H1 M1 Q) (EE X H1 M1 Wx σ)) (EE X H1 M1 Wx σ), ?_, ?_⟩
      · rintro H' ⟨Mn, a1, a2, a3⟩
        exact ⟨m - 1, by omega, Mn, by omega, a1, a2, a3⟩
      · intro x H' hx
        obtain ⟨rfl, rx⟩ := hy x H' hx
        have Gi : Good X (wipeE env (own.map (·.2))) Mi (L2.wipe σ (own.map (·.2))) H' := (G1.step fi' Ri).wipe _
        refine ⟨b.1[i], _, Mi, Gi, rx, (g _ _).mono (show (g b.1[i] (wipeE env (own.map (·.2)))).run Mi (fun env' M' => (W.bind (ft env') fun b => if b then W.bind (fe env') fun y => .pure (some y) else .pure none).run M' _ _) (fun _ _ => False) from hl) ?_ fun _ _ z => z⟩
        intro env2 M2 q2 σ2 H2 f2 G2 so2
        refine ⟨sameOut_wipe so2 hts |>.trans ?_, ?_⟩
        · have idem : ∀ (vs : List Nat), SameOut vs σ (L2.wipe σ vs) := fun vs => ⟨wipe_length σ vs, fun i hi => wipe_get σ vs i hi⟩
          exact sameOut_wipe (idem (own.map (·.2))) fun _ z => z
        · refine ⟨env2, M2, G2, (ft env2).mono (show (ft env2).run M2 (fun t M' => (if t then W.bind (fe env2) fun y => .pure (some y) else .pure none).run M' _ _) (fun _ _ => False) from q2) ?_ fun _ _ z => z.elim⟩
          intro t M3 q3 t' H3 f3 R3 et
          cases et
          have fr3 : Fr H1 M1 H3 M3 := (fi'.trans f2).trans f3
          cases t with
          | false =>
            refine iteF ⟨M3, fr3, R3, ?_⟩
            exact q3
          | true =>
            refine iteT ⟨env2, M3, G2.step f3 R3, (fe env2).mono (show (fe env2).run M3 (fun y M' => (W.pure (some y)).run M' _ _) (fun _ _ => False) from q3) ?_ fun _ _ z => z.elim⟩
            intro y M4 q4 v H4 f4 R4 rv
            replace q4 : (match M4 D with
              | some (.lst acc) => W.need (acc.length < sizeLine) (W.put D (.lst (acc ++ [y])) (loopC b D (bodyC g ft fe (wipeE env (own.map Prod.snd))) (b.1.drop (i + 1))))
              | _ => W.fail).run M4 (fun _ M' => (tellL lv D).run M' (QG X (RV X) H1 M1 Q) (EE X H1 M1 Wx σ)) (EE X H1 M1 Wx σ) := q4
            cases hp : M4 D with
            | none => rw [hp] at q4; exact q4.elim
            | some c =>
              rw [hp] at q4
              cases c with
              | lst acc =>
                obtain ⟨hlen, q4⟩ := q4
                obtain ⟨vs, hv, rl⟩ := R4.at_ D _ hp
                have fw : Fr H4 M4 (upd H4 D (.lst (vs ++ [v]))) (M4.set D (.lst (acc ++ [y]))) := fr_write hp
                refine ⟨vs, hv, by rw [← rl.length]; exact hlen, _, (fr3.trans f4).trans fw, R4.write hp ⟨_, upd_same, (rl.append (RepL.one rv)).keep fw⟩, q4⟩
              | dct _ => exact q4.elim
              | ins _ _ => exact q4.elim
    · have ed : b.1.drop i = [] := List.drop_eq_nil_of_le (by omega)
      rw [ed] at hl
      obtain ⟨hg, hl⟩ := hl
      refine .inl ⟨(hJ Hi Mi fi' Ri hg i).2 (by omega), ?_⟩
      obtain ⟨acc, hp, h3, h4⟩ := tell_run (show (tellL lv D).run Mi (QG X (RV X) H1 M1 Q) (EE X H1 M1 Wx σ) from hl)
      cases lv with
      | true => exact h3 rfl _ Hi fi' Ri rfl
      | false =>
        obtain ⟨ws, hw, rw'⟩ := Ri.at_ D _ hp
        exact h4 rfl _ Hi (fi'.trans fr_del) Ri.del ⟨D, ws, rfl, ⟨hw, MS.del_same⟩, rw'.keep fr_del⟩
end
end Mir

/-! Mir10: displayed dicts; comprehensions in their place; statements. -/
namespace Mir
open PySem L2 PyProof.Rows

/-! ### displayed dicts -/
def pairsW (env : Ev) : List ((Ev → W D) × (Ev → W D)) → W (List (D × D))
  | [] => .pure []
  | (fk, fv) :: r => W.bind (fk env) fun k => W.bind (fv env) fun v => W.bind (pairsW env r) fun l => .pure ((k, v) :: l)
def keysOf : List (D × D) → Option (List (Key × D))
  | [] => some []
  | (k, v) :: r => match keyOf k, keysOf r with
    | some k, some l => some ((k, v) :: l)
    | _, _ => none
def mergeA (l more : List (Key × D)) : List (Key × D) := more.foldl (fun acc kv => putA acc kv.1 kv.2) l
def tellD (lv : Bool) (p : Addr) (ps : List (D × D)) : W D := opt (keysOf ps) fun l => .need (l.length ≤ 15) (.get fun M => match M p with
  | some (.dct []) => if lv then .put p (.dct (mergeA [] l)) (.pure (.ref p)) else .del p (.pure (.dct (mergeA [] l)))
  | _ => .fail)
def dispW (lv : Bool) (fps : List ((Ev → W D) × (Ev → W D))) (env : Ev) : W D := .alloc (.dct []) fun p => W.bind (pairsW env fps) fun ps => tellD lv p ps
section
variable {X : Cx} {Wx : WX} {σ : L2.St} {env : Ev} {lv : Bool}
def RepPr (X : Cx) (H : Hp) (M : MS) : List (D × D) → List (V × V) → Prop
  | [], vs => vs = []
  | (k, d) :: l, vs => ∃ u v r, vs = (u, v) :: r ∧ Rep X.K X.mg H M k u ∧ Rep X.K X.mg H M d v ∧ RepPr X H M l r
theorem RepPr.keep {H H' : Hp} {M M' : MS} (f : Fr H M H' M') : ∀ {l : List (D × D)} {vs : List (V × V)}, RepPr X H M l vs → RepPr X H' M' l vs
  | [], _, h => h
  | (_, _) :: _, _, ⟨u, v, r, e, h1, h2, t⟩ => ⟨u, v, r, e, h1.keep f, h2.keep f, RepPr.keep f t⟩
theorem pairs_read : ∀ (fps : List ((Ev → W D) × (Ev → W D))) (H : Hp) (M : MS) (P : List (D × D) → MS → Prop), Good X env M σ H → (pairsW env fps).run M P (EE X H M Wx σ) →
    tPairs (fps.map fun q => (rd X Wx q.1, rd X Wx q.2)) σ H fun ps H2 => ∃ l M2, Fr H M H2 M2 ∧ Good X env M2 σ H2 ∧ RepPr X H2 M2 l ps ∧ P l M2
  | [], H, M, P, G, h => ⟨[], M, Fr.refl H M, G, rfl, h⟩
  | (fk, fv) :: r, H, M, P, G, h => by
    refine ⟨env, M, G, (fk env).mono (show (fk env).run M (fun k M' => (W.bind (fv env) fun v => W.bind (pairsW env r) fun l => .pure ((k, v) :: l)).run M' P (EE X H M Wx σ)) (EE X H M Wx σ) from h) ?_ fun _ _ z => z⟩
    intro k M1 q1 u H1 f1 R1 ru
    have G1 := G.step f1 R1
    refine ⟨env, M1, G1, (fv env).mono (show (fv env).run M1 (fun v M' => (W.bind (pairsW env r) fun l => .pure ((k, v) :: l)).run M' P (EE X H M Wx σ)) (EE X H M Wx σ) from q1) ?_ fun _ _ z => EE.up f1 z⟩
    intro d M2 q2 v H2 f2 R2 rv
    have G2 := G1.step f2 R2
    have f12 := f1.trans f2
    have ih := pairs_read r H2 M2 (fun l M' => P ((k, d) :: l) M') G2 ((pairsW env r).mono (show (pairsW env r).run M2 (fun l M' => P ((k, d) :: l) M') (EE X H M Wx σ) from q2) (fun _ _ z => z) fun _ _ z => EE.up f12 z)
    have mono : ∀ (trs : List (TE × TE)) (H : Hp) (A B : List (V × V) → Hp → Prop), (∀ te ∈ trs, (∀ σ H (A B : VK), te.1 σ H A → (∀ v H', A v H' → B v H') → te.1 σ H B) ∧ (∀ σ H (A B : VK), te.2 σ H A → (∀ v H', A v H' → B v H') → te.2 σ H B)) →
        tPairs trs σ H A → (∀ ps H', A ps H' → B ps H') → tPairs trs σ H B := by
      intro trs
      induction trs with
      | nil => intro H A B _ h i; exact i _ _ h
      | cons te trs ih =>
        intro H A B hm h i
        obtain ⟨t1, t2⟩ := te
        have hh := hm (t1, t2) List.mem_cons_self
        refine hh.1 _ _ _ _ h fun x H1 h1 => hh.2 _ _ _ _ h1 fun y H2 h2 => ih H2 _ _ (fun te hte => hm te (List.mem_cons_of_mem _ hte)) h2 fun ps H3 h3 => i _ _ h3
    have rdm : ∀ (f : Ev → W D) σ H (A B : VK), rd X Wx f σ H A → (∀ v H', A v H' → B v H') → rd X Wx f σ H B := fun f σ H A B ⟨env, M, G, h⟩ i => ⟨env, M, G, runQ h i⟩
    refine mono _ H2 _ _ (fun te hte => ?_) ih ?_
    · obtain ⟨q, _, rfl⟩ := List.mem_map.mp hte
      exact ⟨rdm q.1, rdm q.2⟩
    · rintro ps H3 ⟨l, M3, f3, G3, r3, p3⟩
      exact ⟨(k, d) :: l, M3, f12.trans f3, G3, ⟨u, v, ps, rfl, (ru.keep f2).keep f3, rv.keep f3, r3⟩, p3⟩
theorem keysOf_ok {H : Hp} {M : MS} : ∀ {ps : List (D × D)} {vs : List (V × V)} {l : List (Key × D)}, keysOf ps = some l → RepPr X H M ps vs → ∃ kvs : List (Key × V), vs = kvs.map (fun kv => (kV kv.1, kv.2)) ∧ RepP X.K X.mg H M l kvs
  | [], _, _, e, r => by cases r; cases e; exact ⟨[], rfl, rfl⟩
  | (k, d) :: ps, _, l, e, ⟨u, v, r, ev, h1, h2, t⟩ => by
    subst ev
    simp only [keysOf] at e
    cases e1 : keyOf k with
    | none => rw [e1] at e; cases e
    | some k' =>
      cases e2 : keysOf ps with
      | none => rw [e1, e2] at e; cases e
      | some l' =>
        rw [e1, e2] at e; cases e
        obtain ⟨kvs, rfl, h3⟩ := keysOf_ok e2 t
        refine ⟨(k', v) :: kvs, ?_, v, kvs, rfl, h2, h3⟩
        simp only [List.map_cons, kV_of e1 h1]
theorem RepP.merge {H : Hp} {M : MS} : ∀ {more : List (Key × D)} {vs : List (Key × V)} {l : List (Key × D)} {kvs : List (Key × V)}, RepP X.K X.mg H M more vs → RepP X.K X.mg H M l kvs → RepP X.K X.mg H M (mergeA l more) (mergeK kvs vs)
  | [], _, _, _, h, r => by cases h; exact r
  | (k, d) :: more, _, l, kvs, ⟨v, vs, e, h, t⟩, r => by
    subst e
    show RepP X.K X.mg H M (mergeA (putA l k d) more) (mergeK (putK kvs k v) vs)
    exact RepP.merge t (r.put h)
theorem se_disp {keys : List (Option Expr)} {values : List Expr} {fps : List ((Ev → W D) × (Ev → W D))} {pos : Pos} (h : PPs X pos keys values (fps.map fun q => (rd X Wx q.1, rd X Wx q.2))) (hall : keys.all (·.isSome) = true) (hl : keys.length = values.length) (h0 : keys ≠ []) (h15 : keys.length ≤ 15) :
    PE X (.Dict keys values pos) (rd X Wx (dispW lv fps)) := by
  refine PE.imp (pe_disp h hall hl h0 h15) ?_
  rintro σ H Q ⟨env, M, G, h⟩ p hp
  have mp := relM_free G.rel hp
  have fp : Fr H M (upd H p (.dK [])) (M.set p (.dct [])) := fr_new hp
  have R1 : RelM X.K X.mg (upd H p (.dK [])) (M.set p (.dct [])) := G.rel.new hp ⟨[], upd_same, rfl⟩
  have h1 : (pairsW env fps).run (M.set p (.dct [])) (fun ps M' => (tellD lv p ps).run M' (QG X (RV X) H M Q) (EE X H M Wx σ)) (EE X H M Wx σ) := h p mp
  have h2 := pairs_read (X := X) (Wx := Wx) (σ := σ) (env := env) fps (upd H p (.dK [])) (M.set p (.dct [])) _ (G.step fp R1) ((pairsW env fps).mono h1 (fun _ _ z => z) fun _ _ z => EE.up fp z)
  have mono : ∀ (trs : List (TE × TE)) (H : Hp) (A B : List (V × V) → Hp → Prop), (∀ te ∈ trs, (∀ σ H (A B : VK), te.1 σ H A → (∀ v H', A v H' → B v H') → te.1 σ H B) ∧ (∀ σ H (A B : VK), te.2 σ H A → (∀ v H', A v H' → B v H') → te.2 σ H B)) →
      tPairs trs σ H A → (∀ ps H', A ps H' → B ps H') → tPairs trs σ H B := by
    intro trs
    induction trs with
    | nil => intro H A B _ h i; exact i _ _ h
    | cons te trs ih =>
      intro H A B hm h i
      obtain ⟨t1, t2⟩ := te
      have hh := hm (t1, t2) List.mem_cons_self
      refine hh.1 _ _ _ _ h fun x H1 h1 => hh.2 _ _ _ _ h1 fun y H2 h2 => ih H2 _ _ (fun te hte => hm te (List.mem_cons_of_mem _ hte)) h2 fun ps H3 h3 => i _ _ h3
  have rdm : ∀ (f : Ev → W D) σ H (A B : VK), rd X Wx f σ H A → (∀ v H', A v H' → B v H') → rd X Wx f σ H B := fun f σ H A B ⟨env, M, G, h⟩ i => ⟨env, M, G, runQ h i⟩
  refine mono _ _ _ _ (fun te hte => ?_) h2 ?_
  · obtain ⟨q, _, rfl⟩ := List.mem_map.mp hte
    exact ⟨rdm q.1, rdm q.2⟩
  · rintro ps H3 ⟨l, M3, f3, G3, r3, p3⟩
    obtain ⟨kl, ek, h15', p3⟩ := opt_run p3
    obtain ⟨kvs, rfl, rk⟩ := keysOf_ok ek r3
    replace p3 : (match M3 p with
      | some (.dct []) => if lv then W.put p (.dct (mergeA [] kl)) (.pure (D.ref p)) else W.del p (.pure (.dct (mergeA [] kl)))
      | _ => W.fail).run M3 (QG X (RV X) H M Q) (EE X H M Wx σ) := p3
    cases hp3 : M3 p with
    | none => rw [hp3] at p3; exact p3.elim
    | some c =>
      rw [hp3] at p3
      cases c with
      | dct dl =>
        cases dl with
        | nil =>
          obtain ⟨kv0, hk0, rk0⟩ := G3.rel.at_ p _ hp3
          cases rk0
          refine ⟨hk0, kvs, rfl, by rw [← rk.length]; exact h15', ?_⟩
          have fw : Fr H3 M3 (upd H3 p (.dK (mergeK [] kvs))) (M3.set p (.dct (mergeA [] kl))) := fr_write hp3
          have Rw := G3.rel.write (o := .dK (mergeK [] kvs)) (c' := .dct (mergeA [] kl)) hp3 ⟨_, upd_same, (RepP.merge (l := []) (kvs := []) rk rfl).keep fw⟩
          have ff := (fp.trans f3).trans fw
          cases lv with
          | true => exact p3 _ _ ff Rw rfl
          | false =>
            have fd : Fr (upd H3 p (.dK (mergeK [] kvs))) (M3.set p (.dct (mergeA [] kl))) (upd H3 p (.dK (mergeK [] kvs))) ((M3.set p (.dct (mergeA [] kl))).del p) := fr_del
            have em : (M3.set p (.dct (mergeA [] kl))).del p = M3.del p := by
              funext q
              by_cases hq : q = p
              · subst hq; rw [MS.del_same, MS.del_same]
              · rw [MS.del_ne hq, MS.del_ne hq, MS.set_ne hq]
            rw [em] at fd
            have Rd := Rw.del (p := p)
            rw [em] at Rd
            exact p3 _ _ (ff.trans fd) Rd ⟨p, _, rfl, ⟨upd_same, MS.del_same⟩, RepK.iff.mpr (((RepP.merge (l := []) (kvs := []) rk rfl).keep fw).keep fd)⟩
        | cons _ _ => exact p3.elim
      | lst _ => exact p3.elim
      | ins _ _ => exact p3.elim
end
/-! ### comprehensions in their place -/
section
variable {X : Cx} {Wx : WX} {elt tg iter : Expr} {ifs : List Expr} {scope : Scope} {own : List (Str × Nat)} {pos : Pos} {fi : Ev → W (List D × Option Addr)} {g : D → Ev → W Ev} {ft : Ev → W Bool} {fe : Ev → W D} {ts : List Nat} {lv : Bool}
theorem se_lc (hc : X.calm = true) (hN : X.N.Nodup) (hi : PI X tg iter (rdI X Wx fi)) (ok : BlkOk X.N X.env.scope scope own)
    (hg : ∀ (s : Shared) (H : Hp) (C : Addr) (cl : List (Str × Addr)) (fp : List Addr), PG (X.blk s H scope (compEnvC scope cl C X.env) fp) tg (rdTg X ts g))
    (ht : ∀ (s : Shared) (H : Hp) (C : Addr) (cl : List (Str × Addr)) (fp : List Addr), PTs (X.blk s H scope (compEnvC scope cl C X.env) fp) ifs (rdT X W0 ft))
    (he : ∀ (s : Shared) (H : Hp) (C : Addr) (cl : List (Str × Addr)) (fp : List Addr), PE (X.blk s H scope (compEnvC scope cl C X.env) fp) elt (rd X W0 fe)) (hs : ∀ x, foldedSetIterable iter X.env x = pure x) (hts : ∀ i ∈ ts, i ∈ own.map (·.2)) :
    PE X (.ListComp elt [⟨tg, iter, ifs, 0⟩] scope pos) (rd X Wx fun env => W.bind (fi env) fun b => compW lv b (bodyC g ft fe (wipeE env (own.map (·.2))))) :=
  PE.imp (pe_lc hc hN hi ok hg ht he hs) (lc_read hts)
end
/-! ### statements -/
inductive Out where
  | nx | rt (d : D) | bk | ct
/-- statements by trees: the env goes along -/
structure WS where
  run : Ev → MS → (Out → Ev → MS → Prop) → (XV → Ev → MS → Prop) → Prop
  mono : ∀ {env M Q Q' E E'}, run env M Q E → (∀ o env' M', Q o env' M' → Q' o env' M') → (∀ x env' M', E x env' M' → E' x env' M') → run env M Q' E'
namespace WS
def next : WS := ⟨fun env M Q _ => Q .nx env M, fun h q _ => q _ _ _ h⟩
def out (o : Out) : WS := ⟨fun env M Q _ => Q o env M, fun h q _ => q _ _ _ h⟩
def fail : WS := ⟨fun _ _ _ _ => False, fun h _ _ => h⟩
/-- one behind the other -/
def seq (a b : WS) : WS := ⟨fun env M Q E => a.run env M (fun o env' M' => match o with
    | .nx => b.run env' M' Q E
    | o => Q o env' M') E,
  fun h q e => a.mono h (fun o env' M' h' => by
    cases o with
    | nx => exact b.mono h' q e
    | _ => exact q _ _ _ h') e⟩
/-- an expression's value first -/
def bind {α : Type} (m : Ev → W α) (k : α → WS) : WS := ⟨fun env M Q E => (m env).run M (fun a M' => (k a).run env M' Q E) (fun x M' => E x env M'),
  fun h q e => (m _).mono h (fun a M' h' => (k a).mono h' q e) fun x M' => e x _ M'⟩
/-- the env is changed -/
def store (f : Ev → W Ev) : WS := ⟨fun env M Q _ => (f env).run M (fun env' M' => Q .nx env' M') (fun _ _ => False), fun h q _ => (f _).mono h (fun _ _ z => q _ _ _ z) fun _ _ z => z⟩
/-- the env is read -/
def withEnv (k : Ev → WS) : WS := ⟨fun env M Q E => (k env).run env M Q E, fun h q e => (k _).mono h q e⟩
def get (k : MS → WS) : WS := ⟨fun env M Q E => (k M).run env M Q E, fun h q e => (k _).mono h q e⟩
def need (c : Prop) (k : WS) : WS := ⟨fun env M Q E => c ∧ k.run env M Q E, fun h q e => ⟨h.1, k.mono h.2 q e⟩⟩
/-- a loop's turns: next and continue go on, break ends it -/
def loop (b : List D × Option Addr) (body : D → WS) : List D → WS
  | [] => get fun M => need (guardM b.2 b.1 M) next
  | d :: r => get fun M => need (guardM b.2 b.1 M) ⟨fun env M Q E => (body d).run env M (fun o env' M' => match o with
      | .nx => (loop b body r).run env' M' Q E
      | .ct => (loop b body r).run env' M' Q E
      | .bk => Q .nx env' M'
      | .rt d => Q (.rt d) env' M') E,
    fun h q e => (body d).mono h (fun o env' M' h' => by
      cases o with
      | nx => exact (loop b body r).mono h' q e
      | ct => exact (loop b body r).mono h' q e
      | bk => exact q _ _ _ h'
      | rt d => exact q _ _ _ h') e⟩
/-- while, at most n turns -/
def whileN (t : Ev → W Bool) (body : WS) : Nat → WS
  | 0 => fail
  | n + 1 => bind t fun b => if b then ⟨fun env M Q E => body.run env M (fun o env' M' => match o with
      | .nx => (whileN t body n).run env' M' Q E
      | .ct => (whileN t body n).run env' M' Q E
      | .bk => Q .nx env' M'
      | .rt d => Q (.rt d) env' M') E,
    fun h q e => body.mono h (fun o env' M' h' => by
      cases o with
      | nx => exact (whileN t body n).mono h' q e
      | ct => exact (whileN t body n).mono h' q e
      | bk => exact q _ _ _ h'
      | rt d => exact q _ _ _ h') e⟩ else next
def while_ (t : Ev → W Bool) (body : WS) : WS := ⟨fun env M Q E => ∃ n, (whileN t body n).run env M Q E, fun ⟨n, h⟩ q e => ⟨n, (whileN t body n).mono h q e⟩⟩
end WS
/-- what is wanted behind a statement, by trees -/
def OE (X : Cx) (H : Hp) (M : MS) (Dn : Ends) (o : Out) (env' : Ev) (M' : MS) : Prop := match o with
  | .nx => ∀ σ' H', Fr H M H' M' → Good X env' M' σ' H' → Dn.nx σ' H'
  | .bk => ∀ σ' H', Fr H M H' M' → Good X env' M' σ' H' → Dn.bk σ' H'
  | .ct => ∀ σ' H', Fr H M H' M' → Good X env' M' σ' H' → Dn.ct σ' H'
  | .rt d => ∀ v H', Fr H M H' M' → RelM X.K X.mg H' M' → Rep X.K X.mg H' M' d v → Dn.rt v H'
def ES (X : Cx) (H : Hp) (M : MS) (Wx : WX) (x : XV) (env' : Ev) (M' : MS) : Prop := ∀ cls od σ' H', Fr H M H' M' → Good X env' M' σ' H' → XRep X H' M' x cls od → Wx cls od σ' H'
def rdS (X : Cx) (Wx : WX) (f : WS) : TS := fun Dn σ H => ∃ env M, Good X env M σ H ∧ f.run env M (OE X H M Dn) (ES X H M Wx)
section
variable {X : Cx} {Wx : WX} {H H1 : Hp} {M M1 : MS} {Dn : Ends}
theorem OE.up (f : Fr H M H1 M1) {o : Out} {env' : Ev} {M' : MS} (h : OE X H M Dn o env' M') : OE X H1 M1 Dn o env' M' := by
  cases o with
  | nx => exact fun σ' H' f' => h σ' H' (f.trans f')
  | bk => exact fun σ' H' f' => h σ' H' (f.trans f')
  | ct => exact fun σ' H' f' => h σ' H' (f.trans f')
  | rt d => exact fun v H' f' => h v H' (f.trans f')
theorem ES.up (f : Fr H M H1 M1) {x : XV} {env' : Ev} {M' : MS} (h : ES X H M Wx x env' M') : ES X H1 M1 Wx x env' M' := fun c d σ' H' f' => h c d σ' H' (f.trans f')
/-- a statement-level exception at an expression's place -/
theorem ES.at_ {env : Ev} {σ : L2.St} (G : Good X env M σ H) {x : XV} {M' : MS} (h : ES X H M Wx x env M') : EE X H M Wx σ x M' := fun c d H' f R r => h c d σ H' f (G.step f R) r
/-- an expression, then a statement -/
theorem rdSB {α γ : Type} {R : Hp → MS → α → γ → Prop} {m : Ev → W α} {k : α → WS} {env : Ev} {σ : L2.St} (G : Good X env M σ H) (h : (WS.bind m k).run env M (OE X H M Dn) (ES X H M Wx)) :
    (m env).run M (QG X R H M fun c H1 => ∃ a M1, Fr H M H1 M1 ∧ Good X env M1 σ H1 ∧ R H1 M1 a c ∧ (k a).run env M1 (OE X H1 M1 Dn) (ES X H1 M1 Wx)) (EE X H M Wx σ) :=
  (m env).mono (show (m env).run M (fun a M' => (k a).run env M' (OE X H M Dn) (ES X H M Wx)) (fun x M' => ES X H M Wx x env M') from h)
    (fun a M1 q c H1 f R1 r => ⟨a, M1, f, G.step f R1, r, (k a).mono q (fun _ _ _ => OE.up f) fun _ _ _ => ES.up f⟩) fun x M' z => ES.at_ G z
theorem ss_nil : PSs X [] (rdS X Wx WS.next) := PSs.imp pss_nil fun D σ H ⟨env, M, G, h⟩ => h σ H (Fr.refl H M) G
theorem ss_cons {st : Stmt} {rest : List Stmt} {f g : WS} (h1 : PS X st (rdS X Wx f)) (h2 : PSs X rest (rdS X Wx g)) : PSs X (st :: rest) (rdS X Wx (WS.seq f g)) := by
  refine PSs.imp (pss_cons h1 h2) ?_
  rintro D σ H ⟨env, M, G, h⟩
  refine ⟨env, M, G, f.mono h ?_ fun _ _ _ z => z⟩
  intro o env' M' q
  cases o with
  | nx => exact fun σ' H' f' G' => ⟨env', M', G', g.mono q (fun _ _ _ => OE.up f') fun _ _ _ => ES.up f'⟩
  | rt d => exact q
  | bk => exact q
  | ct => exact q
theorem ss_pass {pos : Pos} : PS X (.Pass pos) (rdS X Wx WS.next) := PS.imp ps_pass fun D σ H ⟨env, M, G, h⟩ => h σ H (Fr.refl H M) G
theorem ss_break {pos : Pos} : PS X (.Break pos) (rdS X Wx (WS.out .bk)) := PS.imp ps_break fun D σ H ⟨env, M, G, h⟩ => h σ H (Fr.refl H M) G
theorem ss_continue {pos : Pos} : PS X (.Continue pos) (rdS X Wx (WS.out .ct)) := PS.imp ps_continue fun D σ H ⟨env, M, G, h⟩ => h σ H (Fr.refl H M) G
variable {e : Expr} {fe : Ev → W D} {pos : Pos}
theorem ss_expr (he : PE X e (rd X Wx fe)) (hs : swapsWith e none pos.line X.env = pure false) : PS X (.Expr e pos) (rdS X Wx (WS.bind fe fun _ => WS.next)) := by
  refine PS.imp (ps_expr he hs) ?_
  rintro D σ H ⟨env, M, G, h⟩
  refine ⟨env, M, G, runQ (rdSB (R := RV X) G h) ?_⟩
  rintro v H1 ⟨d, M1, f1, G1, r1, h1⟩
  exact h1 σ H1 (Fr.refl _ _) G1
theorem ss_ret (he : PE X e (rd X Wx fe)) : PS X (.Return (some e) pos) (rdS X Wx (WS.bind fe fun d => WS.out (.rt d))) := by
  refine PS.imp (ps_ret he) ?_
  rintro D σ H ⟨env, M, G, h⟩
  refine ⟨env, M, G, runQ (rdSB (R := RV X) G h) ?_⟩
  rintro v H1 ⟨d, M1, f1, G1, r1, h1⟩
  exact h1 v H1 (Fr.refl _ _) G1.rel r1
theorem ss_retN : PS X (.Return none pos) (rdS X Wx (WS.out (.rt .non))) := PS.imp ps_retN fun D σ H ⟨env, M, G, h⟩ => h .non H (Fr.refl H M) G.rel rfl
theorem ss_if {c : Expr} {a b : List Stmt} {ft : Ev → W Bool} {f g : WS} (hc : PT X c (rdT X Wx ft)) (ha : PSs X a (rdS X Wx f)) (hb : PSs X b (rdS X Wx g)) : PS X (.If c a b pos) (rdS X Wx (WS.bind ft fun t => if t then f else g)) := by
  refine PS.imp (ps_if hc ha hb) ?_
  rintro D σ H ⟨env, M, G, h⟩
  refine ⟨env, M, G, runQ (rdSB (R := RB) G h) ?_⟩
  rintro t H1 ⟨t', M1, f1, G1, r1, h1⟩
  cases r1
  cases t with
  | true => exact iteT ⟨env, M1, G1, h1⟩
  | false => exact iteF ⟨env, M1, G1, h1⟩
/-- target = value -/
theorem ss_asg {tg : Expr} {ts : List Nat} {g : D → Ev → W Ev} (he : PE X e (rd X Wx fe)) (hg : PG X tg (rdTg X ts g)) (hs : swapsWithSole [tg] e pos.line X.env = pure false) (hw : swappedStores [tg] e X.env = pure none) (h1 : (assignEach [tg] X.env).map (·.2) = [assign tg X.env]) :
    PS X (.Assign [tg] e pos) (rdS X Wx (WS.bind fe fun d => WS.store fun env => g d env)) := by
  refine PS.imp (ps_asg he hg hs hw h1) ?_
  rintro D σ H ⟨env, M, G, h⟩
  refine ⟨env, M, G, runQ (rdSB (R := RV X) G h) ?_⟩
  rintro v H1 ⟨d, M1, f1, G1, r1, h1⟩
  exact ⟨d, env, M1, G1, r1, (g d env).mono h1 (fun env' M' q σ' H' f' G' _ => q σ' H' f' G') fun _ _ z => z⟩
/-- name = [..] -/
theorem ss_setLc {i : Nat} {y : Str} {py : Pos} {elt tg iter : Expr} {ifs : List Expr} {scope : Scope} {own : List (Str × Nat)} {spos : Pos} {fi : Ev → W (List D × Option Addr)} {g : D → Ev → W Ev} {ft : Ev → W Bool} {ts : List Nat} {lv : Bool} (hc : X.calm = true) (hN : X.N.Nodup) (hy : X.N[i]? = some y) (hyl : X.env.scope.names.lookup y = some .local)
    (hsw : swapsWith (.ListComp elt [⟨tg, iter, ifs, 0⟩] scope pos) (some (.Name y py)) spos.line X.env = pure true) (hi : PI X tg iter (rdI X Wx fi)) (ok : BlkOk X.N X.env.scope scope own)
    (hg : ∀ (s : Shared) (H : Hp) (C : Addr) (cl : List (Str × Addr)) (fp : List Addr), PG (X.blk s H scope (compEnvC scope cl C X.env) fp) tg (rdTg X ts g))
    (ht : ∀ (s : Shared) (H : Hp) (C : Addr) (cl : List (Str × Addr)) (fp : List Addr), PTs (X.blk s H scope (compEnvC scope cl C X.env) fp) ifs (rdT X W0 ft))
    (he : ∀ (s : Shared) (H : Hp) (C : Addr) (cl : List (Str × Addr)) (fp : List Addr), PE (X.blk s H scope (compEnvC scope cl C X.env) fp) elt (rd X W0 fe)) (hs : ∀ x, foldedSetIterable iter X.env x = pure x) (hts : ∀ i ∈ ts, i ∈ own.map (·.2)) :
    PS X (.Assign [.Name y py] (.ListComp elt [⟨tg, iter, ifs, 0⟩] scope pos) spos) (rdS X Wx (WS.bind (fun env => W.bind (fi env) fun b => compW lv b (bodyC g ft fe (wipeE env (own.map (·.2))))) fun d => WS.store fun env => .pure (env.set i (some d)))) := by
  refine PS.imp (ps_setLc hc hN hy hyl hsw hi ok hg ht he hs) ?_
  rintro D σ H ⟨env, M, G, h⟩
  refine lc_read (lv := lv) hts σ H _ ⟨env, M, G, runQ (rdSB (R := RV X) G h) ?_⟩
  rintro v H1 ⟨d, M1, f1, G1, r1, h1⟩
  exact h1 _ _ (Fr.refl _ _) (G1.set r1)
/-- a loop over what is walked -/
theorem ss_for {tg iter : Expr} {body : List Stmt} {fi : Ev → W (List D × Option Addr)} {ts : List Nat} {g : D → Ev → W Ev} {f : WS} (hp : PassesOwn (model X.prog X.w) X.A X.env X.xe) (hc : X.calm = true) (hi : PI X tg iter (rdI X Wx fi)) (hg : PG X tg (rdTg X ts g)) (hb : PSs X body (rdS X Wx f))
    (hs : ∀ x, foldedSetIterable iter X.env x = pure x) : PS X (.For tg iter body [] pos) (rdS X Wx (WS.bind fi fun b => WS.loop b (fun d => WS.seq (WS.store fun env => g d env) f) b.1)) := by
  refine PS.imp (ps_for hp hc hi hg hb hs) ?_
  rintro D σ H ⟨env, M, G, h⟩
  refine ⟨env, M, G, runQ (rdSB (R := RI X) G h) ?_⟩
  rintro J H1 ⟨b, M1, f1, G1, hJ, h1⟩
  refine ⟨fun i m σi Hi => ∃ envi Mi, i + m = b.1.length ∧ Fr H1 M1 Hi Mi ∧ Good X envi Mi σi Hi ∧ (WS.loop b (fun d => WS.seq (WS.store fun env => g d env) f) (b.1.drop i)).run envi Mi (OE X H1 M1 D) (ES X H1 M1 Wx), ?_, ?_⟩
  · exact ⟨b.1.length, env, M1, by omega, Fr.refl _ _, G1, by rw [List.drop_zero]; exact h1⟩
  · rintro i m σi Hi ⟨envi, Mi, em, fi', Gi, hl⟩
    by_cases hi' : i < b.1.length
    · have ed : b.1.drop i = b.1[i] :: b.1.drop (i + 1) := List.drop_eq_getElem_cons hi'
      rw [ed] at hl
      obtain ⟨hgd, hl⟩ := hl
      obtain ⟨hgo, hy⟩ := (hJ Hi Mi fi' Gi.rel hgd i).1 b.1[i] (List.getElem?_eq_getElem hi')
      refine .inr ⟨hgo, fun σn Hn => ∃ envn Mn, Fr H1 M1 Hn Mn ∧ Good X envn Mn σn Hn ∧ (WS.loop b (fun d => WS.seq (WS.store fun env => g d env) f) (b.1.drop (i + 1))).run envn Mn (OE X H1 M1 D) (ES X H1 M1 Wx), ?_, ?_⟩
      · rintro σ' H' ⟨envn, Mn, a1, a2, a3⟩
        exact ⟨m - 1, by omega, envn, Mn, by omega, a1, a2, a3⟩
      · intro x H' hx
        obtain ⟨rfl, rx⟩ := hy x H' hx
        refine ⟨b.1[i], envi, Mi, Gi, rx, (g _ _).mono (show (g b.1[i] envi).run Mi (fun env' M' => f.run env' M' _ _) (fun _ _ => False) from hl) ?_ fun _ _ z => z⟩
        intro env2 M2 q2 σ2 H2 f2 G2 _
        have fr2 := fi'.trans f2
        refine ⟨env2, M2, G2, f.mono q2 ?_ fun _ _ _ z => ES.up fr2 z⟩
        intro o env3 M3 q3
        cases o with
        | nx => exact fun σ3 H3 f3 G3 => ⟨env3, M3, fr2.trans f3, G3, q3⟩
        | ct => exact fun σ3 H3 f3 G3 => ⟨env3, M3, fr2.trans f3, G3, q3⟩
        | bk => exact fun σ3 H3 f3 G3 => q3 σ3 H3 (fr2.trans f3) G3
        | rt d => exact fun v H3 f3 R3 r3 => q3 v H3 (fr2.trans f3) R3 r3
    · have ed : b.1.drop i = [] := List.drop_eq_nil_of_le (by omega)
      rw [ed] at hl
      obtain ⟨hgd, hl⟩ := hl
      exact .inl ⟨(hJ Hi Mi fi' Gi.rel hgd i).2 (by omega), hl σi Hi fi' Gi⟩
theorem ss_while {c : Expr} {body : List Stmt} {ft : Ev → W Bool} {f : WS} (hp : PassesOwn (model X.prog X.w) X.A X.env X.xe) (hc : PT X c (rdT X Wx ft)) (hb : PSs X body (rdS X Wx f)) : PS X (.While c body [] pos) (rdS X Wx (WS.while_ ft f)) := by
  refine PS.imp (ps_while hp hc hb) ?_
  rintro D σ H ⟨env, M, G, n, h⟩
  refine ⟨fun m σi Hi => ∃ envi Mi, Good X envi Mi σi Hi ∧ (WS.whileN ft f m).run envi Mi (OE X Hi Mi D) (ES X Hi Mi Wx), ⟨n, env, M, G, h⟩, ?_⟩
  rintro m σi Hi ⟨envi, Mi, Gi, hl⟩
  cases m with
  | zero => exact hl.elim
  | succ m =>
    refine ⟨envi, Mi, Gi, runQ (rdSB (R := RB) Gi hl) ?_⟩
    rintro t H1 ⟨t', M1, f1, G1, r1, h1⟩
    cases r1
    cases t with
    | false => exact iteF (h1 σi H1 (Fr.refl _ _) G1)
    | true =>
      refine iteT ⟨fun σ' H' => ∃ env' M', Good X env' M' σ' H' ∧ (WS.whileN ft f m).run env' M' (OE X H' M' D) (ES X H' M' Wx), fun σ' H' h' => ⟨m, Nat.lt_succ_self m, h'⟩, envi, M1, G1, ?_⟩
      refine f.mono (show f.run envi M1 (fun o env' M' => match o with
        | .nx => (WS.whileN ft f m).run env' M' _ _
        | .ct => (WS.whileN ft f m).run env' M' _ _
        | .bk => _
        | .rt d => _) (ES X H1 M1 Wx) from h1) ?_ fun _ _ _ z => z
      intro o env3 M3 q3
      cases o with
      | nx => exact fun σ3 H3 f3 G3 => ⟨env3, M3, G3, WS.mono _ q3 (fun _ _ _ => OE.up f3) fun _ _ _ => ES.up f3⟩
      | ct => exact fun σ3 H3 f3 G3 => ⟨env3, M3, G3, WS.mono _ q3 (fun _ _ _ => OE.up f3) fun _ _ _ => ES.up f3⟩
      | bk => exact fun σ3 H3 f3 G3 => q3 σ3 H3 f3 G3
      | rt d => exact fun v H3 f3 R3 r3 => q3 v H3 f3 R3 r3
end
end Mir

/-! Mir11: stores to items, two and three names at once, name op= value. -/
namespace Mir
open PySem L2 PyProof.Rows

theorem takes0W {X : Cx} : Takes X W0 := fun u s' ⟨a, B, sI, pins, σ, H, cls, d, e, I, nb, up, sky, na, os, ag, w⟩ => w.elim
/-- o[i] = v -/
def optU {α : Type} (o : Option α) (k : α → W Unit) : W Unit := match o with
  | some a => k a
  | none => .fail
theorem optU_run {α : Type} {o : Option α} {k : α → W Unit} {M : MS} {Q : Unit → MS → Prop} {E : XV → MS → Prop} (h : (optU o k).run M Q E) : ∃ a, o = some a ∧ (k a).run M Q E := by
  cases o with
  | none => exact h.elim
  | some a => exact ⟨a, rfl, h⟩
def setW (o i v : D) : W Unit := match o with
  | .ref p => .get fun M => match M p with
    | some (.lst l) => optU (intOf i) fun i => optU (ixN l.length i) fun j => .put p (.lst (l.set j v)) (.pure ())
    | some (.dct l) => optU (keyOf i) fun k => .need (l.length < sizeLine) (.put p (.dct (putA l k v)) (.pure ()))
    | _ => .fail
  | _ => .fail
def rPut (X : Cx) : TSet := fun o i v H Q => ∃ d1 d2 d3 M, RelM X.K X.mg H M ∧ Rep X.K X.mg H M d1 o ∧ Rep X.K X.mg H M d2 i ∧ Rep X.K X.mg H M d3 v ∧ (setW d1 d2 d3).run M (fun _ M' => ∀ H', Fr H M H' M' → RelM X.K X.mg H' M' → Q H') (fun _ _ => False)
section
variable {X : Cx} {Wx : WX} {pos : Pos}
theorem intOf_ok {K : PySem.W.Frag} {mg : Str → Option Value} {H : Hp} {M : MS} {d : D} {i : Int} {x : V} (e : intOf d = some i) (r : Rep K mg H M d x) : x = .int i := by
  cases d <;> simp only [intOf, Option.some.injEq, reduceCtorEq] at e <;> subst e <;> cases r <;> rfl
theorem set_M (hu : X.A.units + 1 < cLine) : PSet X (rPut X) := by
  intro pins s σ H o i v ov iv u Q I ro ri rv hh
  obtain ⟨d1, d2, d3, M, R, r1, r2, r3, h⟩ := hh
  cases d1 with
  | ref p =>
    cases r1
    obtain rfl : ov = Value.ref p := ro
    replace h : (match M p with
      | some (.lst l) => optU (intOf d2) fun i => optU (ixN l.length i) fun j => W.put p (.lst (l.set j d3)) (.pure ())
      | some (.dct l) => optU (keyOf d2) fun k => W.need (l.length < sizeLine) (W.put p (.dct (putA l k d3)) (.pure ()))
      | _ => W.fail).run M (fun _ M' => ∀ H', Fr H M H' M' → RelM X.K X.mg H' M' → Q H') (fun _ _ => False) := h
    cases hp : M p with
    | none => rw [hp] at h; exact h.elim
    | some c =>
      rw [hp] at h
      cases c with
      | lst l =>
        obtain ⟨k, ek, h1⟩ := optU_run h
        obtain ⟨j, ej, h2⟩ := optU_run h1
        obtain ⟨vs, hv, rl⟩ := R.at_ p _ hp
        replace h2 : ∀ H', Fr H M H' (M.set p (.lst (l.set j d3))) → RelM X.K X.mg H' (M.set p (.lst (l.set j d3))) → Q H' := h2
        have f : Fr H M (upd H p (.lst (vs.set j v))) (M.set p (.lst (l.set j d3))) := fr_write hp
        refine set_list pins s σ H (V.ref p) i v (Value.ref p) iv u Q I rfl ri rv ⟨p, vs, k, j, rfl, intOf_ok ek r2, hv, by rw [← rl.length]; exact ej, h2 _ f (R.write hp ⟨_, upd_same, (rl.set r3 j).keep f⟩)⟩
      | dct l =>
        obtain ⟨k, ek, hl, h2⟩ := optU_run h
        obtain ⟨vs, hv, rl⟩ := R.at_ p _ hp
        replace h2 : ∀ H', Fr H M H' (M.set p (.dct (putA l k d3))) → RelM X.K X.mg H' (M.set p (.dct (putA l k d3))) → Q H' := h2
        have f : Fr H M (upd H p (.dK (putK vs k v))) (M.set p (.dct (putA l k d3))) := fr_write hp
        have q := h2 _ f (R.write hp ⟨_, upd_same, (rl.put r3).keep f⟩)
        have ei := kV_of ek r2
        subst ei
        exact d_setItem hu I (DPut.k hv (by rw [← rl.length]; exact hl)) ri rv fun s' I' => ⟨_, I', q⟩
      | ins _ _ => exact h.elim
  | _ => exact h.elim
theorem sg_sub {o i : Expr} {fo fi : Ev → W D} {ts : List Nat} (hu : X.A.units + 1 < cLine) (ho : PE X o (rd X W0 fo)) (hi : PE X i (rd X W0 fi))
    (ha : ∀ v, assign (.Subscript o i pos) X.env v = (do
      let ov ← holding [v] (eval o X.env)
      let iv ← holding [v, ov] (eval i X.env)
      standAt pos
      holding [v, ov, iv] (setItem ov iv v)
      release [v, ov, iv] [])) : PG X (.Subscript o i pos) (rdTg X ts fun d env => W.bind (fo env) fun x => W.bind (fi env) fun y => W.bind (setW x y d) fun _ => .pure env) := by
  refine PG.imp (pg_sub ho hi (set_M hu) ha) ?_
  rintro v σ H Q ⟨d, env, M, G, r, h⟩
  refine ⟨env, M, G, (fo env).mono (show (fo env).run M (fun x M' => (W.bind (fi env) fun y => W.bind (setW x y d) fun _ => .pure env).run M' _ _) (fun _ _ => False) from h) ?_ fun _ _ z => z.elim⟩
  intro x M1 q1 ox H1 f1 R1 rx
  refine ⟨env, M1, G.step f1 R1, (fi env).mono (show (fi env).run M1 (fun y M' => (W.bind (setW x y d) fun _ => .pure env).run M' _ _) (fun _ _ => False) from q1) ?_ fun _ _ z => z.elim⟩
  intro y M2 q2 iy H2 f2 R2 ry
  refine ⟨x, y, d, M2, R2, rx.keep f2, ry, (r.keep f1).keep f2, (setW x y d).mono (show (setW x y d).run M2 (fun _ M' => (W.pure env).run M' _ _) (fun _ _ => False) from q2) ?_ fun _ _ z => z⟩
  intro _ M3 q3 H3 f3 R3
  exact q3 σ H3 ((f1.trans f2).trans f3) (((G.step f1 R1).step f2 R2).step f3 R3) (SameOut.refl _ _)
/-- a, b = x, y -/
def par2 (i j : Nat) (l : List D) (env : Ev) : W Ev := match l with
  | [x, y] => .pure ((env.set i (some x)).set j (some y))
  | _ => .fail
theorem ss_par {i j : Nat} {x y : Str} {a b : Expr} {fs : Ev → W (List D)} {px py pt : Pos} {kt k2 pt2} (hc : X.calm = true) (hN : X.N.Nodup) (hi : X.N[i]? = some x) (hj : X.N[j]? = some y) (hij : i ≠ j)
    (hx : X.env.scope.names.lookup x = some .local) (hy : X.env.scope.names.lookup y = some .local) (ha : PA X [a, b] (rdA X Wx fs))
    (hw : swappedStores [.Tuple [.Name x px, .Name y py] kt pt] (.Tuple [a, b] k2 pt2) X.env = pure (some [x, y]))
    (hs : swapsWithSole [.Tuple [.Name x px, .Name y py] kt pt] (.Tuple [a, b] k2 pt2) pos.line X.env = pure false) :
    PS X (.Assign [.Tuple [.Name x px, .Name y py] kt pt] (.Tuple [a, b] k2 pt2) pos) (rdS X Wx (WS.bind fs fun l => WS.store (par2 i j l))) := by
  refine PS.imp (ps_par hc hN hi hj hij hx hy ha hw hs) ?_
  rintro D σ H ⟨env, M, G, h⟩
  refine ⟨env, M, G, runQ (rdSB (R := RL X) G h) ?_⟩
  rintro vs H1 ⟨l, M1, f1, G1, r1, h1⟩
  rcases l with _ | ⟨d, _ | ⟨d', _ | ⟨d'', l⟩⟩⟩
  · exact h1.elim
  · exact h1.elim
  · obtain ⟨v, r, rfl, hr, v', r', rfl, hr', rfl⟩ := r1
    exact ⟨v, v', rfl, h1 _ _ (Fr.refl _ _) ((G1.set hr).set hr')⟩
  · exact h1.elim
def par3 (i j k : Nat) (l : List D) (env : Ev) : W Ev := match l with
  | [x, y, z] => .pure (((env.set i (some x)).set j (some y)).set k (some z))
  | _ => .fail
theorem ss_par3 {i j l : Nat} {x y z : Str} {a b c : Expr} {fs : Ev → W (List D)} {px py pz pt : Pos} {kt k2 pt2} (hc : X.calm = true) (hN : X.N.Nodup) (hi : X.N[i]? = some x) (hj : X.N[j]? = some y) (hl : X.N[l]? = some z) (hij : i ≠ j) (hil : i ≠ l) (hjl : j ≠ l)
    (hx : X.env.scope.names.lookup x = some .local) (hy : X.env.scope.names.lookup y = some .local) (hz : X.env.scope.names.lookup z = some .local) (ha : PA X [a, b, c] (rdA X Wx fs))
    (hw : swappedStores [.Tuple [.Name x px, .Name y py, .Name z pz] kt pt] (.Tuple [a, b, c] k2 pt2) X.env = pure (some [x, y, z]))
    (hs : swapsWithSole [.Tuple [.Name x px, .Name y py, .Name z pz] kt pt] (.Tuple [a, b, c] k2 pt2) pos.line X.env = pure false) :
    PS X (.Assign [.Tuple [.Name x px, .Name y py, .Name z pz] kt pt] (.Tuple [a, b, c] k2 pt2) pos) (rdS X Wx (WS.bind fs fun m => WS.store (par3 i j l m))) := by
  refine PS.imp (ps_par3 hc hN hi hj hl hij hil hjl hx hy hz ha hw hs) ?_
  rintro D σ H ⟨env, M, G, h⟩
  refine ⟨env, M, G, runQ (rdSB (R := RL X) G h) ?_⟩
  rintro vs H1 ⟨m, M1, f1, G1, r1, h1⟩
  rcases m with _ | ⟨d, _ | ⟨d', _ | ⟨d'', _ | ⟨d3, m⟩⟩⟩⟩
  · exact h1.elim
  · exact h1.elim
  · exact h1.elim
  · obtain ⟨v, r, rfl, hr, v', r', rfl, hr', v'', r'', rfl, hr'', rfl⟩ := r1
    exact ⟨v, v', v'', rfl, h1 _ _ (Fr.refl _ _) (((G1.set hr).set hr').set hr'')⟩
  · exact h1.elim
/-- name op= value -/
def augW (op : Operator) : D → D → W D := match op with
  | .Add => fun x y => match x, y with
    | .int i, .int j => .pure (.int (i + j))
    | .str a, .str b => .need (a.length + b.length ≤ sizeLine) (.pure (.str (a ++ b)))
    | _, _ => .fail
  | .Sub => fun x y => match x, y with
    | .int i, .int j => .pure (.int (i - j))
    | _, _ => .fail
  | _ => fun _ _ => .fail
theorem ip_M {op : Operator} : PIp X op (rG X (augW op)) := by
  intro pins s σ H x y v u Q I rx ry hh
  obtain ⟨d1, d2, M, E, R, r1, r2, h⟩ := hh
  cases op with
  | Add =>
    cases d1 with
    | int i =>
      cases d2 with
      | int j => exact iop_add pins s σ H x y v u Q I rx ry ⟨i, j, r1, r2, now R h rfl⟩
      | _ => exact h.elim
    | str i =>
      cases d2 with
      | str j => exact iop_add_str pins s σ H x y v u Q I rx ry ⟨i, j, r1, r2, h.1, now R h.2 rfl⟩
      | _ => exact h.elim
    | _ => exact h.elim
  | Sub =>
    cases d1 with
    | int i =>
      cases d2 with
      | int j => exact iop_sub pins s σ H x y v u Q I rx ry ⟨i, j, r1, r2, now R h rfl⟩
      | _ => exact h.elim
    | _ => exact h.elim
  | _ => exact h.elim
theorem ss_aug {i : Nat} {x : Str} {e : Expr} {fe : Ev → W D} {op : Operator} {pos' : Pos} (hN : X.N.Nodup) (hi : X.N[i]? = some x) (hx : Loc X.env.scope x) (he : PE X e (rd X Wx fe)) (hf : X.fn x = true ∨ X.env.scope.names.lookup x = some .local) :
    PS X (.AugAssign (.Name x pos') op e pos) (rdS X Wx (WS.bind (fun env => W.bind (varW i env) fun x => W.bind (fe env) fun y => augW op x y) fun d => WS.store fun env => .pure (env.set i (some d)))) := by
  refine PS.imp (ps_aug hN hi hx he ip_M hf) ?_
  rintro D σ H ⟨env, M, G, h⟩
  replace h := rdSB (R := RV X) G h
  cases ev : env[i]? with
  | none => simp only [varW, ev] at h; exact h.elim
  | some o =>
    cases o with
    | none => simp only [varW, ev] at h; exact h.elim
    | some d1 =>
      obtain ⟨v1, h1, rv1⟩ := G.get i d1 ev
      refine ⟨v1, h1, env, M, G, ?_⟩
      have hw : varW i env = .pure d1 := by unfold varW; rw [ev]
      rw [hw] at h
      replace h : (W.bind (fe env) fun y => augW op d1 y).run M _ _ := h
      refine runQ (rdB (R := RV X) G h) ?_
      rintro y H1 ⟨d2, M1, f1, G1, r2, h2⟩
      refine ⟨d1, d2, M1, _, G1.rel, rv1.keep f1, r2, (augW op d1 d2).mono h2 ?_ fun _ _ z => z⟩
      intro d3 M2 q v H2 f2 R2 r3
      obtain ⟨d3', M2', f3, G3, r3', q3⟩ := q v H2 f2 R2 r3
      exact q3 _ _ (Fr.refl _ _) (G3.set r3')
end
end Mir

/-! MirX: exceptions by trees: made, read, raised, kept. -/
namespace Mir
open PySem L2 PyProof.Rows

/-- an own exception class: what it stands under, its __init__'s names, the fields that it stores -/
structure XI where
  b : Xb
  N : List Str
  fl : Flds
  kws : List KwS := []
def KwS.up (s : KwS) : KwS := ⟨s.n, s.ks, 0 :: s.ord.map (· + 1)⟩
def fvD (ds : List D) : Flds → List (Str × D) → List (Str × D)
  | [], acc => acc
  | (f, i) :: r, acc => fvD ds r (match ds[i - 1]? with
    | some d => (f, d) :: acc
    | none => acc)
def XOk (P : Program) (w : World) (K : PySem.W.Frag) (mg : Str → Option Value) (x : Str) (xi : XI) : Prop := ∃ C fI fd, mg x = some (.ref C) ∧ XC K C x xi.b ∧ PySem.W.findIn K (.ref C) "__init__" = some (some (.ref fI)) ∧
  PySem.W.typeIn K (.ref fI) = some (.type "function") ∧ Binds K fd xi.N [] ∧ (∀ p ∈ xi.fl, PySem.W.findIn K (.ref C) p.1 = some none) ∧ (∀ p ∈ xi.fl, 1 ≤ p.2 ∧ p.2 < xi.N.length) ∧ xi.N.length ≤ 1000 ∧
  (∀ s ∈ xi.kws, KBs K fd xi.N (s.n + 1) s.up) ∧ ∀ base : Heap, FnOk P w K mg base (CX P w) 1 fI fd xi.N (spI C xi.N xi.N.length xi.fl)
section
variable {K : PySem.W.Frag} {mg : Str → Option Value} {H : Hp} {M : MS}
theorem start_at {N : List Str} {a : Addr} {vs : List V} {i : Nat} (h0 : 1 ≤ i) (h1 : i ≤ vs.length) : (L2.start N (V.ref a :: vs))[i]? = (vs[i - 1]?).map some := by
  obtain ⟨j, rfl⟩ : ∃ j, i = j + 1 := ⟨i - 1, by omega⟩
  unfold L2.start
  rw [List.getElem?_append_left (by simp; omega), List.map_cons, List.getElem?_cons_succ, List.getElem?_map, Nat.add_sub_cancel]
theorem fv_rep {ds : List D} {vs : List V} {N : List Str} {a : Addr} (r : RepL K mg H M ds vs) : ∀ {fl : Flds} {acc : List (Str × D)} {av : List (Str × V)}, (∀ p ∈ fl, 1 ≤ p.2 ∧ p.2 ≤ ds.length) → RepP K mg H M acc av →
    RepP K mg H M (fvD ds fl acc) (fvV (L2.start N (V.ref a :: vs)) fl av)
  | [], _, _, _, h => h
  | (f, i) :: fl, acc, av, hi, h => by
    have h1 := hi (f, i) (.head _)
    simp only at h1
    have hlt : i - 1 < ds.length := by omega
    obtain ⟨v, e1, e2⟩ := r.get (List.getElem?_eq_getElem hlt)
    simp only [fvD, fvV]
    rw [start_at h1.1 (by rw [← r.length]; exact h1.2), e1, List.getElem?_eq_getElem hlt]
    exact fv_rep r (fun p hp => hi p (.tail _ hp)) ⟨v, av, rfl, e2, h⟩
theorem fvD_names {ds : List D} : ∀ {fl : Flds} {acc : List (Str × D)} {g : Str}, g ∈ (fvD ds fl acc).map (·.1) → g ∈ fl.map (·.1) ∨ g ∈ acc.map (·.1)
  | [], _, _, h => .inr h
  | (f, i) :: fl, acc, g, h => by
    simp only [fvD] at h
    rcases fvD_names h with h | h
    · exact .inl (.tail _ h)
    · split at h
      · rcases List.mem_cons.mp h with h | h
        · exact .inl (by rw [h]; exact .head _)
        · exact .inr h
      · exact .inr h
theorem fvD_nil {ds : List D} {fl : Flds} (h : fl = []) : fvD ds fl [] = [] := by subst h; rfl
end
section
variable {X : Cx} {Wx : WX} {x : Str} {xi : XI} {g : List D → W D} {e : Expr} {es : List Expr} {fs : Ev → W (List D)} {p pos pos' : Pos} {k : Nat}
/-- what the call of a class tells of -/
def MkG (x : Str) (xi : XI) (g : List D → W D) : Prop := ∀ ds M Q E, (g ds).run M Q E → Q (.exc ⟨x, xi.b⟩ (fvD ds xi.fl [])) M
/-- the class called, by trees: what is left behind -/
theorem mk_read (F : XOk X.prog X.w X.K X.mg x xi) (hg : MkG x xi g) {σ : L2.St} {H : Hp} {Q : XK} (h : ∃ env M, Good X env M σ H ∧ (W.bind (fs env) fun ds => if ds.length + 1 = xi.N.length then g ds else W.fail).run M
      (fun d M' => ∀ c fs', d = .exc c fs' → ∀ cls od H', Fr H M H' M' → RelM X.K X.mg H' M' → XRep X H' M' ⟨c, fs'⟩ cls od → Q cls od H') (EE X H M Wx σ)) {C : Addr} (hC : X.mg x = some (.ref C)) :
    tMkX C xi.N xi.N.length xi.fl (rdA X Wx fs) σ H Q := by
  obtain ⟨env, M, G, h⟩ := h
  obtain ⟨C', fI, fd, hm, T, _, _, _, hno, hix, hN, _, _⟩ := F
  rw [hC] at hm
  cases hm
  refine ⟨env, M, G, (fs env).mono (show (fs env).run M (fun ds M' => (if ds.length + 1 = xi.N.length then g ds else W.fail).run M' _ _) _ from h) ?_ fun _ _ z => z⟩
  intro ds M1 q vs H1 f1 R1 r1
  by_cases hn : ds.length + 1 = xi.N.length
  · replace q : (if ds.length + 1 = xi.N.length then g ds else W.fail).run M1 _ _ := q
    rw [if_pos hn] at q
    have q := hg _ _ _ _ q _ _ rfl
    have names : ∀ f ∈ (fvD ds xi.fl []).map (·.1), PySem.W.findIn X.K (.ref C) f = some none := fun f hf => by
      rcases fvD_names hf with h | h
      · obtain ⟨p, hp, rfl⟩ := List.mem_map.mp h
        exact hno p hp
      · cases h
    refine ⟨by rw [← r1.length]; exact hn, by rw [← r1.length]; omega, fun e => ?_, fun e d a hd ha hda => ?_⟩
    · refine q _ _ H1 f1 R1 ⟨C, hC, rfl, T, names, .inl ⟨rfl, fvD_nil e⟩⟩
    · have fr : Fr H1 M1 (upd H1 d (.xd (fvV (L2.start xi.N (.ref a :: vs)) xi.fl []))) M1 := fr_upd hd
      refine q _ _ _ (f1.trans fr) (R1.frz hd) ⟨C, hC, rfl, T, names, .inr ⟨d, _, rfl, ⟨upd_same, relM_free R1 hd⟩, ?_⟩⟩
      exact (fv_rep (acc := []) (av := []) r1 (fun p hp => by have := hix p hp; omega) rfl).keep fr
  · replace q : (if ds.length + 1 = xi.N.length then g ds else W.fail).run M1 _ _ := q
    rw [if_neg hn] at q
    exact q.elim
theorem mk_read0 (F : XOk X.prog X.w X.K X.mg x xi) (hg : MkG x xi g) {σ : L2.St} {H : Hp} {Q : XK} (h : ∃ env M, Good X env M σ H ∧ (if 1 = xi.N.length then g [] else W.fail).run M
      (fun d M' => ∀ c fs', d = .exc c fs' → ∀ cls od H', Fr H M H' M' → RelM X.K X.mg H' M' → XRep X H' M' ⟨c, fs'⟩ cls od → Q cls od H') (EE X H M Wx σ)) {C : Addr} (hC : X.mg x = some (.ref C)) : tMkX C xi.N xi.N.length xi.fl tNil σ H Q := by
  obtain ⟨env, M, G, h⟩ := h
  exact (mk_read (fs := fun _ => .pure []) F hg ⟨env, M, G, h⟩ hC).elim fun env' ⟨M', G', h'⟩ => by
    have := h' [] H (Fr.refl H M') G'.rel rfl
    exact this
theorem exc_val {H H' : Hp} {M M' : MS} {Q : VK} {c : XN} {fs' : List (Str × D)} {cls : Value} {od : Option Addr} {a : Addr} (q : QG X (RV X) H M Q (.exc c fs') M') (f' : Fr H M H' M') (R' : RelM X.K X.mg H' M') (xr : XRep X H' M' ⟨c, fs'⟩ cls od) (ha' : H' a = none) : Q (.ref a) (upd H' a (exV cls od a)) := by
  obtain ⟨C', m', rfl, T', nf, hod⟩ := xr
  have fr : Fr H' M' (upd H' a (exV (.ref C') od a)) M' := fr_upd ha'
  refine q _ _ (f'.trans fr) (R'.frz ha') ?_
  rcases hod with ⟨rfl, e0⟩ | ⟨d, kvs, rfl, hd, rp⟩
  · exact ⟨a, C', none, [], rfl, m', T', nf, ⟨upd_same, relM_free R' ha'⟩, .inl ⟨rfl, rfl⟩, by simp only at e0; subst e0; rfl⟩
  · exact ⟨a, C', some d, kvs, rfl, m', T', nf, ⟨upd_same, relM_free R' ha'⟩, .inr ⟨d, rfl, (fr _ _ hd.1 hd.2)⟩, RepX.iff.mpr (rp.keep fr)⟩
/-- what is raised -/
def WS.raise (x : XV) : WS := ⟨fun env M _ E => E x env M, fun h _ e => e _ _ _ h⟩
def raiseW (d : D) : WS := match d with
  | .exc c fs => WS.raise ⟨c, fs⟩
  | _ => WS.fail
theorem pmk_M (F : XOk X.prog X.w X.K X.mg x xi) (hr : Room 2 X.A) (hgl : Gl X x) (hdb : (x == ("__debug__" : Str)) = false) (ha : PA X (e :: es) (rdA X Wx fs)) (he : starEach (e :: es) X.env = (false, eval e X.env) :: starEach es X.env) (hpl : (backTo pos (starEach es X.env)).any (·.1) = false) :
    ∃ C, X.mg x = some (.ref C) ∧ PMk X (.Call (.Name x p) (e :: es) [] pos) (tMkX C xi.N xi.N.length xi.fl (rdA X Wx fs)) := by
  obtain ⟨C, fI, fd, hm, T, iC, tI, hb, _, _, _, _, F1⟩ := F
  exact ⟨C, hm, pmk_x T iC tI (F1 X.base) hr hb hgl hm hdb ha he hpl⟩
theorem pmk_M0 (F : XOk X.prog X.w X.K X.mg x xi) (hr : Room 2 X.A) (hgl : Gl X x) (hdb : (x == ("__debug__" : Str)) = false) :
    ∃ C, X.mg x = some (.ref C) ∧ PMk X (.Call (.Name x p) [] [] pos) (tMkX C xi.N xi.N.length xi.fl tNil) := by
  obtain ⟨C, fI, fd, hm, T, iC, tI, hb, _, _, _, _, F1⟩ := F
  exact ⟨C, hm, pmk_x0 T iC tI (F1 X.base) hr hb hgl hm hdb⟩
/-- as a value -/
theorem se_exc (F : XOk X.prog X.w X.K X.mg x xi) (hg : MkG x xi g) (hr : Room 2 X.A) (hgl : Gl X x) (hdb : (x == ("__debug__" : Str)) = false) (ha : PA X (e :: es) (rdA X Wx fs)) (he : starEach (e :: es) X.env = (false, eval e X.env) :: starEach es X.env) (hpl : (backTo pos (starEach es X.env)).any (·.1) = false) :
    PE X (.Call (.Name x p) (e :: es) [] pos) (rd X Wx fun env => W.bind (fs env) fun ds => if ds.length + 1 = xi.N.length then g ds else .fail) := by
  obtain ⟨C, hC, hmk⟩ := pmk_M (p := p) (pos := pos) F hr hgl hdb ha he hpl
  refine PE.imp (pe_of_mk hmk) ?_
  rintro σ H Q ⟨env, M, G, h⟩
  refine mk_read F hg ⟨env, M, G, (W.bind (fs env) _).mono h ?_ fun _ _ z => z⟩ hC
  rintro d M' q c fs' rfl cls od H' f' R' xr a ha'
  exact exc_val q f' R' xr ha'
/-- C() as a value -/
theorem se_exc0 (F : XOk X.prog X.w X.K X.mg x xi) (hg : MkG x xi g) (hr : Room 2 X.A) (hgl : Gl X x) (hdb : (x == ("__debug__" : Str)) = false) :
    PE X (.Call (.Name x p) [] [] pos) (rd X Wx fun _ => if 1 = xi.N.length then g [] else .fail) := by
  obtain ⟨C, hC, hmk⟩ := pmk_M0 (p := p) (pos := pos) F hr hgl hdb
  refine PE.imp (pe_of_mk hmk) ?_
  rintro σ H Q ⟨env, M, G, h⟩
  refine mk_read0 (Wx := Wx) F hg ⟨env, M, G, W.mono _ h ?_ fun _ _ z => z⟩ hC
  rintro d M' q c fs' rfl cls od H' f' R' xr a ha'
  exact exc_val q f' R' xr ha'
/-- raise C(..) -/
theorem ss_raise (hc : X.calm = true) (tk : Takes X Wx) (F : XOk X.prog X.w X.K X.mg x xi) (hg : MkG x xi g) (hr : Room 2 X.A) (hgl : Gl X x) (hdb : (x == ("__debug__" : Str)) = false) (ha : PA X (e :: es) (rdA X Wx fs)) (he : starEach (e :: es) X.env = (false, eval e X.env) :: starEach es X.env)
    (hpl : (backTo pos (starEach es X.env)).any (·.1) = false) : PS X (.Raise (some (.Call (.Name x p) (e :: es) [] pos)) none pos') (rdS X Wx (WS.bind (fun env => W.bind (fs env) fun ds => if ds.length + 1 = xi.N.length then g ds else .fail) raiseW)) := by
  obtain ⟨C, hC, hmk⟩ := pmk_M (p := p) (pos := pos) F hr hgl hdb ha he hpl
  refine PS.imp (ps_raise hc tk hmk) ?_
  rintro D σ H ⟨env, M, G, h⟩
  refine mk_read F hg ⟨env, M, G, W.mono _ (show (W.bind (fs env) fun ds => if ds.length + 1 = xi.N.length then g ds else W.fail).run M (fun d M' => (raiseW d).run env M' (OE X H M D) (ES X H M Wx)) (fun x M' => ES X H M Wx x env M') from h) ?_ fun x M' z => ES.at_ G z⟩ hC
  rintro d M' q c fs' rfl cls od H' f' R' xr
  exact q cls od σ H' f' (G.step f' R') xr
theorem ss_raise0 (hc : X.calm = true) (tk : Takes X Wx) (F : XOk X.prog X.w X.K X.mg x xi) (hg : MkG x xi g) (hr : Room 2 X.A) (hgl : Gl X x) (hdb : (x == ("__debug__" : Str)) = false) :
    PS X (.Raise (some (.Call (.Name x p) [] [] pos)) none pos') (rdS X Wx (WS.bind (fun _ => if 1 = xi.N.length then g [] else .fail) raiseW)) := by
  obtain ⟨C, hC, hmk⟩ := pmk_M0 (p := p) (pos := pos) F hr hgl hdb
  refine PS.imp (ps_raise hc tk hmk) ?_
  rintro D σ H ⟨env, M, G, h⟩
  refine mk_read0 (Wx := Wx) F hg ⟨env, M, G, W.mono _ (show (if 1 = xi.N.length then g [] else W.fail).run M (fun d M' => (raiseW d).run env M' (OE X H M D) (ES X H M Wx)) (fun x M' => ES X H M Wx x env M') from h) ?_ fun x M' z => ES.at_ G z⟩ hC
  rintro d M' q c fs' rfl cls od H' f' R' xr
  exact q cls od σ H' f' (G.step f' R') xr
/-- e.f -/
def attrW (n : Str) (d : D) : W D := match d with
  | .exc _ fs => opt (getA fs n) fun d => .pure d
  | _ => .fail
theorem lookup_getA {K : PySem.W.Frag} {mg : Str → Option Value} {H : Hp} {M : MS} {n : Str} : ∀ {fs : List (Str × D)} {kvs : List (Str × V)} {d : D}, RepP K mg H M fs kvs → getA fs n = some d → ∃ v, kvs.lookup n = some v ∧ Rep K mg H M d v ∧ n ∈ fs.map (·.1)
  | [], _, _, _, e => by cases e
  | (k, d') :: fs, _, d, ⟨v, r, ev, h, t⟩, e => by
    subst ev
    by_cases hk : k = n
    · subst hk
      have : getA ((k, d') :: fs) k = some d' := by simp [getA, List.find?_cons]
      rw [this] at e
      cases e
      exact ⟨v, by simp [List.lookup], h, .head _⟩
    · have e1 : getA ((k, d') :: fs) n = getA fs n := by simp [getA, List.find?_cons, hk]
      rw [e1] at e
      obtain ⟨u, h1, h2, h3⟩ := lookup_getA t e
      refine ⟨u, ?_, h2, .tail _ h3⟩
      have : (n == k) = false := by simpa using fun z => hk z.symm
      simp [List.lookup, this, h1]
theorem se_attr {o : Expr} {fo : Ev → W D} {n : Str} (ho : PE X o (rd X Wx fo)) (hb : attributeBase o n X.env (eval o X.env) = eval o X.env) : PE X (.Attribute o n pos) (rd X Wx fun env => W.bind (fo env) (attrW n)) := by
  refine ⟨fun pins s σ H Q I ⟨env, M, G, h⟩ => ?_⟩
  refine attr_of hb (thn (ho.run pins s σ H _ I ⟨env, M, G, rdB (R := RV X) G h⟩) ?_)
  rintro u s1 ⟨v, H1, I1, r1, d1, M1, f1, G1, rv, h1⟩
  cases d1 with
  | exc c fs =>
    obtain ⟨d, e, h2⟩ := opt_run (show (opt (getA fs n) fun d => W.pure d).run M1 (QG X (RV X) H1 M1 Q) (EE X H1 M1 Wx σ) from h1)
    obtain ⟨a, C, od, kvs, rfl, m, T, nf, hp, hd, rx⟩ := rv
    obtain ⟨w', e1, e2, e3⟩ := lookup_getA (RepX.iff.mp rx) e
    obtain rfl : u = Value.ref a := r1
    rcases hd with ⟨_, rfl⟩ | ⟨d', rfl, hd1, hd2⟩
    · cases e1
    · exact attr_x T (nf n e3) I1 hp.1 hd1 e1 (now G1.rel h2 e2) X.xe
  | _ => exact h1.elim
end
/-- try: body except x as e: y = e; slot i is e's, slot j is y's -/
def WS.tryK (x : Str) (i j : Nat) (body : WS) : WS := ⟨fun env M Q E => body.run env M Q (fun xv env' M' => if xv.cls.n = x then Q .nx (((env'.set i (some (.exc xv.cls xv.fs))).set j (some (.exc xv.cls xv.fs))).set i none) M' else E xv env' M'),
  fun h q e => body.mono h q fun xv env' M' z => by
    by_cases hc : xv.cls.n = x
    · rw [if_pos hc] at z ⊢; exact q _ _ _ z
    · rw [if_neg hc] at z ⊢; exact e _ _ _ z⟩
theorem exm_own {K : PySem.W.Frag} {C C' : Addr} {nm nm' : Str} {b b' : Xb} (T : XC K C nm b) (T' : XC K C' nm' b') (inj : nm = nm' → C = C') : PySem.W.exmOne K (.ref C) (.ref C') = some (decide (nm = nm')) := by
  have h := kit_own T T' inj
  unfold PySem.W.exmOne
  rw [if_pos (by rw [T'.exC]; rfl)]
  by_cases e : C = C'
  · have hn : nm = nm' := T.inj T' e
    subst e
    obtain ⟨cd, h1, _, _⟩ := T'.cd
    unfold PySem.W.kitCls
    simp only
    rw [if_pos (by rw [h1, T'.tyC]; rfl)]
    show PySem.W.mroIn K C (.ref C) = _
    rw [T.mro]
    simp [hn]
  · unfold PySem.W.kitOne at h
    rw [if_neg (by simpa using e)] at h
    exact h
theorem Good.unset {X : Cx} {env : Ev} {M : MS} {σ : L2.St} {H : Hp} (G : Good X env M σ H) (i : Nat) : Good X (env.set i none) M (σ.set i none) H := by
  refine ⟨by simp [G.len], fun j e h => ?_, G.rel⟩
  by_cases hj : i = j
  · subst hj
    by_cases hi : i < env.length
    · rw [List.getElem?_set_self hi] at h; cases h
    · rw [List.getElem?_eq_none (by simpa using hi)] at h; cases h
  · rw [List.getElem?_set_ne hj] at h
    obtain ⟨w, h1, h2⟩ := G.get j e h
    exact ⟨w, by rw [List.getElem?_set_ne hj]; exact h1, h2⟩
section
variable {X : Cx} {Wx : WX} {x n y : Str} {xi : XI} {i j : Nat} {body : List Stmt} {np py pn' pa pos pos' : Pos} {f : WS}
theorem ss_try (hs : X.stack = X.env :: X.outer) (hf : X.env.frame = some X.env.locals) (hex : X.ex = []) (hN : X.N.Nodup) (hi : X.N[i]? = some n) (hln : X.env.scope.names.lookup n = some .local) (hj : X.N[j]? = some y) (hly : X.env.scope.names.lookup y = some .local) (F : XOk X.prog X.w X.K X.mg x xi) (hgl : Gl X x)
    (hdb : (x == ("__debug__" : Str)) = false) (tk : Takes X Wx) (hn1 : (n == ("__debug__" : Str)) = false) (hn2 : (n == ("__classdict__" : Str)) = false)
    (hb : ∀ (W : WX) (pn : List (Addr × Obj)) (xe : Value → Shared → Prop), Takes (X.tr pn xe) W → PassesOwn (model X.prog X.w) X.A X.env xe → PSs (X.tr pn xe) body (rdS X W f)) :
    PS X (.Try body [.ExceptHandler (some (.Name x np)) (some n) [.Assign [.Name y py] (.Name n pn') pa] pos'] [] [] pos) (rdS X Wx (WS.tryK x i j f)) := by
  obtain ⟨C, fI, fd, hm, T, _⟩ := F
  refine PS.imp (ps_try_keep (c := .ref C) hs hf hex hN hi hln hj hly ⟨hgl, hdb, .inl hm⟩ tk hn1 hn2 hb) ?_
  rintro D σ H ⟨env, M, G, h⟩
  refine ⟨env, M, G, f.mono (show f.run env M (OE X H M D) (fun xv env' M' => if xv.cls.n = x then OE X H M D .nx (((env'.set i (some (.exc xv.cls xv.fs))).set j (some (.exc xv.cls xv.fs))).set i none) M' else ES X H M Wx xv env' M') from h) (fun _ _ _ z => z) ?_⟩
  intro xv env' M' z cls od σ' H' fr G' xr
  obtain ⟨C', m', rfl, T', nf, hod⟩ := id xr
  refine ⟨decide (xv.cls.n = x), exm_own T' T fun e => ?_, fun e a ha => ?_, fun e => ?_⟩
  · rw [e, hm] at m'
    cases m'
    rfl
  · rw [if_pos (of_decide_eq_true e)] at z
    have fr2 : Fr H' M' (upd H' a (exV (.ref C') od a)) M' := fr_upd ha
    have Rn : RelM X.K X.mg (upd H' a (exV (.ref C') od a)) M' := G'.rel.frz ha
    have rep : Rep X.K X.mg (upd H' a (exV (.ref C') od a)) M' (.exc xv.cls xv.fs) (.ref a) := by
      rcases hod with ⟨rfl, e0⟩ | ⟨d, kvs, rfl, hd, rp⟩
      · exact ⟨a, C', none, [], rfl, m', T', nf, ⟨upd_same, relM_free G'.rel ha⟩, .inl ⟨rfl, rfl⟩, by rw [e0]; rfl⟩
      · exact ⟨a, C', some d, kvs, rfl, m', T', nf, ⟨upd_same, relM_free G'.rel ha⟩, .inr ⟨d, rfl, (fr2 _ _ hd.1 hd.2)⟩, RepX.iff.mpr (rp.keep fr2)⟩
    have Gn := ((G'.step fr2 Rn).set (i := i) rep).set (i := j) rep
    exact z _ _ (fr.trans fr2) (Gn.unset i)
  · rw [if_neg (of_decide_eq_false e)] at z
    exact z _ _ σ' H' fr G' xr
end
end Mir

/-! MirK: calls with keywords, by trees. -/
namespace Mir
open PySem L2 PyProof.Rows
theorem PK.imp {X : Cx} {e : List Keyword} {t t' : TA} (h : PK X e t) (i : ∀ σ H Q, t' σ H Q → t σ H Q) : PK X e t' := ⟨fun p pins s σ H Q I q => h.run p pins s σ H Q I (i σ H Q q)⟩
section
variable {K : PySem.W.Frag} {mg : Str → Option Value} {H : Hp} {M : MS}
theorem gat_rep {ds es : List D} {vs zs : List V} (r1 : RepL K mg H M ds vs) (r2 : RepL K mg H M es zs) : ∀ ord : List Nat, RepL K mg H M (gat ord ds es) (gat ord vs zs)
  | [] => rfl
  | i :: r => by
    have h := gat_rep r1 r2 r
    have ra := r1.append r2
    unfold gat at h ⊢
    simp only [List.filterMap_cons]
    cases e : (ds ++ es)[i]? with
    | none =>
      have e2 : (vs ++ zs)[i]? = none := by
        rw [List.getElem?_eq_none_iff] at e ⊢
        rw [← ra.length]; exact e
      rw [e2]; exact h
    | some d =>
      obtain ⟨v, e2, rv⟩ := ra.get e
      rw [e2]
      exact ⟨v, _, rfl, rv, h⟩
theorem gat_up {α : Type} (a : α) (o : List Nat) (vs zs : List α) : gat (0 :: o.map (· + 1)) (a :: vs) zs = a :: gat o vs zs := by
  unfold gat
  simp only [List.filterMap_cons, List.filterMap_map, List.cons_append, List.getElem?_cons_zero]
  congr 1
end
section
variable {X : Cx} {Wx : WX} {e : Expr} {es : List Expr} {kws : List Keyword} {fe : Ev → W D} {fs ft : Ev → W (List D)} {pos p kpos : Pos} {x : Str} {k n : Nat} {f : Addr} {fd : FuncData} {ps : List Str} {g : List D → W D} {s : KwS}
theorem sk_nil : PK X [] (rdA X Wx fun _ => .pure []) := PK.imp pk_nil fun σ H Q ⟨env, M, G, h⟩ => nowA G.rel h rfl
theorem sk_cons {nm : Option Str} (he : PE X e (rd X Wx fe)) (hr : PK X kws (rdA X Wx fs)) : PK X (⟨nm, e, kpos⟩ :: kws) (rdA X Wx fun env => W.bind (fe env) fun x => W.bind (fs env) fun xs => .pure (x :: xs)) := by
  refine PK.imp (pk_cons he hr) ?_
  rintro σ H Q ⟨env, M, G, h⟩
  refine ⟨env, M, G, runQ (rdB (R := RV X) G h) ?_⟩
  rintro x H1 ⟨d1, M1, f1, G1, r1, h1⟩
  refine ⟨env, M1, G1, runQ (rdB (R := RL X) G1 h1) ?_⟩
  rintro xs H2 ⟨ds, M2, f2, G2, r2, h2⟩
  exact nowA G2.rel h2 ⟨x, xs, rfl, r1.keep f2, r2⟩
theorem run_fnGK {sp : Sp} {pins : List (Addr × Obj)} {σ : L2.St} {H : Hp} {sh : Shared} {Q : VK} {us ws : List Value} {vs zs : List V} (F : FnG X.prog X.w X.K X.mg X.base (CX X.prog X.w) k f fd ps sp) (hr : Room k X.A) (hgd : X.A.guards = some []) (hb : KBs X.K fd ps s.n s) (tk : Takes X Wx)
    (I : Inv X pins σ H sh) (r : Vals vs us) (rz : Vals zs ws) (l1 : vs.length = s.n) (l2 : zs.length = s.ks.length) (h : sp (gat s.ord vs zs) H Q (fun cls d H' => Wx cls d σ H')) : wpAny (model X.prog X.w) X.A (call (.ref f) us (s.ks.zip ws)) (EP X pins σ Q) X.xe sh := by
  refine wpAny_call (codeAny_mono (F.run X.A X.stack sh H ⟨us, s.ks.zip ws⟩ (gat s.ord us ws) (gat s.ord vs zs) Q _ hr hgd I.env0 (hb.to sh us ws I.kIn (r.length.symm.trans l1) (rz.length.symm.trans l2)) (hb.rel r rz) h) fun r s' hq => ?_)
  cases r with
  | error e => exact tk e s' (XE.of_call I (fun _ _ _ z => z) hq)
  | ok fl =>
    cases fl with
    | ret u => exact I.after hq
    | next => exact False.elim hq
    | brk => exact False.elim hq
    | cont => exact False.elim hq
/-- what is left where a def is called with keywords -/
def tCallS (s : KwS) (sp : Sp) (Wx : WX) (t tk : TA) : TE := fun σ H Q => t σ H fun vs H1 => tk σ H1 fun zs H2 => vs.length = s.n ∧ zs.length = s.ks.length ∧ sp (gat s.ord vs zs) H2 Q (fun cls d H' => Wx cls d σ H')
theorem pe_callGK {sp : Sp} {t t' : TA} (F : FnG X.prog X.w X.K X.mg X.base (CX X.prog X.w) k f fd ps sp) (hr : Room k X.A) (hgd : X.A.guards = some []) (hg : Gl X x) (hm : X.mg x = some (.ref f)) (hk : PySem.W.keepIn X.K (.ref f) = true) (hb : KBs X.K fd ps s.n s) (tk : Takes X Wx)
    (ha : PA X (e :: es) t) (hkw : PK X kws t') (hall : (backToKw pos (keywordEach kws X.env)).all (·.1.isSome) = true) (hks : (backToKw pos (keywordEach kws X.env)).filterMap (·.1) = s.ks) (hdb : (x == ("__debug__" : Str)) = false)
    (he : starEach (e :: es) X.env = (false, eval e X.env) :: starEach es X.env) (hpl : ((backTo pos (starEach (e :: es) X.env)).any (·.1) || (backToKw pos (keywordEach kws X.env)).any (·.1.isNone)) = false) :
    PE X (.Call (.Name x p) (e :: es) kws pos) (tCallS s sp Wx t t') := by
  refine ⟨fun pins sh σ H Q I h => ?_⟩
  refine wpAny_Call_Name_kw (ld_glob I hg hm ?_ hdb)
  refine PySem.W.callWith_KW (h₀ := X.base) I.ok.mod.kin hk hall (thn (ha.run pos pins sh σ H _ I h) fun us s1 ⟨vs, H1, I1, r, q⟩ => ?_) hpl he
  refine thn (hkw.run pos pins s1 σ H1 _ I1 q) fun ws s2 ⟨zs, H2, I2, rz, l1, l2, q2⟩ => ⟨I2.kIn, ?_⟩
  rw [hks]
  exact run_fnGK F hr hgd hb tk I2 r rz l1 l2 q2
theorem pe_callGK0 {sp : Sp} {t' : TA} (F : FnG X.prog X.w X.K X.mg X.base (CX X.prog X.w) k f fd ps sp) (hr : Room k X.A) (hgd : X.A.guards = some []) (hg : Gl X x) (hm : X.mg x = some (.ref f)) (hk : PySem.W.keepIn X.K (.ref f) = true) (hb : KBs X.K fd ps s.n s) (tk : Takes X Wx)
    (hkw : PK X kws t') (hall : (backToKw pos (keywordEach kws X.env)).all (·.1.isSome) = true) (hks : (backToKw pos (keywordEach kws X.env)).filterMap (·.1) = s.ks) (hdb : (x == ("__debug__" : Str)) = false)
    (hpl : ((backTo pos (starEach [] X.env)).any (·.1) || (backToKw pos (keywordEach kws X.env)).any (·.1.isNone)) = false) :
    PE X (.Call (.Name x p) [] kws pos) (tCallS s sp Wx tNil t') := by
  refine ⟨fun pins sh σ H Q I h => ?_⟩
  refine wpAny_Call_Name_kw (ld_glob I hg hm ?_ hdb)
  refine PySem.W.callWith_KW0 (h₀ := X.base) I.ok.mod.kin hk hall ?_ hpl
  refine thn (hkw.run pos pins sh σ H _ I h) fun ws s2 ⟨zs, H2, I2, rz, l1, l2, q2⟩ => ⟨I2.kIn, ?_⟩
  rw [hks]
  exact run_fnGK (us := []) (vs := []) F hr hgd hb tk I2 .nil rz l1 l2 q2
/-- a call's values, in the parameters' order -/
def kwW (s : KwS) (n : Nat) (g : List D → W D) (fs ft : Ev → W (List D)) (env : Ev) : W D :=
  W.bind (fs env) fun ds => W.bind (ft env) fun es => if ds.length = s.n ∧ es.length = s.ks.length ∧ (gat s.ord ds es).length = n then g (gat s.ord ds es) else .fail
theorem kw_read (σ : L2.St) (H : Hp) (Q : VK) (h : rd X Wx (kwW s n g fs ft) σ H Q) : tCallS s (spOf X.K X.mg n g) Wx (rdA X Wx fs) (rdA X Wx ft) σ H Q := by
  obtain ⟨env, M, G, h⟩ := h
  refine ⟨env, M, G, runQ (rdB (R := RL X) G h) ?_⟩
  rintro vs H1 ⟨ds, M1, f1, G1, r1, h1⟩
  refine ⟨env, M1, G1, runQ (rdB (R := RL X) G1 h1) ?_⟩
  rintro zs H2 ⟨es, M2, f2, G2, r2, h2⟩
  by_cases hn : ds.length = s.n ∧ es.length = s.ks.length ∧ (gat s.ord ds es).length = n
  · replace h2 : (if ds.length = s.n ∧ es.length = s.ks.length ∧ (gat s.ord ds es).length = n then g (gat s.ord ds es) else W.fail).run M2 _ _ := h2
    rw [if_pos hn] at h2
    exact ⟨r1.length.symm.trans hn.1, r2.length.symm.trans hn.2.1, gat s.ord ds es, M2, hn.2.2, G2.rel, gat_rep (r1.keep f2) r2 _, h2⟩
  · replace h2 : (if ds.length = s.n ∧ es.length = s.ks.length ∧ (gat s.ord ds es).length = n then g (gat s.ord ds es) else W.fail).run M2 _ _ := h2
    rw [if_neg hn] at h2
    exact h2.elim
theorem se_callK (F : FnG X.prog X.w X.K X.mg X.base (CX X.prog X.w) k f fd ps (spOf X.K X.mg n g)) (hr : Room k X.A) (hgd : X.A.guards = some []) (hg : Gl X x) (hm : X.mg x = some (.ref f)) (hk : PySem.W.keepIn X.K (.ref f) = true) (hb : KBs X.K fd ps s.n s) (tk : Takes X Wx)
    (ha : PA X (e :: es) (rdA X Wx fs)) (hkw : PK X kws (rdA X Wx ft)) (hall : (backToKw pos (keywordEach kws X.env)).all (·.1.isSome) = true) (hks : (backToKw pos (keywordEach kws X.env)).filterMap (·.1) = s.ks) (hdb : (x == ("__debug__" : Str)) = false)
    (he : starEach (e :: es) X.env = (false, eval e X.env) :: starEach es X.env) (hpl : ((backTo pos (starEach (e :: es) X.env)).any (·.1) || (backToKw pos (keywordEach kws X.env)).any (·.1.isNone)) = false) :
    PE X (.Call (.Name x p) (e :: es) kws pos) (rd X Wx (kwW s n g fs ft)) := PE.imp (pe_callGK F hr hgd hg hm hk hb tk ha hkw hall hks hdb he hpl) kw_read
theorem se_callK0 (F : FnG X.prog X.w X.K X.mg X.base (CX X.prog X.w) k f fd ps (spOf X.K X.mg n g)) (hr : Room k X.A) (hgd : X.A.guards = some []) (hg : Gl X x) (hm : X.mg x = some (.ref f)) (hk : PySem.W.keepIn X.K (.ref f) = true) (hb : KBs X.K fd ps s.n s) (tk : Takes X Wx)
    (hkw : PK X kws (rdA X Wx ft)) (hall : (backToKw pos (keywordEach kws X.env)).all (·.1.isSome) = true) (hks : (backToKw pos (keywordEach kws X.env)).filterMap (·.1) = s.ks) (hdb : (x == ("__debug__" : Str)) = false)
    (hpl : ((backTo pos (starEach [] X.env)).any (·.1) || (backToKw pos (keywordEach kws X.env)).any (·.1.isNone)) = false) :
    PE X (.Call (.Name x p) [] kws pos) (rd X Wx (kwW s n g (fun _ => .pure []) ft)) := PE.imp (pe_callGK0 F hr hgd hg hm hk hb tk hkw hall hks hdb hpl) fun σ H Q h => by
  obtain ⟨env, M, G, h'⟩ := kw_read (X := X) (Wx := Wx) σ H Q h
  exact h' [] H (Fr.refl H M) G.rel rfl
/-- an own exception class called with keywords -/
theorem mk_readK {xi : XI} (F : XOk X.prog X.w X.K X.mg x xi) (hg : MkG x xi g) {σ : L2.St} {H : Hp} {Q : XK} (h : ∃ env M, Good X env M σ H ∧ (kwW s (xi.N.length - 1) g fs ft env).run M
      (fun d M' => ∀ c fs', d = .exc c fs' → ∀ cls od H', Fr H M H' M' → RelM X.K X.mg H' M' → XRep X H' M' ⟨c, fs'⟩ cls od → Q cls od H') (EE X H M Wx σ)) {C : Addr} (hC : X.mg x = some (.ref C)) (h0 : 1 ≤ xi.N.length) (h1 : s.n ≤ 1000) :
    tMkK C xi.N xi.N.length xi.fl s.up (rdA X Wx fs) (rdA X Wx ft) σ H Q := by
  obtain ⟨env, M, G, h⟩ := h
  obtain ⟨C', fI, fd, hm, T, _, _, _, hno, hix, hN, _, _⟩ := F
  rw [hC] at hm
  cases hm
  refine ⟨env, M, G, (fs env).mono (show (fs env).run M (fun ds M' => (W.bind (ft env) fun es => if ds.length = s.n ∧ es.length = s.ks.length ∧ (gat s.ord ds es).length = xi.N.length - 1 then g (gat s.ord ds es) else W.fail).run M' _ _) _ from h) ?_ fun _ _ z => z⟩
  intro ds M1 q vs H1 f1 R1 r1
  refine ⟨env, M1, G.step f1 R1, (ft env).mono (show (ft env).run M1 (fun es M' => (if ds.length = s.n ∧ es.length = s.ks.length ∧ (gat s.ord ds es).length = xi.N.length - 1 then g (gat s.ord ds es) else W.fail).run M' _ _) _ from q) ?_ fun _ _ z => EE.up f1 z⟩
  intro es M2 q zs H2 f2 R2 r2
  by_cases hn : ds.length = s.n ∧ es.length = s.ks.length ∧ (gat s.ord ds es).length = xi.N.length - 1
  · replace q : (if ds.length = s.n ∧ es.length = s.ks.length ∧ (gat s.ord ds es).length = xi.N.length - 1 then g (gat s.ord ds es) else W.fail).run M2 _ _ := q
    rw [if_pos hn] at q
    have q := hg _ _ _ _ q _ _ rfl
    have rg := gat_rep (r1.keep f2) r2 s.ord
    have names : ∀ f ∈ (fvD (gat s.ord ds es) xi.fl []).map (·.1), PySem.W.findIn X.K (.ref C) f = some none := fun f hf => by
      rcases fvD_names hf with h | h
      · obtain ⟨p, hp, rfl⟩ := List.mem_map.mp h
        exact hno p hp
      · cases h
    refine ⟨by rw [← r1.length]; exact hn.1, by rw [← r2.length]; exact hn.2.1, by rw [← r1.length]; omega, gat s.ord vs zs, fun a => gat_up _ _ _ _, by rw [← rg.length]; omega, fun e => ?_, fun e d a hd ha hda => ?_⟩
    · refine q _ _ H2 (f1.trans f2) R2 ⟨C, hC, rfl, T, names, .inl ⟨rfl, fvD_nil e⟩⟩
    · have fr : Fr H2 M2 (upd H2 d (.xd (fvV (L2.start xi.N (.ref a :: gat s.ord vs zs)) xi.fl []))) M2 := fr_upd hd
      refine q _ _ _ ((f1.trans f2).trans fr) (R2.frz hd) ⟨C, hC, rfl, T, names, .inr ⟨d, _, rfl, ⟨upd_same, relM_free R2 hd⟩, ?_⟩⟩
      exact (fv_rep (acc := []) (av := []) rg (fun p hp => by have := hix p hp; omega) rfl).keep fr
  · replace q : (if ds.length = s.n ∧ es.length = s.ks.length ∧ (gat s.ord ds es).length = xi.N.length - 1 then g (gat s.ord ds es) else W.fail).run M2 _ _ := q
    rw [if_neg hn] at q
    exact q.elim
theorem se_excK {xi : XI} (F : XOk X.prog X.w X.K X.mg x xi) (hg : MkG x xi g) (hs : s ∈ xi.kws) (h0 : 1 ≤ xi.N.length) (h1 : s.n ≤ 1000) (hr : Room 2 X.A) (hgl : Gl X x) (hdb : (x == ("__debug__" : Str)) = false) (ha : PA X (e :: es) (rdA X Wx fs)) (hkw : PK X kws (rdA X Wx ft))
    (hall : (backToKw pos (keywordEach kws X.env)).all (·.1.isSome) = true) (hks : (backToKw pos (keywordEach kws X.env)).filterMap (·.1) = s.ks) (he : starEach (e :: es) X.env = (false, eval e X.env) :: starEach es X.env)
    (hpl : ((backTo pos (starEach (e :: es) X.env)).any (·.1) || (backToKw pos (keywordEach kws X.env)).any (·.1.isNone)) = false) : PE X (.Call (.Name x p) (e :: es) kws pos) (rd X Wx (kwW s (xi.N.length - 1) g fs ft)) := by
  obtain ⟨C, fI, fd, hm, T, iC, tI, hb, _, _, _, hk, F1⟩ := id F
  refine PE.imp (pe_of_mk (pmk_xK (ks := s.up) T iC tI (F1 X.base) hr (hk s hs) hgl hm hdb ha hkw hall hks he hpl)) ?_
  rintro σ H Q ⟨env, M, G, h⟩
  refine mk_readK F hg ⟨env, M, G, W.mono _ h ?_ fun _ _ z => z⟩ hm h0 h1
  rintro d M' q c fs' rfl cls od H' f' R' xr a ha'
  exact exc_val q f' R' xr ha'
theorem se_excK0 {xi : XI} (F : XOk X.prog X.w X.K X.mg x xi) (hg : MkG x xi g) (hs : s ∈ xi.kws) (h0 : 1 ≤ xi.N.length) (h1 : s.n ≤ 1000) (hr : Room 2 X.A) (hgl : Gl X x) (hdb : (x == ("__debug__" : Str)) = false) (hkw : PK X kws (rdA X Wx ft))
    (hall : (backToKw pos (keywordEach kws X.env)).all (·.1.isSome) = true) (hks : (backToKw pos (keywordEach kws X.env)).filterMap (·.1) = s.ks)
    (hpl : ((backTo pos (starEach [] X.env)).any (·.1) || (backToKw pos (keywordEach kws X.env)).any (·.1.isNone)) = false) : PE X (.Call (.Name x p) [] kws pos) (rd X Wx (kwW s (xi.N.length - 1) g (fun _ => .pure []) ft)) := by
  obtain ⟨C, fI, fd, hm, T, iC, tI, hb, _, _, _, hk, F1⟩ := id F
  refine PE.imp (pe_of_mk (pmk_xK0 (ks := s.up) T iC tI (F1 X.base) hr (hk s hs) hgl hm hdb hkw hall hks hpl)) ?_
  rintro σ H Q ⟨env, M, G, h⟩
  obtain ⟨env', M', G', h'⟩ := mk_readK (fs := fun _ => .pure []) (Q := fun cls d H' => ∀ a, H' a = none → Q (.ref a) (upd H' a (exV cls d a))) F hg ⟨env, M, G, W.mono _ h (by
    rintro d M' q c fs' rfl cls od H' f' R' xr a ha'
    exact exc_val q f' R' xr ha') fun _ _ z => z⟩ hm h0 h1
  exact h' [] H (Fr.refl H M') G'.rel rfl
end
end Mir

/-! MirR: e[::-1]. -/
namespace Mir
open PySem L2 PyProof.Rows
/-- -1 as it is written -/
def isM1 : Expr → Bool
  | .UnaryOp .USub (.Constant (.int i) _ _) _ => decide (i = 1)
  | _ => false
theorem isM1_ok {e : Expr} (h : isM1 e = true) : ∃ k p1 p2, e = .UnaryOp .USub (.Constant (.int 1) k p1) p2 := by
  unfold isM1 at h
  split at h
  · rename_i i k p1 p2
    exact ⟨k, p1, p2, by rw [of_decide_eq_true h]⟩
  · cases h
def revS (z : Str) : Str := ⟨z.cps.toList.reverse.toArray⟩
def revW (lv : Bool) (x : D) : W D := match x with
  | .str z => .need (z.length ≤ sizeLine) (.pure (.str (revS z)))
  | .tup _ => .fail
  | x => .get fun M => opt (seqOf M x) fun l => mkL0 lv l.reverse
def rRev (K : PySem.W.Frag) : V → Hp → VK → Prop := fun x H Q => (∃ z : Str, x = .str z ∧ z.length ≤ sizeLine ∧ Q (.str (revS z)) H) ∨ ∃ a xs, x = .ref a ∧ SqL K H a xs ∧ ∀ p, H p = none → Q (.ref p) (upd H p (.lst xs.reverse))
theorem revS_len (z : Str) : (revS z).length = z.length := by
  show z.cps.toList.reverse.toArray.size = z.cps.size
  simp
theorem rev_pick (z : Str) : (⟨((Builtin.Str.strSliceIndices none none (-1) z.length).filterMap (z.cps[·]?)).toArray⟩ : Str) = revS z := by
  unfold revS
  congr 2
  refine List.ext_getElem? fun i => ?_
  have e : (Builtin.Str.strSliceIndices none none (-1) z.length).filterMap (z.cps[·]?) = (List.range z.length).map fun k => z.cps.getD (z.length - 1 - k) 0 := PyProof.Rows.step_rev_list z 0
  rw [e]
  by_cases h : i < z.length
  · have h' : i < z.cps.toList.length := h
    rw [List.getElem?_reverse h', List.getElem?_map, List.getElem?_range h]
    have lt : z.cps.toList.length - 1 - i < z.cps.toList.length := by omega
    rw [List.getElem?_eq_getElem lt]
    simp only [Option.map_some]
    have lt' : z.length - 1 - i < z.cps.size := lt
    rw [Array.getD_eq_getD_getElem?, Array.getElem?_eq_getElem lt']
    rfl
  · rw [List.getElem?_eq_none (by simpa using h), List.getElem?_eq_none (by rw [List.length_reverse]; exact Nat.le_of_not_lt h)]
section
variable {X : Cx} {Wx : WX}
theorem pe_rev {e : Expr} {te : TE} {k : Nat} {p1 p2 p3 pos : Pos} (he : PE X e te) : PE X (.Subscript e (.Slice none none (some (.UnaryOp .USub (.Constant (.int 1) k p1) p2)) p3) pos) (fun σ H Q => te σ H fun x H1 => rRev X.K x H1 Q) := by
  refine ⟨fun pins s σ H Q I h => Subscript_ (thn (he.run pins s σ H _ I h) fun v s1 ⟨x, H1, I1, r1, q1⟩ => ?_)⟩
  have st : PO X (some (.UnaryOp .USub (.Constant (.int 1) k p1) p2)) (tPart (tUn (rU fun i => .int (-i)) (tC (.int 1)))) := po_some (pe_un un_neg pe_int)
  refine wpAny_Slice (thn (po_none.run pins s1 σ H1 (fun o H2 => o = none ∧ H2 = H1) I1 ⟨rfl, rfl⟩) fun vl s2 ⟨l, H2, I2, pl, el, e2⟩ => ?_)
  subst el e2
  refine thn (po_none.run pins s2 σ H2 (fun o H3 => o = none ∧ H3 = H2) I2 ⟨rfl, rfl⟩) fun vu s3 ⟨u, H3, I3, pu, eu, e3⟩ => ?_
  subst eu e3
  refine thn (st.run pins s3 σ H3 (fun o H4 => o = some (-1) ∧ H4 = H3) I3 ⟨1, rfl, -1, rfl, rfl, rfl⟩) fun vs s4 ⟨o, H4, I4, ps, eo, e4⟩ => ?_
  subst eo e4
  have J : Inv X pins σ H4 { s4 with heap := s4.heap.push { cls := .type "slice", data := .fields #[vl, vu, vs] } } := I4.kept (t' := s4.toks) fun b ob q => Heap.get?_push_of_some _ q
  show wpAny (model X.prog X.w) X.A (subscriptTail e (.Slice none none (some (.UnaryOp .USub (.Constant (.int 1) k p1) p2)) p3) v (.ref s4.heap.objs.size)) (EP X pins σ Q) X.xe { s4 with heap := s4.heap.push { cls := .type "slice", data := .fields #[vl, vu, vs] } }
  rcases q1 with ⟨z, rfl, hz, q⟩ | ⟨a, xs, rfl, hx, q⟩
  · obtain ⟨t, rfl⟩ := r1
    obtain ⟨l, el, e1⟩ := IsPart.raw pl
    obtain ⟨u, eu, e2⟩ := IsPart.raw pu
    obtain ⟨w, ew, e3⟩ := IsPart.raw ps
    subst el eu ew
    have lN : l = none := by cases l with
      | none => rfl
      | some _ => cases e1
    have uN : u = none := by cases u with
      | none => rfl
      | some _ => cases e2
    obtain ⟨wt, rfl⟩ : ∃ wt, w = some (-1, wt) := by
      cases w with
      | none => cases e3
      | some y => obtain ⟨y1, y2⟩ := y; simp only [Option.map_some, Option.some.injEq] at e3; exact ⟨y2, by rw [e3]⟩
    subst lN uN
    refine tail_any (ops := [.str z t, .ref s4.heap.objs.size]) (typeIs_str _ z t) F.slot_str_getitem.lookup ?_ (by with_unfolding_all rfl)
    refine wpAny_getItem_str_slice (l := none) (u := none) (st := some (-1, wt)) ⟨_, Heap.get?_push_size _ rfl, rfl, rfl⟩ rfl ?_
    show (Made.str ⟨((Builtin.Str.strSliceIndices none none (-1) z.length).filterMap (z.cps[·]?)).toArray⟩).post (EP X pins σ Q) _
    rw [rev_pick]
    exact ⟨by rw [revS_len]; exact hz, .str (revS z), H4, J.tok _, ⟨_, rfl⟩, q⟩
  · cases r1
    obtain ⟨its, r, ht, hz⟩ := J.list hx
    have ln := r.length
    refine tail_any (ops := [.ref a, .ref s4.heap.objs.size]) ht.isList.typeIs (PySem.slot_list_getitem.lookup) ?_ (by with_unfolding_all rfl)
    refine wpAny_getItem_list_slice ht.isList (Heap.IsSliceOf.new _ vl vu vs) pl pu ps (by decide) ?_ (by rw [List.size_toArray]; omega)
    rw [PySem.W.krv_pick]
    exact ⟨.ref _, _, J.laid (t' := s4.toks) (o := .lst xs.reverse) (fun b ob q => Heap.get?_push_of_some _ q) (Nat.le_refl _) ⟨by rw [List.length_reverse]; exact hz, _, 0, r.reverse, Heap.get?_push_size _ rfl⟩, rfl, q _ (J.hok.fresh (Nat.le_refl _))⟩
/-- e[::-1] by trees -/
theorem se_rev {e : Expr} {fe : Ev → W D} {lv : Bool} {k : Nat} {p1 p2 p3 pos : Pos} (he : PE X e (rd X Wx fe)) : PE X (.Subscript e (.Slice none none (some (.UnaryOp .USub (.Constant (.int 1) k p1) p2)) p3) pos) (rd X Wx fun env => W.bind (fe env) (revW lv)) := by
  refine PE.imp (pe_rev he) ?_
  rintro σ H Q ⟨env, M, G, h⟩
  refine ⟨env, M, G, runQ (rdB (R := RV X) G h) ?_⟩
  rintro x H1 ⟨d, M1, f1, G1, r1, h1⟩
  have R1 := G1.rel
  cases d with
  | str z => cases r1; exact .inl ⟨z, rfl, h1.1, now R1 h1.2 rfl⟩
  | lst l =>
    obtain ⟨l', e, h⟩ := opt_run (show (opt (seqOf M1 (.lst l)) fun l => mkL0 lv l.reverse).run M1 _ _ from h1)
    obtain ⟨p, vs, rfl, hs, rl⟩ := r1
    cases e
    exact .inr ⟨p, vs, rfl, .of hs.1, mkL0_ok R1 rl.reverse h⟩
  | scr l =>
    obtain ⟨l', e, h⟩ := opt_run (show (opt (seqOf M1 (.scr l)) fun l => mkL0 lv l.reverse).run M1 _ _ from h1)
    obtain ⟨p, vs, rfl, hs, rl⟩ := r1
    cases e
    exact .inr ⟨p, vs, rfl, sqL_of hs, mkL0_ok R1 rl.reverse h⟩
  | ref a =>
    obtain ⟨l', e, h⟩ := opt_run (show (opt (seqOf M1 (.ref a)) fun l => mkL0 lv l.reverse).run M1 _ _ from h1)
    obtain ⟨p, vs, rfl, hs, rl⟩ := lstOf_ok R1 (show lstOf M1 (.ref a) = some l' from e) r1
    exact .inr ⟨p, vs, rfl, .of hs, mkL0_ok R1 rl.reverse h⟩
  | _ => exact h1.elim
end
end Mir

/-! Mir12: the evaluator, and that it is sound. -/
namespace Mir
open PySem L2 PyProof.Rows

inductive Bi where
  | len | abs | min | max | isinstance | all | any | list | tuple | str | int | repr
  deriving DecidableEq
def Bi.name : Bi → Str
  | .len => "len" | .abs => "abs" | .min => "min" | .max => "max" | .isinstance => "isinstance" | .all => "all" | .any => "any" | .list => "list" | .tuple => "tuple" | .str => "str" | .int => "int" | .repr => "repr"
def Bi.run (lv : Bool) : Bi → List D → W D
  | .len => arg1 lenW | .abs => arg1 absW | .min => arg2 minW | .max => arg2 maxW | .isinstance => arg2 isiW | .all => arg1 allW | .any => arg1 anyW
  | .list => arg1 (listW lv) | .tuple => arg1 tupleW | .str => arg1 strW | .int => arg1 intW | .repr => arg1 reprW
def Bi.all' : List Bi := [.len, .abs, .min, .max, .isinstance, .all, .any, .list, .tuple, .str, .int, .repr]
def biOf (x : Str) : Option Bi := Bi.all'.find? fun b => decide (b.name = x)
def tyOf (x : Str) : Option Ty := [Ty.int, .bool, .str, .tuple, .list, .dict].find? fun t => decide (Str.ofString t.name = x)
def mthOf (x : Str) : Option Mth := [Mth.append, .join, .pop].find? fun m => decide (m.name = x)
/-- a module's name: a constant, a def of so many parameters -/
inductive Gv where
  | val (d : D) | fn (n : Nat) (kws : List KwS) | exc (xi : XI)
/-- the names of keywords, where all have one -/
def kwNs : List Keyword → Option (List Str)
  | [] => some []
  | ⟨some k, _, _⟩ :: r => (kwNs r).map (k :: ·)
  | ⟨none, _, _⟩ :: _ => none
def shOf (l : List KwS) (n : Nat) (ks : List Str) : Option KwS := l.find? fun s => decide (s.n = n) && decide (s.ks = ks) && decide (n ≤ 1000)
def xbOf (x : Str) : Option Xb := [Xb.val, .index, .lookup, .run, .arith, .over, .key].find? fun b => decide (Str.ofString b.nm = x)
structure Ctx where
  N : List Str
  sc : Scope
  sto : Str → Bool
  lv : Pos → Bool
  glb : Str → Option Gv
  call : Str → List D → W D
def slotOf : List Str → Str → Option Nat
  | [], _ => none
  | y :: r, x => if y = x then some 0 else (slotOf r x).map (· + 1)
theorem slotOf_ok : ∀ {N : List Str} {x : Str} {i : Nat}, slotOf N x = some i → N[i]? = some x
  | [], _, _, e => by cases e
  | y :: r, x, i, e => by
    simp only [slotOf] at e
    by_cases h : y = x
    · rw [if_pos h] at e; cases e; simp [h]
    · rw [if_neg h] at e
      obtain ⟨j, hj, rfl⟩ := Option.map_eq_some_iff.mp e
      simpa using slotOf_ok hj
def okName (x : Str) : Bool := (x == ("__debug__" : Str)) == false && (x == ("__classdict__" : Str)) == false && decide (x ≠ "__name__")
def isVis (sc : Scope) (x : Str) : Bool := match sc.names.lookup x with
  | some .local => true | some .cell => true | some .free => true | _ => false
def isGlo (sc : Scope) (x : Str) : Bool := match sc.names.lookup x with
  | some .globalImplicit => true | _ => false
def constW : Const → W D
  | .none => .pure .non
  | .bool b => .pure (.bl b)
  | .int i => .pure (.int i)
  | .str s => .pure (.str s)
  | _ => .fail
def nameW (c : Ctx) (x : Str) (env : Ev) : W D := if okName x then
    (if isVis c.sc x then match slotOf c.N x with
      | some i => varW i env
      | none => .fail
    else if isGlo c.sc x then match c.glb x with
      | some (.val d) => .pure d
      | some (.fn _ _) => .pure (.glo x)
      | some (.exc xi) => .pure (.cls ⟨x, xi.b⟩)
      | none => match tyOf x with
        | some t => .pure (.ty t)
        | none => match xbOf x with
          | some b => .pure (.xty b)
          | none => .fail
    else .fail)
  else .fail
def binW (op : Operator) (lv : Bool) : D → D → W D := match op with
  | .Add => addW lv | .Sub => subW | .Mult => mulW lv | .FloorDiv => fdivW | .Mod => modW | .Pow => powW | _ => fun _ _ => .fail
def cmpOpW (op : CmpOp) : D → D → W D := match op with
  | .Eq => eqW false | .NotEq => eqW true | .Is => isNW false | .IsNot => isNW true | .In => inW false | .NotIn => inW true | .Lt => cmpW .Lt | .LtE => cmpW .LtE | .Gt => cmpW .Gt | .GtE => cmpW .GtE
def boolW (op : BoolOp) (env : Ev) : List (Ev → W D) → W D
  | [] => .fail
  | [f] => f env
  | f :: r => W.bind (f env) fun x => W.bind (truW x) fun t => match op with
    | .Or => if t then .pure x else boolW op env r
    | .And => if t then boolW op env r else .pure x
def boolT (op : BoolOp) (env : Ev) : List (Ev → W Bool) → W Bool
  | [] => .fail
  | [f] => f env
  | f :: r => W.bind (f env) fun t => match op with
    | .Or => if t then .pure true else boolT op env r
    | .And => if t then boolT op env r else .pure false
def argsW (env : Ev) : List (Ev → W D) → W (List D)
  | [] => .pure []
  | f :: r => W.bind (f env) fun x => W.bind (argsW env r) fun xs => .pure (x :: xs)
def notStar : Expr → Bool
  | .Starred _ _ => false
  | _ => true
def plainArgs (es : List Expr) : Bool := es.all notStar && decide (es.length < 29)
def notSet : Expr → Bool
  | .Set _ _ _ => false
  | _ => true
def notSlice : Expr → Bool
  | .Slice _ _ _ _ => false
  | _ => true
def plainBase : Expr → Bool
  | .Call (.Name id _) [] [] _ => id != "super"
  | _ => true
def negW : D → W D
  | .int i => .pure (.int (-i))
  | _ => .fail
def Ctx.blk (c : Ctx) (scope : Scope) : Ctx := { c with sc := relS scope c.sc, sto := fun x => scope.names.lookup x == some .cell }
/-- the own names of a comprehension's block, with their slots -/
def ownOf (N : List Str) (scope : Scope) : List (Str × Nat) := scope.names.filterMap fun y => match y.2 with
  | .local => (slotOf N y.1).map (y.1, ·)
  | .cell => (slotOf N y.1).map (y.1, ·)
  | _ => none
def isLoc (c : Ctx) (x : Str) : Bool := match c.sc.names.lookup x with
  | some .local => true
  | some .cell => c.sto x
  | _ => false
def inTs (ts : Option (List Nat)) (i : Nat) : Bool := match ts with
  | none => true
  | some l => l.contains i
def fpsOf (ev : Expr → Ev → W D) : List (Option Expr) → List Expr → Option (List ((Ev → W D) × (Ev → W D)))
  | [], [] => some []
  | some k :: ks, v :: vs => (fpsOf ev ks vs).map ((ev k, ev v) :: ·)
  | _, _ => none
def assignW (fs : List (D → Ev → W Ev)) (l : List D) (env : Ev) : W Ev := match fs, l with
  | [], [] => .pure env
  | f :: fr, d :: r => W.bind (f d env) fun env' => assignW fr r env'
  | _, _ => .fail
def tupG (fs : List (D → Ev → W Ev)) (d : D) (env : Ev) : W Ev := match d with
  | .tup l => if l.length = fs.length then assignW fs l env else .fail
  | .lst l => if l.length = fs.length then assignW fs l env else .fail
  | _ => .fail
mutual
def evE (c : Ctx) : Nat → Expr → Ev → W D
  | 0, _, _ => .fail
  | n + 1, e, env => match e with
    | .Constant k _ _ => constW k
    | .Name x _ => nameW c x env
    | .BinOp a op b pos => W.bind (evE c n a env) fun x => W.bind (evE c n b env) fun y => binW op (c.lv pos) x y
    | .UnaryOp .Not a _ => W.bind (evE c n a env) fun x => W.bind (truW x) fun b => .pure (.bl (!b))
    | .UnaryOp .USub a _ => W.bind (evE c n a env) negW
    | .BoolOp op vs _ => boolW op env (vs.map (evE c n))
    | .Compare a [op] [b] _ => if notSet b then W.bind (evE c n a env) fun x => W.bind (evE c n b env) fun y => cmpOpW op x y else .fail
    | .Compare a [op, op'] [b, d] _ => if notSet b && notSet d then W.bind (evE c n a env) fun x => W.bind (evE c n b env) fun y => W.bind (cmpOpW op x y) fun z => W.bind (blW z) fun t =>
        if t then W.bind (evE c n d env) fun u => cmpOpW op' y u else .pure (.bl false) else .fail
    | .IfExp t a b _ => W.bind (evT c n t env) fun z => if z then evE c n a env else evE c n b env
    | .List es pos => if es.all notStar then W.bind (argsW env (es.map (evE c n))) (mkL (c.lv pos)) else .fail
    | .Tuple es _ _ => if es.all notStar then W.bind (argsW env (es.map (evE c n))) mkT else .fail
    | .Dict [] [] pos => mkD (c.lv pos) []
    | .Dict keys vals pos => if keys.length ≤ 15 then match fpsOf (evE c n) keys vals with
        | some fps => dispW (c.lv pos) fps env
        | none => .fail
      else .fail
    | .Subscript a (.Slice lo hi none _) pos => W.bind (evE c n a env) fun x => W.bind (partW (lo.map (evE c n)) env) fun l => W.bind (partW (hi.map (evE c n)) env) fun h => slW (c.lv pos) x l h
    | .Subscript a (.Slice none none (some st) _) pos => if isM1 st then W.bind (evE c n a env) (revW (c.lv pos)) else .fail
    | .Subscript a b _ => if notSlice b then W.bind (evE c n a env) fun x => W.bind (evE c n b env) fun y => idxW x y else .fail
    | .Call (.Name x _) args [] pos => if okName x && isGlo c.sc x && plainArgs args then match c.glb x with
        | some (.fn m _) => match args with
          | [] => if m = 0 then c.call x [] else .fail
          | _ => W.bind (argsW env (args.map (evE c n))) fun ds => if ds.length = m then c.call x ds else .fail
        | some (.exc xi) => match args with
          | [] => if 1 = xi.N.length then c.call x [] else .fail
          | _ => W.bind (argsW env (args.map (evE c n))) fun ds => if ds.length + 1 = xi.N.length then c.call x ds else .fail
        | some (.val _) => .fail
        | none => match biOf x, args with
          | some b, _ :: _ => W.bind (argsW env (args.map (evE c n))) (b.run (c.lv pos))
          | _, _ => .fail
      else .fail
    | .Call (.Name x _) args kws pos => if okName x && isGlo c.sc x && plainArgs args then match kwNs kws with
        | some ks => match c.glb x with
          | some (.fn m sh) => match shOf sh args.length ks with
            | some s => kwW s m (c.call x) (fun env => argsW env (args.map (evE c n))) (fun env => argsW env (kws.map fun q => evE c n q.value)) env
            | none => .fail
          | some (.exc xi) => match shOf xi.kws args.length ks with
            | some s => if 1 ≤ xi.N.length then kwW s (xi.N.length - 1) (c.call x) (fun env => argsW env (args.map (evE c n))) (fun env => argsW env (kws.map fun q => evE c n q.value)) env else .fail
            | none => .fail
          | _ => .fail
        | none => .fail
      else .fail
    | .Call (.Attribute o name apos) args [] pos => if plainBase o && plainArgs args && (apos.endLine == pos.line) then match mthOf name with
        | some m => W.bind (evE c n o env) fun x => recvW m x fun T => match args with
          | [] => methW m T x []
          | _ => W.bind (argsW env (args.map (evE c n))) fun ds => methW m T x ds
        | none => .fail
      else .fail
    | .Attribute o name _ => if plainBase o then W.bind (evE c n o env) (attrW name) else .fail
    | .ListComp elt [⟨tg, iter, ifs, is⟩] scope pos => if blkC c.N c.sc scope (ownOf c.N scope) && decide (is = 0) && notSet iter then
        W.bind (evI c n iter env) fun b => compW (c.lv pos) b (bodyC (evG (c.blk scope) n (some ((ownOf c.N scope).map (·.2))) tg) (match ifs with
          | [] => fun _ => .pure true
          | [t] => evT (c.blk scope) n t
          | _ => fun _ => .fail) (evE (c.blk scope) n elt) (wipeE env ((ownOf c.N scope).map (·.2))))
      else .fail
    | _ => .fail
def evT (c : Ctx) : Nat → Expr → Ev → W Bool
  | 0, _, _ => .fail
  | n + 1, e, env => match e with
    | .UnaryOp .Not a _ => W.bind (evT c n a env) fun b => .pure (!b)
    | .BoolOp op vs _ => boolT op env (vs.map (evT c n))
    | .Compare a [op] [b] _ => if notSet b then W.bind (evE c n a env) fun x => W.bind (evE c n b env) fun y => W.bind (cmpOpW op x y) blW else .fail
    | .Compare a [op, op'] [b, d] _ => if notSet b && notSet d then W.bind (W.bind (evE c n a env) fun x => W.bind (evE c n b env) fun y => W.bind (cmpOpW op x y) fun z => W.bind (blW z) fun t =>
        if t then W.bind (evE c n d env) fun u => cmpOpW op' y u else .pure (.bl false)) blW else .fail
    | .Compare _ _ _ _ => .fail
    | .IfExp _ _ _ _ => .fail
    | e => W.bind (evE c n e env) truW
def evI (c : Ctx) : Nat → Expr → Ev → W (List D × Option Addr)
  | 0, _, _ => .fail
  | n + 1, e, env => match e with
    | .Call (.Name x _) [a] [] _ => if decide (x = "range") && isGlo c.sc x && notStar a then W.bind (argsW env [evE c n a]) rangeW1 else W.bind (evE c n e env) srcW
    | .Call (.Name x _) [a, b] [] _ => if decide (x = "range") && isGlo c.sc x && notStar a && notStar b then W.bind (argsW env [evE c n a, evE c n b]) rangeW2 else W.bind (evE c n e env) srcW
    | e => W.bind (evE c n e env) srcW
def evG (c : Ctx) : Nat → Option (List Nat) → Expr → D → Ev → W Ev
  | 0, _, _, _, _ => .fail
  | n + 1, ts, tg, d, env => match tg with
    | .Name x _ => if isLoc c x then match slotOf c.N x with
        | some i => if inTs ts i then .pure (env.set i (some d)) else .fail
        | none => .fail
      else .fail
    | .Tuple es _ _ => if es.all notStar then tupG (es.map (evG c n ts)) d env else .fail
    | .Subscript o i _ => if notSlice i then W.bind (evE c n o env) fun x => W.bind (evE c n i env) fun y => W.bind (setW x y d) fun _ => .pure env else .fail
    | _ => .fail
end
end Mir

/-! Mir13: the evaluator of expressions is sound. -/
namespace Mir
open PySem L2 PyProof.Rows

/-- a module's name is as it is told -/
def GOk (P : Program) (w : World) (K : PySem.W.Frag) (mg : Str → Option Value) (base : Heap) (call : Str → List D → W D) (k : Nat) (x : Str) : Gv → Prop
  | .val d => ∃ u v, mg x = some u ∧ RelV v u ∧ ∀ H M, Rep K mg H M d v
  | .fn n kws => ∃ f fd ps, mg x = some (.ref f) ∧ PySem.W.keepIn K (.ref f) = true ∧ Binds K fd ps [] ∧ ps.length = n ∧ (∀ s ∈ kws, KBs K fd ps s.n s) ∧ FnG P w K mg base (CX P w) k f fd ps (spOf K mg n (call x))
  | .exc xi => XOk P w K mg x xi ∧ MkG x xi (call x)
structure CtxOk (X : Cx) (c : Ctx) (k : Nat) : Prop where
  N : X.N = c.N
  nd : c.N.Nodup
  sc : X.env.scope = c.sc
  calm : X.calm = true
  gd : X.A.guards = some []
  rm : Room k X.A
  two : 2 ≤ k
  sto : ∀ x, c.sto x = true → X.fn x = true
  glb : ∀ x g, c.glb x = some g → GOk X.prog X.w X.K X.mg X.base c.call k x g
  non : ∀ x, c.glb x = none → (biOf x).isSome = true ∨ (tyOf x).isSome = true ∨ (xbOf x).isSome = true → X.mg x = none
  rng : X.mg "range" = none
section
variable {X : Cx} {Wx : WX} {c : Ctx} {k : Nat}
theorem CtxOk.hu (ok : CtxOk X c k) : X.A.units + 65 < cLine := by have := ok.rm.un; omega
theorem CtxOk.blk (ok : CtxOk X c k) (scope : Scope) (s : Shared) (H : Hp) (C : Addr) (cl : List (Str × Addr)) (fp : List Addr) : CtxOk (X.blk s H scope (compEnvC scope cl C X.env) fp) (c.blk scope) k where
  N := ok.N
  nd := ok.nd
  sc := by
    show (compEnvC scope cl C X.env).scope = relS scope c.sc
    rw [← ok.sc]; rfl
  calm := ok.calm
  gd := ok.gd
  rm := ok.rm
  two := ok.two
  sto := fun x h => h
  glb := ok.glb
  non := ok.non
  rng := ok.rng
theorem se_fail {e : Expr} : PE X e (rd X Wx fun _ => W.fail) := ⟨fun _ _ _ _ _ _ ⟨_, _, _, h⟩ => h.elim⟩
theorem st_fail {e : Expr} : PT X e (rdT X Wx fun _ => W.fail) := ⟨fun _ _ _ _ _ _ ⟨_, _, _, h⟩ => h.elim⟩
theorem si_fail {e tg : Expr} : PI X tg e (rdI X Wx fun _ => W.fail) := ⟨fun _ _ _ _ _ _ ⟨_, _, _, h⟩ => h.elim⟩
theorem sg_fail {tg : Expr} {ts : List Nat} : PG X tg (rdTg X ts fun _ _ => W.fail) := ⟨fun _ _ _ _ _ _ _ _ _ ⟨_, _, _, _, _, h⟩ => h.elim⟩
theorem ss_fail {st : Stmt} : PS X st (rdS X Wx WS.fail) := ⟨fun _ _ _ _ _ _ ⟨_, _, _, h⟩ => h.elim⟩
theorem okName_ok {x : Str} (h : okName x = true) : (x == ("__debug__" : Str)) = false ∧ (x == ("__classdict__" : Str)) = false ∧ x ≠ "__name__" := by
  unfold okName at h
  simp only [Bool.and_eq_true, beq_iff_eq, decide_eq_true_eq] at h
  exact ⟨h.1.1, h.1.2, h.2⟩
theorem isVis_ok {sc : Scope} {x : Str} (h : isVis sc x = true) : Vis sc x := by
  unfold isVis at h
  unfold Vis
  split at h <;> first | (cases h; done) | skip
  · rename_i e; exact .inl e
  · rename_i e; exact .inr (.inl e)
  · rename_i e; exact .inr (.inr e)
theorem isGlo_ok {sc : Scope} {x : Str} (h : isGlo sc x = true) : sc.names.lookup x = some .globalImplicit := by
  unfold isGlo at h
  split at h
  · rename_i e; exact e
  · cases h
theorem CtxOk.gl (ok : CtxOk X c k) {x : Str} (h : isGlo c.sc x = true) : Gl X x := by
  show X.env.scope.names.lookup x = _
  rw [ok.sc]; exact isGlo_ok h
theorem boot_bi (b : Bi) : bootBuiltins b.name = some (match b with
    | .list => .type "list" | .tuple => .type "tuple" | .str => .type "str" | .int => .type "int"
    | .len => .builtin "len" | .abs => .builtin "abs" | .min => .builtin "min" | .max => .builtin "max" | .isinstance => .builtin "isinstance" | .all => .builtin "all" | .any => .builtin "any" | .repr => .builtin "repr") := by
  cases b <;> decide +kernel
theorem boot_ty (t : Ty) (h : t ≠ .none) : bootBuiltins (Str.ofString t.name) = some (.type t.name) := by
  cases t <;> first | exact absurd rfl h | decide +kernel
theorem biOf_ok {x : Str} {b : Bi} (h : biOf x = some b) : b.name = x := by
  have := List.find?_some h
  simpa using this
theorem tyOf_ok {x : Str} {t : Ty} (h : tyOf x = some t) : Str.ofString t.name = x ∧ t ≠ .none := by
  have h1 := List.find?_some h
  have h2 := List.mem_of_find?_eq_some h
  refine ⟨by simpa using h1, ?_⟩
  rintro rfl
  simp at h2
theorem xbOf_ok {x : Str} {b : Xb} (h : xbOf x = some b) : Str.ofString b.nm = x := by
  have := List.find?_some h
  simpa using this
theorem mthOf_ok {x : Str} {m : Mth} (h : mthOf x = some m) : m.name = x := by
  have := List.find?_some h
  simpa using this
theorem snd_name (ok : CtxOk X c k) (x : Str) (pos : Pos) : PE X (.Name x pos) (rd X Wx (nameW c x)) := by
  unfold nameW
  by_cases h1 : okName x = true
  · obtain ⟨d1, d2, d3⟩ := okName_ok h1
    simp only [h1, if_true]
    by_cases h2 : isVis c.sc x = true
    · simp only [h2, if_true]
      cases e : slotOf c.N x with
      | none => exact se_fail
      | some i => exact se_var (by rw [ok.N]; exact slotOf_ok e) (by rw [ok.sc]; exact isVis_ok h2) d1 d2
    · simp only [h2]
      by_cases h3 : isGlo c.sc x = true
      · simp only [h3, if_true]
        cases e : c.glb x with
        | some g =>
          cases g with
          | val d =>
            obtain ⟨u, v, m, r, rep⟩ := ok.glb x _ e
            exact se_const (pe_glob (ok.gl h3) m r d1) rep
          | fn n kws =>
            obtain ⟨f, fd, ps, m, _⟩ := ok.glb x _ e
            exact se_const (v := .ref f) (pe_glob (ok.gl h3) m rfl d1) fun H M => ⟨f, m, rfl⟩
          | exc xi =>
            obtain ⟨⟨C, fI, fd, m, T, _⟩, _⟩ := ok.glb x _ e
            exact se_const (v := .ref C) (pe_glob (ok.gl h3) m rfl d1) fun H M => ⟨C, m, T, rfl⟩
        | none =>
          cases et : tyOf x with
          | none =>
            cases eb : xbOf x with
            | none => exact se_fail
            | some b =>
              have hb := xbOf_ok eb
              subst hb
              exact se_const (v := .ty b.nm) (pe_bltn (ok.gl h3) (ok.non _ e (.inr (.inr (by rw [eb]; rfl)))) b.ok.boot rfl d3 d1) fun H M => rfl
          | some t =>
            obtain ⟨rfl, hn⟩ := tyOf_ok et
            exact se_const (v := .ty t.name) (pe_bltn (ok.gl h3) (ok.non _ e (.inr (.inl (by rw [et]; rfl)))) (boot_ty t hn) rfl d3 d1) fun H M => rfl
      · simp only [h3]
        exact se_fail
  · simp only [h1]
    exact se_fail
theorem snd_const (k' : Const) (n : Nat) (pos : Pos) : PE X (.Constant k' n pos) (rd X Wx fun _ => constW k') := by
  cases k' with
  | none => exact se_const pe_non fun _ _ => rfl
  | bool b => exact se_const pe_bl fun _ _ => rfl
  | int i => exact se_const pe_int fun _ _ => rfl
  | str s => exact se_const pe_str fun _ _ => rfl
  | _ => exact se_fail
theorem snd_bin (op : Operator) (lv : Bool) : OpR X (binaryOp op) (rG X (binW op lv)) := by
  cases op <;> first | exact op_addM | exact op_subM | exact op_mulM | exact op_fdivM | exact op_modM | exact op_powM | exact fun pins s σ H x y v u Q I rx ry ⟨_, _, _, _, _, _, _, h⟩ => h.elim
theorem snd_cmp (ok : CtxOk X c k) (op : CmpOp) : OpR X (compareOp op) (rG X (cmpOpW op)) := by
  have hu := ok.hu
  have hu' : X.A.units + 64 < cLine := by omega
  cases op <;> first | exact op_eqM hu' | exact op_neM hu' | exact op_ltM | exact op_leM | exact op_gtM | exact op_geM | exact op_isM | exact op_isnotM | exact op_inM hu | exact op_notInM hu
theorem mark_of {b : Expr} (h : notSet b = true) (op : CmpOp) : behindInMarks op b = false := by
  cases b <;> first | (cases h; done) | rfl
theorem star_of {e : Expr} (h : notStar e = true) (es : List Expr) (env : Env) : starEach (e :: es) env = (false, eval e env) :: starEach es env := by
  cases e <;> first | (cases h; done) | rfl
theorem stars_plain : ∀ {es : List Expr} (pos : Pos) (env : Env), es.all notStar = true → (backTo pos (starEach es env)).any (·.1) = false ∧ (backTo pos (starEach es env)).all (fun x => !x.1) = true
  | [], _, _, _ => ⟨rfl, rfl⟩
  | e :: es, pos, env, h => by
    simp only [List.all_cons, Bool.and_eq_true] at h
    obtain ⟨h1, h2⟩ := stars_plain pos env h.2
    rw [star_of h.1]
    simp only [backTo, List.map_cons, List.any_cons, List.all_cons] at h1 h2 ⊢
    exact ⟨by simp only [Bool.false_or]; exact h1, by simp only [Bool.not_false, Bool.true_and]; exact h2⟩
theorem base_of {o : Expr} (h : plainBase o = true) (name : Str) (env : Env) (whole : Sem Value) : attributeBase o name env whole = whole := by
  unfold attributeBase
  split
  · rename_i id p pos
    simp only [plainBase] at h
    simp only [h, Bool.true_or, if_true]
  · rfl
theorem snd_args (f : Expr → Ev → W D) (hf : ∀ e, PE X e (rd X Wx (f e))) : ∀ (es : List Expr), es.all notStar = true → PA X es (rdA X Wx fun env => argsW env (es.map f))
  | [], _ => sa_nil
  | e :: es, h => by
    simp only [List.all_cons, Bool.and_eq_true] at h
    exact sa_cons (hf e) (snd_args f hf es h.2) (star_of h.1 es X.env)
theorem snd_bool (f : Expr → Ev → W D) (hf : ∀ e, PE X e (rd X Wx (f e))) (op : BoolOp) (pos : Pos) : ∀ (es : List Expr), PE X (.BoolOp op es pos) (rd X Wx fun env => boolW op env (es.map f))
  | [] => se_fail
  | [e] => se_one (hf e)
  | e :: e' :: es => by
    cases op with
    | Or => exact se_or (hf e) (snd_bool f hf .Or pos (e' :: es))
    | And => exact se_and (hf e) (snd_bool f hf .And pos (e' :: es))
theorem sw_fail {e : Expr} : PW X e (rdT X Wx fun _ => W.fail) := ⟨fun _ _ _ _ _ _ _ ⟨_, _, _, h⟩ => h.elim⟩
theorem snd_boolT (f : Expr → Ev → W Bool) (hf : ∀ e, PT X e (rdT X Wx (f e))) (op : BoolOp) (pos : Pos) : ∀ (es : List Expr), PW X (.BoolOp op es pos) (rdT X Wx fun env => boolT op env (es.map f))
  | [] => sw_fail
  | [e] => sw_one (hf e)
  | e :: e' :: es => by
    cases op with
    | Or => exact sw_or (hf e) (snd_boolT f hf .Or pos (e' :: es))
    | And => exact sw_and (hf e) (snd_boolT f hf .And pos (e' :: es))
theorem snd_fps (f : Expr → Ev → W D) (hf : ∀ e, PE X e (rd X Wx (f e))) (pos : Pos) : ∀ {keys : List (Option Expr)} {vals : List Expr} {fps : List ((Ev → W D) × (Ev → W D))}, fpsOf f keys vals = some fps →
    PPs X pos keys vals (fps.map fun q => (rd X Wx q.1, rd X Wx q.2)) ∧ keys.all (·.isSome) = true ∧ keys.length = vals.length
  | [], [], _, e => by cases e; exact ⟨pps_nil, rfl, rfl⟩
  | some k :: ks, v :: vs, fps, e => by
    simp only [fpsOf, Option.map_eq_some_iff] at e
    obtain ⟨fps', e, rfl⟩ := e
    obtain ⟨h1, h2, h3⟩ := snd_fps f hf pos e
    exact ⟨pps_cons (hf k) (hf v) h1, by simpa using h2, by simp [h3]⟩
  | [], _ :: _, _, e => by cases e
  | none :: _, [], _, e => by cases e
  | none :: _, _ :: _, _, e => by cases e
  | some _ :: _, [], _, e => by cases e
theorem snd_part (f : Expr → Ev → W D) (hf : ∀ e, PE X e (rd X Wx (f e))) : ∀ (o : Option Expr), PO X o (rdG X Wx RO (partW (o.map f)))
  | none => so_none
  | some e => so_some (hf e)
theorem snd_bi (ok : CtxOk X c k) (b : Bi) (lv : Bool) {x : Str} (hx : b.name = x) (hg : Gl X x) (hm : X.mg x = none) {e : Expr} {es : List Expr} {fs : Ev → W (List D)} (ha : PA X (e :: es) (rdA X Wx fs)) (hn : x ≠ "__name__") (hdb : (x == ("__debug__" : Str)) = false) {p pos : Pos}
    (he : starEach (e :: es) X.env = (false, eval e X.env) :: starEach es X.env) (hpl : (backTo pos (starEach es X.env)).any (·.1) = false) : PE X (.Call (.Name x p) (e :: es) [] pos) (rd X Wx fun env => W.bind (fs env) (b.run lv)) := by
  have hb := boot_bi b
  rw [hx] at hb
  have hu : X.A.units + 64 < cLine := by have := ok.hu; omega
  cases b with
  | len => exact se_callB call_lenM hg hm hb ha hn hdb he hpl
  | abs => exact se_callB call_absM hg hm hb ha hn hdb he hpl
  | min => exact se_callB (call_minM ok.calm) hg hm hb ha hn hdb he hpl
  | max => exact se_callB (call_maxM ok.calm) hg hm hb ha hn hdb he hpl
  | isinstance => exact se_callB call_isiM hg hm hb ha hn hdb he hpl
  | all => exact se_callB (call_allM ok.calm) hg hm hb ha hn hdb he hpl
  | any => exact se_callB (call_anyM ok.calm) hg hm hb ha hn hdb he hpl
  | list => exact se_callTy call_listM hg hm hb ha hn hdb he hpl
  | tuple => exact se_callTy call_tupleM hg hm hb ha hn hdb he hpl
  | str => exact se_callTy call_strM hg hm hb ha hn hdb he hpl
  | int => exact se_callTy call_intM hg hm hb ha hn hdb he hpl
  | repr => exact se_callB (call_reprM ok.gd hu) hg hm hb ha hn hdb he hpl
end
end Mir

/-! Mir14: the evaluator of expressions is sound, by induction. -/
namespace Mir
open PySem L2 PyProof.Rows

def tsL (c : Ctx) : Option (List Nat) → List Nat
  | none => List.range c.N.length
  | some l => l
structure Snd (X : Cx) (c : Ctx) (Wx : WX) (n : Nat) : Prop where
  e : ∀ e, PE X e (rd X Wx (evE c n e))
  t : ∀ e, PT X e (rdT X Wx (evT c n e))
  i : ∀ tg e, PI X tg e (rdI X Wx (evI c n e))
  g : ∀ ts tg, PG X tg (rdTg X (tsL c ts) (evG c n ts tg))
section
variable {X : Cx} {Wx : WX} {c : Ctx} {k n : Nat}
theorem plain_args {es : List Expr} (h : plainArgs es = true) : es.all notStar = true ∧ es.length < 29 := by
  unfold plainArgs at h
  simpa only [Bool.and_eq_true, decide_eq_true_eq] using h
theorem few_ok {es : List Expr} {cpos : Pos} {env : Env} (h : plainArgs es = true) : ((backTo cpos (starEach es env)).all (fun x => !x.1) && (backToKw cpos (keywordEach [] env)).all (fun x => x.1.isSome)
      && decide (es.length + ([] : List Keyword).length + (if ([] : List Keyword).isEmpty then 0 else 1) < 30)) = true := by
  obtain ⟨h1, h2⟩ := plain_args h
  rw [(stars_plain cpos env h1).2]
  simp only [Bool.true_and, keywordEach, backToKw, List.map_nil, List.all_nil, decide_eq_true_eq, List.isEmpty_nil, if_true, List.length_nil]
  omega
theorem ix_plain {b : Expr} (h : notSlice b = true) : PlainIx b := by
  intro o i
  cases b <;> first | (cases h; done) | rfl
theorem own_ix : ∀ (N : List Str) (scope : Scope), ∀ p ∈ ownOf N scope, N[p.2]? = some p.1 := by
  intro N scope p hp
  unfold ownOf at hp
  obtain ⟨y, _, e⟩ := List.mem_filterMap.mp hp
  obtain ⟨y1, y2⟩ := y
  cases y2 <;> simp only [reduceCtorEq, Option.map_eq_some_iff] at e
  all_goals
    obtain ⟨j, hj, rfl⟩ := e
    exact slotOf_ok hj
theorem fold_of {e : Expr} (h : notSet e = true) (env : Env) (x : Value) : foldedSetIterable e env x = pure x := by
  cases e <;> first | (cases h; done) | rfl
theorem snd_comp (ok : CtxOk X c k) (tk : Takes X Wx) (S : Snd X c Wx n) (ih : ∀ (X : Cx) (c : Ctx) (Wx : WX), CtxOk X c k → Takes X Wx → Snd X c Wx n) {elt tg iter : Expr} {ifs : List Expr} {is : Int} {scope : Scope} {pos : Pos} :
    PE X (.ListComp elt [⟨tg, iter, ifs, is⟩] scope pos) (rd X Wx (evE c (n + 1) (.ListComp elt [⟨tg, iter, ifs, is⟩] scope pos))) := by
  show PE X _ (rd X Wx fun env => if blkC c.N c.sc scope (ownOf c.N scope) && decide (is = 0) && notSet iter then
        W.bind (evI c n iter env) fun b => compW (c.lv pos) b (bodyC (evG (c.blk scope) n (some ((ownOf c.N scope).map (·.2))) tg) (match ifs with
          | [] => fun _ => .pure true
          | [t] => evT (c.blk scope) n t
          | _ => fun _ => .fail) (evE (c.blk scope) n elt) (wipeE env ((ownOf c.N scope).map (·.2))))
      else .fail)
  by_cases h : (blkC c.N c.sc scope (ownOf c.N scope) && decide (is = 0) && notSet iter) = true
  · simp only [h, if_true]
    simp only [Bool.and_eq_true, decide_eq_true_eq] at h
    obtain ⟨⟨h1, h2⟩, h3⟩ := h
    subst h2
    have bs : ∀ s H C cl fp, Snd (X.blk s H scope (compEnvC scope cl C X.env) fp) (c.blk scope) W0 n := fun s H C cl fp => ih _ _ _ (ok.blk scope s H C cl fp) takes0W
    refine se_lc (ts := (ownOf c.N scope).map (·.2)) ok.calm (by rw [ok.N]; exact ok.nd) (S.i tg iter) (by rw [ok.N, ok.sc]; exact blkOk_by h1) ?_ ?_ ?_ (fold_of h3 X.env) (fun _ z => z)
    · exact fun s H C cl fp => (bs s H C cl fp).g (some ((ownOf c.N scope).map fun p : Str × Nat => p.2)) tg
    · intro s H C cl fp
      rcases ifs with _ | ⟨t, _ | ⟨t', r⟩⟩
      · exact ⟨fun pins s' σ H' Q I ⟨env, M, G, h⟩ => pts_nil.run pins s' σ H' Q I (h true H' (Fr.refl _ _) G.rel rfl)⟩
      · exact pts_one ((bs s H C cl fp).t t)
      · exact ⟨fun _ _ _ _ _ _ ⟨_, _, _, h⟩ => h.elim⟩
    · exact fun s H C cl fp => (bs s H C cl fp).e elt
  · simp only [h]
    exact se_fail
theorem snd_call (ok : CtxOk X c k) (tk : Takes X Wx) (S : Snd X c Wx n) {x : Str} {p pos : Pos} {args : List Expr} : PE X (.Call (.Name x p) args [] pos) (rd X Wx (evE c (n + 1) (.Call (.Name x p) args [] pos))) := by
  show PE X _ (rd X Wx fun env => if okName x && isGlo c.sc x && plainArgs args then match c.glb x with
        | some (.fn m _) => match args with
          | [] => if m = 0 then c.call x [] else .fail
          | _ => W.bind (argsW env (args.map (evE c n))) fun ds => if ds.length = m then c.call x ds else .fail
        | some (.exc xi) => match args with
          | [] => if 1 = xi.N.length then c.call x [] else .fail
          | _ => W.bind (argsW env (args.map (evE c n))) fun ds => if ds.length + 1 = xi.N.length then c.call x ds else .fail
        | some (.val _) => .fail
        | none => match biOf x, args with
          | some b, _ :: _ => W.bind (argsW env (args.map (evE c n))) (b.run (c.lv pos))
          | _, _ => .fail
      else .fail)
  by_cases h : (okName x && isGlo c.sc x && plainArgs args) = true
  · simp only [h, if_true]
    simp only [Bool.and_eq_true] at h
    obtain ⟨⟨h1, h2⟩, h3⟩ := h
    obtain ⟨d1, d2, d3⟩ := okName_ok h1
    obtain ⟨p1, p2⟩ := plain_args h3
    cases e : c.glb x with
    | some g =>
      cases g with
      | val d => exact se_fail
      | exc xi =>
        obtain ⟨F, hg⟩ := ok.glb x _ e
        cases args with
        | nil => exact se_exc0 F hg (ok.rm.mono ok.two) (ok.gl h2) d1
        | cons a as =>
          have q := p1
          simp only [List.all_cons, Bool.and_eq_true] at q
          exact se_exc F hg (ok.rm.mono ok.two) (ok.gl h2) d1 (snd_args (evE c n) S.e (a :: as) p1) (star_of q.1 as X.env) (stars_plain pos X.env q.2).1
      | fn m sh =>
        obtain ⟨f, fd, ps, hm, hk, hb, hl, _, F⟩ := ok.glb x _ e
        cases args with
        | nil =>
          by_cases h0 : m = 0
          · subst h0
            simp only [if_true]
            exact se_call0 F ok.rm ok.gd (ok.gl h2) hm hk hb tk d1
          · simp only [h0, if_false]
            exact se_fail
        | cons a as =>
          have q := p1
          simp only [List.all_cons, Bool.and_eq_true] at q
          exact se_call F ok.rm ok.gd (ok.gl h2) hm hk hb tk (snd_args (evE c n) S.e (a :: as) p1) d1 (star_of q.1 as X.env) (stars_plain pos X.env q.2).1
    | none =>
      cases eb : biOf x with
      | none => exact se_fail
      | some b =>
        cases args with
        | nil => exact se_fail
        | cons a as =>
          have q := p1
          simp only [List.all_cons, Bool.and_eq_true] at q
          exact snd_bi ok b (c.lv pos) (biOf_ok eb) (ok.gl h2) (ok.non x e (.inl (by rw [eb]; rfl))) (snd_args (evE c n) S.e (a :: as) p1) d3 d1 (star_of q.1 as X.env) (stars_plain pos X.env q.2).1
  · simp only [h]
    exact se_fail
theorem kwNs_ok {pos : Pos} {env : Env} : ∀ {kws : List Keyword} {ks : List Str}, kwNs kws = some ks → (backToKw pos (keywordEach kws env)).all (·.1.isSome) = true ∧ (backToKw pos (keywordEach kws env)).filterMap (·.1) = ks ∧ (backToKw pos (keywordEach kws env)).any (·.1.isNone) = false
  | [], _, e => by cases e; exact ⟨rfl, rfl, rfl⟩
  | ⟨some k, v, p⟩ :: r, ks, e => by
    simp only [kwNs, Option.map_eq_some_iff] at e
    obtain ⟨ks', e, rfl⟩ := e
    obtain ⟨h1, h2, h3⟩ := kwNs_ok (pos := pos) (env := env) e
    simp only [keywordEach, backToKw, List.map_cons, List.all_cons, List.filterMap_cons, List.any_cons] at h1 h2 h3 ⊢
    exact ⟨by rw [h1]; rfl, by rw [h2], by rw [h3]; rfl⟩
  | ⟨none, v, p⟩ :: r, ks, e => by cases e
theorem snd_kws (f : Expr → Ev → W D) (hf : ∀ e, PE X e (rd X Wx (f e))) : ∀ (kws : List Keyword), PK X kws (rdA X Wx fun env => argsW env (kws.map fun q => f q.value))
  | [] => sk_nil
  | ⟨nm, e, p⟩ :: r => sk_cons (hf e) (snd_kws f hf r)
theorem shOf_ok {l : List KwS} {n : Nat} {ks : List Str} {s : KwS} (h : shOf l n ks = some s) : s ∈ l ∧ s.n = n ∧ s.ks = ks ∧ n ≤ 1000 := by
  have h1 := List.find?_some h
  simp only [Bool.and_eq_true, decide_eq_true_eq] at h1
  exact ⟨List.mem_of_find?_eq_some h, h1.1.1, h1.1.2, h1.2⟩
theorem snd_callK (ok : CtxOk X c k) (tk : Takes X Wx) (S : Snd X c Wx n) {x : Str} {p pos : Pos} {args : List Expr} {kws : List Keyword} : PE X (.Call (.Name x p) args kws pos) (rd X Wx fun env => if okName x && isGlo c.sc x && plainArgs args then match kwNs kws with
        | some ks => match c.glb x with
          | some (.fn m sh) => match shOf sh args.length ks with
            | some s => kwW s m (c.call x) (fun env => argsW env (args.map (evE c n))) (fun env => argsW env (kws.map fun q => evE c n q.value)) env
            | none => .fail
          | some (.exc xi) => match shOf xi.kws args.length ks with
            | some s => if 1 ≤ xi.N.length then kwW s (xi.N.length - 1) (c.call x) (fun env => argsW env (args.map (evE c n))) (fun env => argsW env (kws.map fun q => evE c n q.value)) env else .fail
            | none => .fail
          | _ => .fail
        | none => .fail
      else .fail) := by
  by_cases h : (okName x && isGlo c.sc x && plainArgs args) = true
  · simp only [h, if_true]
    simp only [Bool.and_eq_true] at h
    obtain ⟨⟨h1, h2⟩, h3⟩ := h
    obtain ⟨d1, d2, d3⟩ := okName_ok h1
    obtain ⟨p1, p2⟩ := plain_args h3
    cases ek : kwNs kws with
    | none => exact se_fail
    | some ks =>
      obtain ⟨w1, w2, w3⟩ := kwNs_ok (pos := pos) (env := X.env) ek
      have pk := snd_kws (evE c n) S.e kws
      have st := (stars_plain pos X.env p1).1
      have hpl : ((backTo pos (starEach args X.env)).any (·.1) || (backToKw pos (keywordEach kws X.env)).any (·.1.isNone)) = false := by rw [st, w3]; rfl
      cases e : c.glb x with
      | none => exact se_fail
      | some g =>
        cases g with
        | val d => exact se_fail
        | exc xi =>
          dsimp only
          cases es : shOf xi.kws args.length ks with
          | none => exact se_fail
          | some s =>
            obtain ⟨s1, s2, s3, s4⟩ := shOf_ok es
            obtain ⟨F, hg⟩ := ok.glb x _ e
            have w2' := w2.trans s3.symm
            by_cases h0 : 1 ≤ xi.N.length
            · simp only [h0, if_true]
              cases args with
              | nil => exact se_excK0 F hg s1 h0 (by omega) (ok.rm.mono ok.two) (ok.gl h2) d1 pk w1 w2' hpl
              | cons a as =>
                have q := p1
                simp only [List.all_cons, Bool.and_eq_true] at q
                exact se_excK F hg s1 h0 (by omega) (ok.rm.mono ok.two) (ok.gl h2) d1 (snd_args (evE c n) S.e (a :: as) p1) pk w1 w2' (star_of q.1 as X.env) hpl
            · simp only [h0, if_false]
              exact se_fail
        | fn m sh =>
          dsimp only
          cases es : shOf sh args.length ks with
          | none => exact se_fail
          | some s =>
            obtain ⟨s1, s2, s3, s4⟩ := shOf_ok es
            obtain ⟨f, fd, ps, hm, hk, hb, hl, hkb, F⟩ := ok.glb x _ e
            have w2' := w2.trans s3.symm
            cases args with
            | nil => exact se_callK0 F ok.rm ok.gd (ok.gl h2) hm hk (hkb s s1) tk pk w1 w2' d1 hpl
            | cons a as =>
              have q := p1
              simp only [List.all_cons, Bool.and_eq_true] at q
              exact se_callK F ok.rm ok.gd (ok.gl h2) hm hk (hkb s s1) tk (snd_args (evE c n) S.e (a :: as) p1) pk w1 w2' d1 (star_of q.1 as X.env) hpl
  · simp only [h]
    exact se_fail
theorem snd_meth (ok : CtxOk X c k) (tk : Takes X Wx) (S : Snd X c Wx n) {o : Expr} {name : Str} {apos pos : Pos} {args : List Expr} : PE X (.Call (.Attribute o name apos) args [] pos) (rd X Wx (evE c (n + 1) (.Call (.Attribute o name apos) args [] pos))) := by
  show PE X _ (rd X Wx fun env => if plainBase o && plainArgs args && (apos.endLine == pos.line) then match mthOf name with
        | some m => W.bind (evE c n o env) fun x => recvW m x fun T => match args with
          | [] => methW m T x []
          | _ => W.bind (argsW env (args.map (evE c n))) fun ds => methW m T x ds
        | none => .fail
      else .fail)
  by_cases h : (plainBase o && plainArgs args && (apos.endLine == pos.line)) = true
  · simp only [h, if_true]
    simp only [Bool.and_eq_true] at h
    obtain ⟨⟨h1, h2⟩, h3⟩ := h
    obtain ⟨p1, p2⟩ := plain_args h2
    cases em : mthOf name with
    | none => exact se_fail
    | some m =>
      cases args with
      | nil => exact se_meth0 (mthOf_ok em).symm (S.e o) (base_of h1 _ _ _) h3
      | cons a as =>
        have q := p1
        simp only [List.all_cons, Bool.and_eq_true] at q
        exact se_meth (mthOf_ok em).symm (S.e o) (snd_args (evE c n) S.e (a :: as) p1) (base_of h1 _ _ _) (few_ok h2) h3 (star_of q.1 as X.env) (stars_plain pos X.env q.2).1
  · simp only [h]
    exact se_fail
theorem snd_e (ok : CtxOk X c k) (tk : Takes X Wx) (S : Snd X c Wx n) (ih : ∀ (X : Cx) (c : Ctx) (Wx : WX), CtxOk X c k → Takes X Wx → Snd X c Wx n) (e : Expr) : PE X e (rd X Wx (evE c (n + 1) e)) := by
  have hu1 : X.A.units + 1 < cLine := by have := ok.hu; omega
  cases e with
  | Constant k' m pos => exact snd_const k' m pos
  | Name x pos => exact snd_name ok x pos
  | BinOp a op b pos => exact se_bin (snd_bin op (c.lv pos)) (S.e a) (S.e b)
  | UnaryOp op a pos =>
    cases op with
    | Not => exact se_not (S.e a)
    | USub =>
      refine PE.imp (se_neg (S.e a)) fun σ H Q ⟨env, M, G, h⟩ => ⟨env, M, G, ?_⟩
      refine W.mono _ (show (evE c n a env).run M (fun x M' => (negW x).run M' _ _) _ from h) (fun x M' q => ?_) fun _ _ z => z
      cases x <;> exact q
    | _ => exact se_fail
  | BoolOp op vs pos => exact snd_bool (evE c n) S.e op pos vs
  | Compare a ops bs pos =>
    rcases ops with _ | ⟨op, _ | ⟨op', _ | ⟨op'', r⟩⟩⟩
    · exact se_fail
    · rcases bs with _ | ⟨b, _ | ⟨b', r⟩⟩
      · exact se_fail
      · show PE X _ (rd X Wx fun env => if notSet b then W.bind (evE c n a env) fun x => W.bind (evE c n b env) fun y => cmpOpW op x y else .fail)
        by_cases h : notSet b = true
        · simp only [h, if_true]
          exact se_cmp (snd_cmp ok op) (S.e a) (S.e b) (mark_of h op)
        · simp only [h]; exact se_fail
      · exact se_fail
    · rcases bs with _ | ⟨b, _ | ⟨d, _ | ⟨b'', r⟩⟩⟩
      · exact se_fail
      · exact se_fail
      · show PE X _ (rd X Wx fun env => if notSet b && notSet d then W.bind (evE c n a env) fun x => W.bind (evE c n b env) fun y => W.bind (cmpOpW op x y) fun z => W.bind (blW z) fun t =>
          if t then W.bind (evE c n d env) fun u => cmpOpW op' y u else .pure (.bl false) else .fail)
        by_cases h : (notSet b && notSet d) = true
        · simp only [h, if_true]
          simp only [Bool.and_eq_true] at h
          exact se_chain (snd_cmp ok op) (snd_cmp ok op') (S.e a) (S.e b) (S.e d) (mark_of h.2 op')
        · simp only [h]; exact se_fail
      · exact se_fail
    · exact se_fail
  | IfExp t a b pos => exact se_ifExp (S.t t) (S.e a) (S.e b)
  | List es pos =>
    show PE X _ (rd X Wx fun env => if es.all notStar then W.bind (argsW env (es.map (evE c n))) (mkL (c.lv pos)) else .fail)
    by_cases h : es.all notStar = true
    · simp only [h, if_true]; exact se_lst (snd_args (evE c n) S.e es h)
    · simp only [h]; exact se_fail
  | Tuple es m pos =>
    show PE X _ (rd X Wx fun env => if es.all notStar then W.bind (argsW env (es.map (evE c n))) mkT else .fail)
    by_cases h : es.all notStar = true
    · simp only [h, if_true]; exact se_tup (snd_args (evE c n) S.e es h)
    · simp only [h]; exact se_fail
  | Dict keys vals pos =>
    have gen : keys ≠ [] → PE X (.Dict keys vals pos) (rd X Wx fun env => if keys.length ≤ 15 then match fpsOf (evE c n) keys vals with
        | some fps => dispW (c.lv pos) fps env
        | none => .fail
      else .fail) := fun h0 => by
      by_cases h : keys.length ≤ 15
      · simp only [h, if_true]
        cases ef : fpsOf (evE c n) keys vals with
        | none => exact se_fail
        | some fps =>
          obtain ⟨h1, h2, h3⟩ := snd_fps (evE c n) S.e pos ef
          exact se_disp h1 h2 h3 h0 h
      · simp only [h]; exact se_fail
    cases keys with
    | nil =>
      cases vals with
      | nil => exact se_dnew
      | cons v vs => exact se_fail
    | cons a as => exact gen (by simp)
  | Subscript a b pos =>
    have plain : notSlice b = true → PE X (.Subscript a b pos) (rd X Wx fun env => W.bind (evE c n a env) fun x => W.bind (evE c n b env) fun y => idxW x y) := fun h => se_idx hu1 (S.e a) (S.e b) (ix_plain h)
    cases b with
    | Slice lo hi st p2 =>
      cases st with
      | none => exact se_slice (S.e a) (snd_part (evE c n) S.e lo) (snd_part (evE c n) S.e hi)
      | some st =>
        cases lo with
        | some _ => exact se_fail
        | none =>
          cases hi with
          | some _ => exact se_fail
          | none =>
            show PE X _ (rd X Wx fun env => if isM1 st then W.bind (evE c n a env) (revW (c.lv pos)) else .fail)
            by_cases h : isM1 st = true
            · simp only [h, if_true]
              obtain ⟨k, p1, p2, rfl⟩ := isM1_ok h
              exact se_rev (S.e a)
            · simp only [h]; exact se_fail
    | _ => exact plain rfl
  | Call f args kws pos =>
    cases kws with
    | nil =>
      cases f with
      | Name x p => exact snd_call ok tk S
      | Attribute o name apos => exact snd_meth ok tk S
      | _ => exact se_fail
    | cons kw r =>
      cases f with
      | Name x p => exact snd_callK ok tk S
      | _ => exact se_fail
  | Attribute o name pos =>
    show PE X _ (rd X Wx fun env => if plainBase o then W.bind (evE c n o env) (attrW name) else .fail)
    by_cases h : plainBase o = true
    · simp only [h, if_true]; exact se_attr (S.e o) (base_of h _ _ _)
    · simp only [h]; exact se_fail
  | ListComp elt gens scope pos =>
    rcases gens with _ | ⟨⟨tg, iter, ifs, is⟩, _ | ⟨g', r⟩⟩
    · exact se_fail
    · exact snd_comp ok tk S ih
    · exact se_fail
  | _ => exact se_fail
theorem snd_t (ok : CtxOk X c k) (tk : Takes X Wx) (S : Snd X c Wx n) (e : Expr) : PT X e (rdT X Wx (evT c (n + 1) e)) := by
  cases e with
  | UnaryOp op a pos =>
    cases op with
    | Not => exact st_not (S.t a)
    | _ => exact st_truth (S.e _) (by intro _; rfl)
  | BoolOp op vs pos => exact (snd_boolT (evT c n) S.t op pos vs).pt
  | Compare a ops bs pos =>
    rcases ops with _ | ⟨op, _ | ⟨op', _ | ⟨op'', r⟩⟩⟩
    · exact st_fail
    · rcases bs with _ | ⟨b, _ | ⟨b', r⟩⟩
      · exact st_fail
      · show PT X _ (rdT X Wx fun env => if notSet b then W.bind (evE c n a env) fun x => W.bind (evE c n b env) fun y => W.bind (cmpOpW op x y) blW else .fail)
        by_cases h : notSet b = true
        · simp only [h, if_true]
          exact st_cmp (snd_cmp ok op) (S.e a) (S.e b) (mark_of h op)
        · simp only [h]; exact st_fail
      · exact st_fail
    · rcases bs with _ | ⟨b, _ | ⟨d, _ | ⟨b'', r⟩⟩⟩
      · exact st_fail
      · exact st_fail
      · show PT X _ (rdT X Wx fun env => if notSet b && notSet d then W.bind (W.bind (evE c n a env) fun x => W.bind (evE c n b env) fun y => W.bind (cmpOpW op x y) fun z => W.bind (blW z) fun t =>
          if t then W.bind (evE c n d env) fun u => cmpOpW op' y u else .pure (.bl false)) blW else .fail)
        by_cases h : (notSet b && notSet d) = true
        · simp only [h, if_true]
          simp only [Bool.and_eq_true] at h
          exact st_chain (snd_cmp ok op) (snd_cmp ok op') (S.e a) (S.e b) (S.e d) (mark_of h.2 op')
        · simp only [h]; exact st_fail
      · exact st_fail
    · exact st_fail
  | IfExp t a b pos => exact st_fail
  | _ => exact st_truth (S.e _) (by intro _; rfl)
theorem snd_i (ok : CtxOk X c k) (tk : Takes X Wx) (S : Snd X c Wx n) (tg e : Expr) : PI X tg e (rdI X Wx (evI c (n + 1) e)) := by
  have any : ∀ e, PI X tg e (rdI X Wx fun env => W.bind (evE c n e env) srcW) := fun e => si_any (S.e e)
  have rg : isGlo c.sc "range" = true → c.glb "range" = none → True := fun _ _ => trivial
  cases e with
  | Call f args kws pos =>
    cases kws with
    | cons kw r => cases f <;> first | exact any _ | (rcases args with _ | ⟨a, _ | ⟨b, _ | ⟨d, r⟩⟩⟩ <;> exact any _)
    | nil =>
      cases f with
      | Name x p =>
        rcases args with _ | ⟨a, _ | ⟨b, _ | ⟨d, r⟩⟩⟩
        · exact any _
        · show PI X tg _ (rdI X Wx fun env => if decide (x = "range") && isGlo c.sc x && notStar a then W.bind (argsW env [evE c n a]) rangeW1 else W.bind (evE c n (.Call (.Name x p) [a] [] pos) env) srcW)
          by_cases h : (decide (x = "range") && isGlo c.sc x && notStar a) = true
          · simp only [h, if_true]
            simp only [Bool.and_eq_true, decide_eq_true_eq] at h
            obtain ⟨⟨rfl, h2⟩, h3⟩ := h
            exact si_range1 (ok.gl h2) ok.rng (snd_args (evE c n) S.e [a] (by simp [h3])) (star_of h3 [] X.env)
          · simp only [h]; exact any _
        · show PI X tg _ (rdI X Wx fun env => if decide (x = "range") && isGlo c.sc x && notStar a && notStar b then W.bind (argsW env [evE c n a, evE c n b]) rangeW2 else W.bind (evE c n (.Call (.Name x p) [a, b] [] pos) env) srcW)
          by_cases h : (decide (x = "range") && isGlo c.sc x && notStar a && notStar b) = true
          · simp only [h, if_true]
            simp only [Bool.and_eq_true, decide_eq_true_eq] at h
            obtain ⟨⟨⟨rfl, h2⟩, h3⟩, h4⟩ := h
            refine si_range2 (ok.gl h2) ok.rng (snd_args (evE c n) S.e [a, b] (by simp [h3, h4])) ?_ (star_of h4 [] X.env)
            rw [star_of h3, star_of h4]; rfl
          · simp only [h]; exact any _
        · exact any _
      | _ => first | exact any _ | (rcases args with _ | ⟨a, _ | ⟨b, _ | ⟨d, r⟩⟩⟩ <;> exact any _)
  | _ => exact any _
theorem assignEach_ok {env : Env} : ∀ {es : List Expr}, es.all notStar = true → (assignEach es env).length = es.length ∧ (assignEach es env).findIdx? (·.1) = none ∧ (assignEach es env).map (·.2) = es.map fun e => assign e env
  | [], _ => ⟨rfl, rfl, rfl⟩
  | e :: es, h => by
    simp only [List.all_cons, Bool.and_eq_true] at h
    obtain ⟨h1, h2, h3⟩ := assignEach_ok (env := env) h.2
    have : assignEach (e :: es) env = (false, assign e env) :: assignEach es env := by
      cases e <;> first | (cases h.1; done) | rfl
    rw [this]
    exact ⟨by simp [h1], by simp [List.findIdx?_cons, h2], by simp [h3]⟩
theorem snd_gs {ts : List Nat} (f : Expr → D → Ev → W Ev) (hf : ∀ tg, PG X tg (rdTg X ts (f tg))) : ∀ (es : List Expr), es.all notStar = true → PGs X es (rdTgs X ts fun l env => assignW (es.map f) l env)
  | [], _ => PGs.imp sgs_nil fun vs σ H Q ⟨ds, env, M, G, r, h⟩ => ⟨ds, env, M, G, r, by cases ds <;> exact h⟩
  | e :: es, h => by
    simp only [List.all_cons, Bool.and_eq_true] at h
    refine PGs.imp (sgs_cons (hf e) (snd_gs f hf es h.2) ?_) fun vs σ H Q ⟨ds, env, M, G, r, hh⟩ => ⟨ds, env, M, G, r, by cases ds <;> exact hh⟩
    have h1 := (assignEach_ok (env := X.env) (es := e :: es) (by simp [h.1]; simpa using h.2)).2.2
    have h2 := (assignEach_ok (env := X.env) (es := es) h.2).2.2
    rw [h1, h2]; rfl
theorem snd_g (ok : CtxOk X c k) (S : Snd X c Wx n) (S0 : Snd X c W0 n) (ts : Option (List Nat)) (tg : Expr) : PG X tg (rdTg X (tsL c ts) (evG c (n + 1) ts tg)) := by
  have hu1 : X.A.units + 1 < cLine := by have := ok.hu; omega
  cases tg with
  | Name x pos =>
    show PG X _ (rdTg X (tsL c ts) fun d env => if isLoc c x then match slotOf c.N x with
        | some i => if inTs ts i then .pure (env.set i (some d)) else .fail
        | none => .fail
      else .fail)
    by_cases h : isLoc c x = true
    · simp only [h, if_true]
      cases e : slotOf c.N x with
      | none => exact sg_fail
      | some i =>
        by_cases ht : inTs ts i = true
        · simp only [ht, if_true]
          have hi := slotOf_ok e
          have him : i ∈ tsL c ts := by
            cases ts with
            | none => exact List.mem_range.mpr (List.getElem?_eq_some_iff.mp hi).1
            | some l => show i ∈ l; simpa [inTs] using ht
          have hl : c.sc.names.lookup x = some .local ∨ (c.sc.names.lookup x = some .cell ∧ c.sto x = true) := by
            unfold isLoc at h
            split at h
            · rename_i z; exact .inl z
            · rename_i z; exact .inr ⟨z, h⟩
            · cases h
          refine sg_name (by rw [ok.N]; exact ok.nd) (by rw [ok.N]; exact hi) ?_ ?_ him
          · rw [ok.sc]
            rcases hl with z | ⟨z, _⟩
            · exact .inl z
            · exact .inr z
          · rw [ok.sc]
            rcases hl with z | ⟨_, z⟩
            · exact .inr z
            · exact .inl (ok.sto x z)
        · simp only [ht]; exact sg_fail
    · simp only [h]; exact sg_fail
  | Tuple es m pos =>
    show PG X _ (rdTg X (tsL c ts) fun d env => if es.all notStar then tupG (es.map (evG c n ts)) d env else .fail)
    by_cases h : es.all notStar = true
    · simp only [h, if_true]
      obtain ⟨h1, h2, h3⟩ := assignEach_ok (env := X.env) h
      refine PG.imp (sg_tup ok.calm (snd_gs (evG c n ts) (fun tg => S.g ts tg) es h) h1 h2) ?_
      rintro v σ H Q ⟨d, env, M, G, r, hh⟩
      refine ⟨d, env, M, G, r, ?_⟩
      cases d <;> first | exact hh | (simpa [tupG] using hh)
    · simp only [h]; exact sg_fail
  | Subscript o i pos =>
    show PG X _ (rdTg X (tsL c ts) fun d env => if notSlice i then W.bind (evE c n o env) fun x => W.bind (evE c n i env) fun y => W.bind (setW x y d) fun _ => .pure env else .fail)
    by_cases h : notSlice i = true
    · simp only [h, if_true]
      refine sg_sub hu1 (S0.e o) (S0.e i) ?_
      intro v
      cases i <;> first | (cases h; done) | rfl
    · simp only [h]; exact sg_fail
  | _ => exact sg_fail
theorem snd : ∀ (n : Nat) (X : Cx) (c : Ctx) (Wx : WX), CtxOk X c k → Takes X Wx → Snd X c Wx n
  | 0, X, c, Wx, ok, tk => ⟨fun _ => se_fail, fun _ => st_fail, fun _ _ => si_fail, fun _ _ => sg_fail⟩
  | n + 1, X, c, Wx, ok, tk => by
    have ih := fun X c Wx => snd n X c Wx
    have S := ih X c Wx ok tk
    have S0 := ih X c W0 ok takes0W
    exact ⟨snd_e ok tk S ih, snd_t ok tk S, snd_i ok tk S, snd_g ok S S0⟩
end
end Mir

/-! Mir15: statements, defs. -/
namespace Mir
open PySem L2 PyProof.Rows

/-- a live list or dict that is handed back becomes a tree -/
def frzW (b : Bool) (d : D) : W D := if b then (match d with
    | .ref p => .get fun M => match M p with
      | some (.lst l) => .del p (.pure (.lst l))
      | some (.dct l) => .del p (.pure (.dct l))
      | _ => .pure (.ref p)
    | d => .pure d)
  else .pure d
theorem se_frz {X : Cx} {Wx : WX} {e : Expr} {f : Ev → W D} (b : Bool) (h : PE X e (rd X Wx f)) : PE X e (rd X Wx fun env => W.bind (f env) (frzW b)) := by
  refine PE.imp h ?_
  rintro σ H Q ⟨env, M, G, h⟩
  refine ⟨env, M, G, (f env).mono (show (f env).run M (fun d M' => (frzW b d).run M' _ _) _ from h) ?_ fun _ _ z => z⟩
  intro d M' q v H' fr R r
  cases b with
  | false => exact q v H' fr R r
  | true =>
    cases d with
    | ref p =>
      replace q : (match M' p with
        | some (.lst l) => W.del p (.pure (D.lst l))
        | some (.dct l) => W.del p (.pure (D.dct l))
        | _ => W.pure (D.ref p)).run M' (QG X (RV X) H M Q) (EE X H M Wx σ) := q
      cases hp : M' p with
      | none => rw [hp] at q; exact q v H' fr R r
      | some c =>
        rw [hp] at q
        cases c with
        | lst l =>
          cases r
          obtain ⟨vs, h1, h2⟩ := R.at_ p _ hp
          exact q _ H' (fr.trans fr_del) R.del ⟨p, vs, rfl, ⟨h1, MS.del_same⟩, h2.keep fr_del⟩
        | dct l =>
          cases r
          obtain ⟨vs, h1, h2⟩ := R.at_ p _ hp
          exact q _ H' (fr.trans fr_del) R.del ⟨p, vs, rfl, ⟨h1, MS.del_same⟩, RepK.iff.mpr (h2.keep fr_del)⟩
        | ins _ _ => exact q v H' fr R r
    | _ => exact q v H' fr R r
def notComp : Expr → Bool
  | .ListComp _ _ _ _ => false
  | .SetComp _ _ _ _ => false
  | .DictComp _ _ _ _ _ => false
  | _ => true
def isTuple : Expr → Bool
  | .Tuple _ _ _ => true
  | _ => false
def isStar : Expr → Bool
  | .Starred .. => true
  | _ => false
/-- the names that are stored in turn, where the interpreter exchanges -/
def swapN (sc : Scope) (ts vs : List Expr) : Option (Option (List Str)) :=
  if !(ts.length == 2 || ts.length == 3) || vs.length != ts.length then some none else
  if vs.any isStar then some none else
  let line := (ts.head?.map (·.pos.line)).getD 0
  let names := ts.filterMap fun e => match e with
    | .Name id pos => if sc.names.lookup id == some .local && pos.line == line then some id else none
    | _ => none
  if names.length != ts.length || names.eraseDups.length != names.length then some none else
  if vs.all (foldedForSure 8) then some none else
  if vs.all (constantsAlone 8) then none else some (some names)
theorem swapN_ok {env : Env} {ts vs : List Expr} {k1 k2 : Nat} {p1 p2 : Pos} {r : Option (List Str)} (hk : env.scope.kind = .function) (h : swapN env.scope ts vs = some r) : swappedStores [.Tuple ts k1 p1] (.Tuple vs k2 p2) env = pure r := by
  have hb : env.blockKind = .function := by unfold Env.blockKind; rw [hk]; rfl
  unfold swapN at h
  unfold swappedStores
  simp only [hb]
  by_cases h1 : (!(ts.length == 2 || ts.length == 3) || vs.length != ts.length) = true
  · rw [if_pos h1] at h
    cases h
    simp only [h1, Bool.true_or, if_true]
  · rw [if_neg h1] at h
    have h1' : (!(ts.length == 2 || ts.length == 3) || vs.length != ts.length) = false := by simpa using h1
    simp only [h1', Bool.false_or, bne_self_eq_false, Bool.false_eq_true, if_false]
    have fin : ∀ (st : Bool) (names : List Str), (if st = true then some none else if (names.length != ts.length || names.eraseDups.length != names.length) = true then some none else if vs.all (foldedForSure 8) = true then some none else if vs.all (constantsAlone 8) = true then none else some (some names)) = some r →
        (if st = true then (pure none : Sem (Option (List Str))) else if (names.length != ts.length || names.eraseDups.length != names.length) = true then (pure none : Sem (Option (List Str))) else
          if vs.all (foldedForSure 8) = true then pure none else
          if vs.all (constantsAlone 8) = true then do
            unsupported "assign.tuple-of-constant-expressions:order-of-the-stores"
            pure (some names)
          else pure (some names)) = pure r := by
      intro st names h
      cases st with
      | true => cases h; rfl
      | false =>
        rw [if_neg Bool.false_ne_true] at h ⊢
        by_cases h2 : (names.length != ts.length || names.eraseDups.length != names.length) = true
        · rw [if_pos h2] at h ⊢; cases h; rfl
        · rw [if_neg h2] at h ⊢
          by_cases h3 : vs.all (foldedForSure 8) = true
          · rw [if_pos h3] at h ⊢; cases h; rfl
          · rw [if_neg h3] at h ⊢
            by_cases h4 : vs.all (constantsAlone 8) = true
            · rw [if_pos h4] at h; cases h
            · rw [if_neg h4] at h ⊢; cases h; rfl
    exact fin _ _ h
def isLocal (c : Ctx) (x : Str) : Bool := match c.sc.names.lookup x with
  | some .local => true
  | _ => false
/-- two or three plain names -/
def parW (c : Ctx) (ts vs : List Expr) (r : List Str) (fs : Ev → W (List D)) : WS := match ts, vs with
  | [.Name x _, .Name y _], [_, _] => if decide (r = [x, y]) && isLocal c x && isLocal c y && decide (x ≠ y) then match slotOf c.N x, slotOf c.N y with
      | some i, some j => WS.bind fs fun l => WS.store (par2 i j l)
      | _, _ => WS.fail
    else WS.fail
  | [.Name x _, .Name y _, .Name z _], [_, _, _] => if decide (r = [x, y, z]) && isLocal c x && isLocal c y && isLocal c z && decide (x ≠ y) && decide (x ≠ z) && decide (y ≠ z) then match slotOf c.N x, slotOf c.N y, slotOf c.N z with
      | some i, some j, some k => WS.bind fs fun l => WS.store (par3 i j k l)
      | _, _, _ => WS.fail
    else WS.fail
  | _, _ => WS.fail
def seqW (f : Stmt → WS) : List Stmt → WS
  | [] => WS.next
  | st :: r => WS.seq (f st) (seqW f r)
def notNm : Expr → Bool
  | .Name _ _ => false
  | _ => true
def plainAsg (c : Ctx) (n : Nat) (tg e : Expr) : WS := if (notComp e || notNm tg) && notStar tg then WS.bind (evE c n e) fun d => WS.store fun env => evG c n none tg d env else WS.fail
/-- y = [..] -/
def setLc (c : Ctx) (n : Nat) (y : Str) (py : Pos) (e : Expr) : WS := match e with
  | .ListComp _ _ scope pos => if isLocal c y && (py.line == pos.line) && !(scope.names.any fun (n, k) => n == y && (k == .local || k == .cell)) then match slotOf c.N y with
      | some i => WS.bind (evE c n e) fun d => WS.store fun env => .pure (env.set i (some d))
      | none => WS.fail
    else WS.fail
  | _ => WS.fail
def evS (c : Ctx) (fz : Pos → Bool) : Nat → Stmt → WS
  | 0, _ => WS.fail
  | n + 1, st => match st with
    | .Pass _ => WS.next
    | .Break _ => WS.out .bk
    | .Continue _ => WS.out .ct
    | .Expr e _ => if notComp e then WS.bind (evE c n e) fun _ => WS.next else WS.fail
    | .Return (some e) pos => WS.bind (fun env => W.bind (evE c n e env) (frzW (fz pos))) fun d => WS.out (.rt d)
    | .Return none _ => WS.out (.rt .non)
    | .If t a b _ => WS.bind (evT c n t) fun z => if z then seqW (evS c fz n) a else seqW (evS c fz n) b
    | .For tg iter body [] _ => if notSet iter then WS.bind (evI c n iter) fun b => WS.loop b (fun d => WS.seq (WS.store fun env => evG c n none tg d env) (seqW (evS c fz n) body)) b.1 else WS.fail
    | .While t body [] _ => WS.while_ (evT c n t) (seqW (evS c fz n) body)
    | .AugAssign (.Name x _) op e _ => if isLoc c x then match slotOf c.N x with
        | some i => WS.bind (fun env => W.bind (varW i env) fun x => W.bind (evE c n e env) fun y => augW op x y) fun d => WS.store fun env => .pure (env.set i (some d))
        | none => WS.fail
      else WS.fail
    | .Assign [.Name y py] e _ => if notComp e then plainAsg c n (.Name y py) e else setLc c n y py e
    | .Assign [.Tuple ts k p] (.Tuple vs k2 p2) _ => match swapN c.sc ts vs with
      | some none => plainAsg c n (.Tuple ts k p) (.Tuple vs k2 p2)
      | some (some r) => if vs.all notStar then parW c ts vs r fun env => argsW env (vs.map (evE c n)) else WS.fail
      | none => WS.fail
    | .Assign [.Tuple ts k p] e _ => plainAsg c n (.Tuple ts k p) e
    | .Assign [.Subscript o i p] e _ => plainAsg c n (.Subscript o i p) e
    | .Raise (some (.Call (.Name x p) args [] p')) none _ => match c.glb x with
      | some (.exc _) => WS.bind (evE c n (.Call (.Name x p) args [] p')) raiseW
      | _ => WS.fail
    | .Try body [.ExceptHandler (some (.Name x _)) (some nm) [.Assign [.Name y _] (.Name nm' _) _] _] [] [] _ => if decide (nm' = nm) && isLocal c nm && isLocal c y && isGlo c.sc x && okName x && okName nm then match c.glb x, slotOf c.N nm, slotOf c.N y with
        | some (.exc _), some i, some j => WS.tryK x i j (seqW (evS c fz n) body)
        | _, _, _ => WS.fail
      else WS.fail
    | _ => WS.fail
section
variable {X : Cx} {Wx : WX} {c : Ctx} {k n : Nat} {fz : Pos → Bool}
theorem swap_of {e : Expr} (h : notComp e = true) (t : Option Expr) (l : Nat) (env : Env) : swapsWith e t l env = pure false := by
  cases e <;> first | (cases h; done) | rfl
theorem swapT_of {t : Expr} (h : notNm t = true) (e : Expr) (l : Nat) (env : Env) : swapsWith e (some t) l env = pure false := by
  cases e <;> cases t <;> first | (cases h; done) | rfl
theorem swapS_of {e : Expr} (h : notComp e = true) (t : Expr) (l : Nat) (env : Env) : swapsWithSole [t] e l env = pure false := swap_of h _ l env
theorem asg1_of {t : Expr} (h : notStar t = true) (env : Env) : (assignEach [t] env).map (·.2) = [assign t env] := by
  cases t <;> first | (cases h; done) | rfl
theorem snd_asg (ok : CtxOk X c k) (S : Snd X c Wx n) {tg e : Expr} {pos : Pos} (hw : swappedStores [tg] e X.env = pure none) : PS X (.Assign [tg] e pos) (rdS X Wx (plainAsg c n tg e)) := by
  unfold plainAsg
  by_cases h : ((notComp e || notNm tg) && notStar tg) = true
  · simp only [h, if_true]
    simp only [Bool.and_eq_true, Bool.or_eq_true] at h
    refine ss_asg (S.e e) (S.g none tg) ?_ hw (asg1_of h.2 _)
    rcases h.1 with h1 | h1
    · exact swapS_of h1 tg _ _
    · exact swapT_of h1 e _ _
  · simp only [h]; exact ss_fail
theorem slot_ne {N : List Str} (hN : N.Nodup) {x y : Str} {i j : Nat} (hi : N[i]? = some x) (hj : N[j]? = some y) (h : x ≠ y) : i ≠ j := by
  rintro rfl
  rw [hi] at hj
  exact h (Option.some.inj hj)
theorem isLocal_ok {x : Str} (h : isLocal c x = true) : c.sc.names.lookup x = some .local := by
  unfold isLocal at h
  split at h
  · rename_i z; exact z
  · cases h
theorem snd_par (ok : CtxOk X c k) (S : Snd X c Wx n) (hkind : X.env.scope.kind = .function) {ts vs : List Expr} {k1 k2 : Nat} {p1 p2 pos : Pos} {r : List Str} (h : swapN c.sc ts vs = some (some r)) (hv : vs.all notStar = true) :
    PS X (.Assign [.Tuple ts k1 p1] (.Tuple vs k2 p2) pos) (rdS X Wx (parW c ts vs r fun env => argsW env (vs.map (evE c n)))) := by
  have hsw := swapN_ok (k1 := k1) (k2 := k2) (p1 := p1) (p2 := p2) hkind (by rw [ok.sc]; exact h)
  have hN : X.N.Nodup := by rw [ok.N]; exact ok.nd
  unfold parW
  split
  · rename_i x px y py a b
    by_cases hc : (decide (r = [x, y]) && isLocal c x && isLocal c y && decide (x ≠ y)) = true
    · rw [if_pos hc]
      simp only [Bool.and_eq_true, decide_eq_true_eq] at hc
      obtain ⟨⟨⟨rfl, hx⟩, hy⟩, hne⟩ := hc
      cases ei : slotOf c.N x with
      | none => exact ss_fail
      | some i =>
        cases ej : slotOf c.N y with
        | none => exact ss_fail
        | some j =>
          have ni := slotOf_ok ei
          have nj := slotOf_ok ej
          exact ss_par ok.calm hN (by rw [ok.N]; exact ni) (by rw [ok.N]; exact nj) (slot_ne ok.nd ni nj hne) (by rw [ok.sc]; exact isLocal_ok hx) (by rw [ok.sc]; exact isLocal_ok hy) (snd_args (evE c n) S.e [a, b] hv) hsw rfl
    · rw [if_neg hc]; exact ss_fail
  · rename_i x px y py z pz a b d
    by_cases hc : (decide (r = [x, y, z]) && isLocal c x && isLocal c y && isLocal c z && decide (x ≠ y) && decide (x ≠ z) && decide (y ≠ z)) = true
    · rw [if_pos hc]
      simp only [Bool.and_eq_true, decide_eq_true_eq] at hc
      obtain ⟨⟨⟨⟨⟨⟨rfl, hx⟩, hy⟩, hz⟩, n1⟩, n2⟩, n3⟩ := hc
      cases ei : slotOf c.N x with
      | none => exact ss_fail
      | some i =>
        cases ej : slotOf c.N y with
        | none => exact ss_fail
        | some j =>
          cases ek : slotOf c.N z with
          | none => exact ss_fail
          | some l =>
            have ni := slotOf_ok ei
            have nj := slotOf_ok ej
            have nk := slotOf_ok ek
            exact ss_par3 ok.calm hN (by rw [ok.N]; exact ni) (by rw [ok.N]; exact nj) (by rw [ok.N]; exact nk) (slot_ne ok.nd ni nj n1) (slot_ne ok.nd ni nk n2) (slot_ne ok.nd nj nk n3) (by rw [ok.sc]; exact isLocal_ok hx) (by rw [ok.sc]; exact isLocal_ok hy) (by rw [ok.sc]; exact isLocal_ok hz) (snd_args (evE c n) S.e [a, b, d] hv) hsw rfl
    · rw [if_neg hc]; exact ss_fail
  · exact ss_fail
theorem snd_setLc (ok : CtxOk X c k) (ih : ∀ (n : Nat) (X : Cx) (c : Ctx) (Wx : WX), CtxOk X c k → Takes X Wx → Snd X c Wx n) (tk : Takes X Wx) (hkind : X.env.scope.kind = .function) {y : Str} {py pos : Pos} {e : Expr} : PS X (.Assign [.Name y py] e pos) (rdS X Wx (setLc c n y py e)) := by
  unfold setLc
  split
  · rename_i elt gens scope lpos
    by_cases hc : (isLocal c y && (py.line == lpos.line) && !(scope.names.any fun (n, k) => n == y && (k == .local || k == .cell))) = true
    · rw [if_pos hc]
      simp only [Bool.and_eq_true, Bool.not_eq_true'] at hc
      obtain ⟨⟨h1, h2⟩, h3⟩ := hc
      cases es : slotOf c.N y with
      | none => exact ss_fail
      | some i =>
        have hl := isLocal_ok h1
        cases n with
        | zero => exact ⟨fun _ _ _ _ _ _ ⟨_, _, _, h⟩ => h.elim⟩
        | succ n =>
          rcases gens with _ | ⟨⟨tg, iter, ifs, is⟩, _ | ⟨g', r⟩⟩
          · exact ⟨fun _ _ _ _ _ _ ⟨_, _, _, h⟩ => h.elim⟩
          · show PS X _ (rdS X Wx (WS.bind (fun env => if blkC c.N c.sc scope (ownOf c.N scope) && decide (is = 0) && notSet iter then
                W.bind (evI c n iter env) fun b => compW (c.lv lpos) b (bodyC (evG (c.blk scope) n (some ((ownOf c.N scope).map (·.2))) tg) (match ifs with
                  | [] => fun _ => .pure true
                  | [t] => evT (c.blk scope) n t
                  | _ => fun _ => .fail) (evE (c.blk scope) n elt) (wipeE env ((ownOf c.N scope).map (·.2))))
              else .fail) fun d => WS.store fun env => .pure (env.set i (some d))))
            by_cases hb : (blkC c.N c.sc scope (ownOf c.N scope) && decide (is = 0) && notSet iter) = true
            · simp only [hb, if_true]
              simp only [Bool.and_eq_true, decide_eq_true_eq] at hb
              obtain ⟨⟨b1, b2⟩, b3⟩ := hb
              subst b2
              have bs : ∀ s H C cl fp, Snd (X.blk s H scope (compEnvC scope cl C X.env) fp) (c.blk scope) W0 n := fun s H C cl fp => ih n _ _ _ (ok.blk scope s H C cl fp) takes0W
              refine ss_setLc (ts := (ownOf c.N scope).map (·.2)) ok.calm (by rw [ok.N]; exact ok.nd) (by rw [ok.N]; exact slotOf_ok es) (by rw [ok.sc]; exact hl) (sw_true hkind (by rw [ok.sc]; exact hl) h2 h3) ((ih n X c Wx ok tk).i tg iter) (by rw [ok.N, ok.sc]; exact blkOk_by b1) ?_ ?_ ?_ (fold_of b3 X.env) (fun _ z => z)
              · exact fun s H C cl fp => (bs s H C cl fp).g (some ((ownOf c.N scope).map fun p : Str × Nat => p.2)) tg
              · intro s H C cl fp
                rcases ifs with _ | ⟨t, _ | ⟨t', r⟩⟩
                · exact ⟨fun pins s' σ H' Q I ⟨env, M, G, h⟩ => pts_nil.run pins s' σ H' Q I (h true H' (Fr.refl _ _) G.rel rfl)⟩
                · exact pts_one ((bs s H C cl fp).t t)
                · exact ⟨fun _ _ _ _ _ _ ⟨_, _, _, h⟩ => h.elim⟩
              · exact fun s H C cl fp => (bs s H C cl fp).e elt
            · simp only [hb]
              exact ⟨fun _ _ _ _ _ _ ⟨_, _, _, h⟩ => h.elim⟩
          · exact ⟨fun _ _ _ _ _ _ ⟨_, _, _, h⟩ => h.elim⟩
    · rw [if_neg hc]; exact ss_fail
  · exact ss_fail
theorem snd_ss (f : Stmt → WS) (hf : ∀ st, PS X st (rdS X Wx (f st))) : ∀ l : List Stmt, PSs X l (rdS X Wx (seqW f l))
  | [] => ss_nil
  | st :: r => ss_cons (hf st) (snd_ss f hf r)
/-- a try's body is read as anything else is -/
theorem CtxOk.tr (ok : CtxOk X c k) (pn : List (Addr × Obj)) (xe : Value → Shared → Prop) : CtxOk (X.tr pn xe) c k := ⟨ok.N, ok.nd, ok.sc, ok.calm, ok.gd, ok.rm, ok.two, ok.sto, ok.glb, ok.non, ok.rng⟩
theorem snd_raise (ok : CtxOk X c k) (tk : Takes X Wx) (S : Snd X c Wx n) {x : Str} {p p' pos : Pos} {args : List Expr} {xi : XI} (e : c.glb x = some (.exc xi)) : PS X (.Raise (some (.Call (.Name x p) args [] p')) none pos) (rdS X Wx (WS.bind (evE c (n + 1) (.Call (.Name x p) args [] p')) raiseW)) := by
  have ev : evE c (n + 1) (.Call (.Name x p) args [] p') = fun env => if okName x && isGlo c.sc x && plainArgs args then match args with
          | [] => if 1 = xi.N.length then c.call x [] else .fail
          | _ => W.bind (argsW env (args.map (evE c n))) fun ds => if ds.length + 1 = xi.N.length then c.call x ds else .fail
        else .fail := by
    funext env
    show (if okName x && isGlo c.sc x && plainArgs args then match c.glb x with
        | some (.fn m _) => match args with
          | [] => if m = 0 then c.call x [] else .fail
          | _ => W.bind (argsW env (args.map (evE c n))) fun ds => if ds.length = m then c.call x ds else .fail
        | some (.exc xi) => match args with
          | [] => if 1 = xi.N.length then c.call x [] else .fail
          | _ => W.bind (argsW env (args.map (evE c n))) fun ds => if ds.length + 1 = xi.N.length then c.call x ds else .fail
        | some (.val _) => .fail
        | none => match biOf x, args with
          | some b, _ :: _ => W.bind (argsW env (args.map (evE c n))) (b.run (c.lv p'))
          | _, _ => .fail
      else .fail) = _
    rw [e]
  rw [ev]
  by_cases h : (okName x && isGlo c.sc x && plainArgs args) = true
  · simp only [h, if_true]
    simp only [Bool.and_eq_true] at h
    obtain ⟨⟨h1, h2⟩, h3⟩ := h
    obtain ⟨d1, d2, d3⟩ := okName_ok h1
    obtain ⟨p1, p2⟩ := plain_args h3
    obtain ⟨F, hg⟩ := ok.glb x _ e
    cases args with
    | nil => exact ss_raise0 ok.calm tk F hg (ok.rm.mono ok.two) (ok.gl h2) d1
    | cons a as =>
      have q := p1
      simp only [List.all_cons, Bool.and_eq_true] at q
      exact ss_raise ok.calm tk F hg (ok.rm.mono ok.two) (ok.gl h2) d1 (snd_args (evE c n) S.e (a :: as) p1) (star_of q.1 as X.env) (stars_plain p' X.env q.2).1
  · simp only [h]
    exact ⟨fun _ _ _ _ _ _ ⟨_, _, _, h⟩ => h.elim⟩
theorem snd_s {c : Ctx} {k : Nat} {fz : Pos → Bool} : ∀ (n : Nat) (X : Cx) (Wx : WX), CtxOk X c k → Takes X Wx → X.env.scope.kind = .function → PassesOwn (model X.prog X.w) X.A X.env X.xe → (X.stack = X.env :: X.outer ∧ X.env.frame = some X.env.locals ∧ X.ex = []) → ∀ st : Stmt, PS X st (rdS X Wx (evS c fz n st))
  | 0, _, _, _, _, _, _, _, _ => ss_fail
  | n + 1, X, Wx, ok, tk, hkind, hp, hfr, st => by
    have S := snd (k := k) n X c Wx ok tk
    have ih := snd_ss (evS c fz n) (snd_s n X Wx ok tk hkind hp hfr)
    cases st with
    | Pass pos => exact ss_pass
    | Break pos => exact ss_break
    | Continue pos => exact ss_continue
    | Expr e pos =>
      show PS X _ (rdS X Wx (if notComp e then WS.bind (evE c n e) fun _ => WS.next else WS.fail))
      by_cases h : notComp e = true
      · rw [if_pos h]; exact ss_expr (S.e e) (swap_of h _ _ _)
      · rw [if_neg h]; exact ss_fail
    | Return e pos =>
      cases e with
      | none => exact ss_retN
      | some e => exact ss_ret (se_frz (fz pos) (S.e e))
    | If t a b pos => exact ss_if (S.t t) (ih a) (ih b)
    | For tg iter body orelse pos =>
      cases orelse with
      | cons _ _ => exact ss_fail
      | nil =>
        show PS X _ (rdS X Wx (if notSet iter then WS.bind (evI c n iter) fun b => WS.loop b (fun d => WS.seq (WS.store fun env => evG c n none tg d env) (seqW (evS c fz n) body)) b.1 else WS.fail))
        by_cases h : notSet iter = true
        · rw [if_pos h]; exact ss_for hp ok.calm (S.i tg iter) (S.g none tg) (ih body) (fold_of h X.env)
        · rw [if_neg h]; exact ss_fail
    | While t body orelse pos =>
      cases orelse with
      | cons _ _ => exact ss_fail
      | nil => exact ss_while hp (S.t t) (ih body)
    | AugAssign tg op e pos =>
      cases tg with
      | Name x p =>
        show PS X _ (rdS X Wx (if isLoc c x then match slotOf c.N x with
          | some i => WS.bind (fun env => W.bind (varW i env) fun x => W.bind (evE c n e env) fun y => augW op x y) fun d => WS.store fun env => .pure (env.set i (some d))
          | none => WS.fail
        else WS.fail))
        by_cases h : isLoc c x = true
        · rw [if_pos h]
          cases es : slotOf c.N x with
          | none => exact ss_fail
          | some i =>
            have hl : c.sc.names.lookup x = some .local ∨ (c.sc.names.lookup x = some .cell ∧ c.sto x = true) := by
              unfold isLoc at h
              split at h
              · rename_i z; exact .inl z
              · rename_i z; exact .inr ⟨z, h⟩
              · cases h
            refine ss_aug (by rw [ok.N]; exact ok.nd) (by rw [ok.N]; exact slotOf_ok es) ?_ (S.e e) ?_
            · rw [ok.sc]
              rcases hl with z | ⟨z, _⟩
              · exact .inl z
              · exact .inr z
            · rw [ok.sc]
              rcases hl with z | ⟨_, z⟩
              · exact .inr z
              · exact .inl (ok.sto x z)
        · rw [if_neg h]; exact ss_fail
      | _ => exact ss_fail
    | Assign tgs e pos =>
      rcases tgs with _ | ⟨tg, _ | ⟨tg', r⟩⟩
      · exact ss_fail
      · cases tg with
        | Name y py =>
          show PS X _ (rdS X Wx (if notComp e then plainAsg c n (.Name y py) e else setLc c n y py e))
          by_cases h : notComp e = true
          · rw [if_pos h]; exact snd_asg ok S rfl
          · rw [if_neg h]; exact snd_setLc ok (fun n => snd n) tk hkind
        | Tuple ts k1 p1 =>
          cases e with
          | Tuple vs k2 p2 =>
            show PS X _ (rdS X Wx (match swapN c.sc ts vs with
              | some none => plainAsg c n (.Tuple ts k1 p1) (.Tuple vs k2 p2)
              | some (some r) => if vs.all notStar then parW c ts vs r fun env => argsW env (vs.map (evE c n)) else WS.fail
              | none => WS.fail))
            cases hs : swapN c.sc ts vs with
            | none => exact ss_fail
            | some o =>
              cases o with
              | none => exact snd_asg ok S (swapN_ok hkind (by rw [ok.sc]; exact hs))
              | some r =>
                simp only
                by_cases h : vs.all notStar = true
                · rw [if_pos h]; exact snd_par ok S hkind hs h
                · rw [if_neg h]; exact ss_fail
          | _ => exact snd_asg ok S rfl
        | Subscript o i p => exact snd_asg ok S rfl
        | _ => exact ss_fail
      · cases tg <;> first | exact ss_fail | (cases e <;> exact ss_fail)
    | Raise e cause pos =>
      cases e with
      | none => exact ss_fail
      | some e =>
        cases cause with
        | some _ => cases e <;> first | exact ss_fail | (rename_i f args kws p'; cases f <;> first | exact ss_fail | (cases kws <;> exact ss_fail))
        | none =>
          cases e with
          | Call f args kws p' =>
            cases f with
            | Name x p =>
              cases kws with
              | cons _ _ => exact ss_fail
              | nil =>
                show PS X _ (rdS X Wx (match c.glb x with
                  | some (.exc _) => WS.bind (evE c n (.Call (.Name x p) args [] p')) raiseW
                  | _ => WS.fail))
                cases eg : c.glb x with
                | none => exact ss_fail
                | some g =>
                  cases g with
                  | exc xi =>
                    cases n with
                    | zero => exact ⟨fun _ _ _ _ _ _ ⟨_, _, _, h⟩ => h.elim⟩
                    | succ n => exact snd_raise ok tk (snd (k := k) n X c Wx ok tk) eg
                  | _ => exact ss_fail
            | _ => exact ss_fail
          | _ => exact ss_fail
    | Try body hs orelse fin pos =>
      have tr : ∀ {x nm y nm' : Str} {np py pn pa pos' : Pos}, PS X (.Try body [.ExceptHandler (some (.Name x np)) (some nm) [.Assign [.Name y py] (.Name nm' pn) pa] pos'] [] [] pos) (rdS X Wx (if decide (nm' = nm) && isLocal c nm && isLocal c y && isGlo c.sc x && okName x && okName nm then match c.glb x, slotOf c.N nm, slotOf c.N y with
          | some (.exc _), some i, some j => WS.tryK x i j (seqW (evS c fz n) body)
          | _, _, _ => WS.fail
        else WS.fail)) := by
        intro x nm y nm' np py pn pa pos'
        by_cases hc : (decide (nm' = nm) && isLocal c nm && isLocal c y && isGlo c.sc x && okName x && okName nm) = true
        · rw [if_pos hc]
          simp only [Bool.and_eq_true, decide_eq_true_eq] at hc
          obtain ⟨⟨⟨⟨⟨rfl, h1⟩, h2⟩, h3⟩, h4⟩, h5⟩ := hc
          cases eg : c.glb x with
          | none => exact ss_fail
          | some g =>
            cases g with
            | exc xi =>
              cases ei : slotOf c.N nm' with
              | none => exact ss_fail
              | some i =>
                cases ej : slotOf c.N y with
                | none => exact ss_fail
                | some j =>
                  obtain ⟨F, hg⟩ := ok.glb x _ eg
                  refine ss_try hfr.1 hfr.2.1 hfr.2.2 (by rw [ok.N]; exact ok.nd) (by rw [ok.N]; exact slotOf_ok ei) (by rw [ok.sc]; exact isLocal_ok h1) (by rw [ok.N]; exact slotOf_ok ej) (by rw [ok.sc]; exact isLocal_ok h2) F (ok.gl h3) (okName_ok h4).1 tk (okName_ok h5).1 (okName_ok h5).2.1 ?_
                  intro W pn xe tk' hp'
                  exact snd_ss (X := X.tr pn xe) (evS c fz n) (snd_s n (X.tr pn xe) W (ok.tr pn xe) tk' hkind hp' hfr) body
            | _ => exact ss_fail
        · rw [if_neg hc]; exact ss_fail
      unfold evS
      split
      all_goals first | (rename_i heq; cases heq; done) | (rename_i heq; cases heq; exact tr) | exact ss_fail
    | _ => exact ss_fail
end
end Mir

/-! Mir16: defs, the whole program, the law's end. -/
namespace Mir
open PySem L2 PyProof.Rows

/-- THE RULE for a def of the text, where nothing is being shown -/
theorem fnG_of {CX : CXT} {P : Program} {w : World} {K : PySem.W.Frag} {mg : Str → Option Value} {base : Heap} {k : Nat} {f : Addr} {name qual : Str} {params : Arguments} {body : List Stmt} {scope : Scope} {dV kV doc pm cdv ct oc : Value} {an od : Option Addr}
    {osl : Array (Option Value)} {N ps : List Str} {sp : Sp} (lk : K.lookup f = some ⟨oc, od, .func (PySem.W.fnOf name qual params body scope dV kV doc pm an cdv ct), osl⟩) (hcd : PySem.W.codeIn K cdv qual = true) (S : FnScope N ps scope)
    (len : ∀ vs H Q E, sp vs H Q E → vs.length = ps.length)
    (hbody : ∀ (A : Around) (outer : List Env) (s : Shared) (H : Hp) (vs : List V) (Q : VK) (E : XK), Room k (A.deeper (envOfC qual scope s.heap.objs.size f cdv)) → (A.deeper (envOfC qual scope s.heap.objs.size f cdv)).guards = some [] → sp vs H Q E →
      ∃ t, PSs (cxOf CX P w K mg base N qual scope f cdv A outer s H E) body t ∧ t { nx := fun _ H' => Q .non H', rt := Q } (start N vs) H) :
    FnG P w K mg base CX (k + 1) f (PySem.W.fnOf name qual params body scope dV kV doc pm an cdv ct) ps sp := by
  refine ⟨len, fun A outer s H args us vs Q E hr hgd e0 hb r hsp => ?_⟩
  have hl := len _ _ _ _ hsp
  have KX : K.In s.heap := e0.mod.kin.keeps fun b o e => (e0.bs b o e).1
  have lim : s.heap.NoLimit := e0.mod.nolimit.keeps fun b o e => (e0.bs b o e).1
  have hkind : ∀ y ∈ ps.zip us, scope.names.lookup y.1 = some .local ∨ (scope.names.lookup y.1 = some .cell ∧ ((cellsFrom (s.heap.objs.size + 1) scope.names []).lookup y.1).isSome = true) := fun ⟨n, v⟩ hy => by
    rcases S.par n (List.of_mem_zip hy).1 with q | q
    · exact .inl q
    · exact .inr ⟨q, PySem.W.cellsFrom_some _ _ _ (.inl q)⟩
  refine codeAny_call_function hr.depth (KX _ _ lk) rfl S.co S.gen rfl (PySem.W.codeRec_of KX hcd) (hb _ _ _ _ ?_)
  refine wpAny_newFunctionEnv_cells S.kind hkind fun env he s1 x => ?_
  subst he
  refine ⟨lim.keeps x.toInCall.keep, codeAny_func ?_⟩
  obtain ⟨t, ht, hq⟩ := hbody A outer s H vs Q E (hr.deeper _) (by exact hgd) hsp
  have I : Inv (cxOf CX P w K mg base N qual scope f cdv A outer s H E) [] (start N vs) H s1 := inv_start S hr.hd e0 hl r x
  refine wpAny_mono (ht.run [] s1 (start N vs) H _ I hq) (fun fl s' hs => ?_) fun e s' hs => hs
  have fin : ∀ {σ' : L2.St} {H' : Hp} {v : V} {u : Value}, Inv (cxOf CX P w K mg base N qual scope f cdv A outer s H E) [] σ' H' s' → RelV v u → Q v H' → CE outer P w H s Q u s' :=
    fun {σ' H' v u} J rv q => ⟨v, H', J.os, J.bare, J.base, J.hok, rv, q⟩
  cases fl with
  | ret u =>
    obtain ⟨v, σ', H', J, rv, q⟩ := hs
    exact fin J rv q
  | next =>
    obtain ⟨σ', H', J, q⟩ := hs
    exact fin (v := V.non) (u := Value.none) J rfl q
  | brk =>
    obtain ⟨_, _, _, q⟩ := hs
    exact False.elim q
  | cont =>
    obtain ⟨_, _, _, q⟩ := hs
    exact False.elim q
/-! ### the program by trees -/
structure DefI where
  ps : List Str
  N : List Str
  body : List Stmt
  scope : Scope
  kws : List KwS := []
structure Prog where
  defs : List (Str × DefI)
  excs : List (Str × XI)
  vals : List (Str × D)
  lv : Pos → Bool
  fz : Pos → Bool
  n : Nat
def Prog.glb (P : Prog) (x : Str) : Option Gv := match P.defs.lookup x with
  | some d => some (.fn d.ps.length d.kws)
  | none => match P.excs.lookup x with
    | some xi => some (.exc xi)
    | none => (P.vals.lookup x).map .val
def startE (N : List Str) (ds : List D) : Ev := ds.map some ++ List.replicate (N.length - ds.length) none
def Prog.ctx (P : Prog) (df : DefI) (call : Str → List D → W D) : Ctx := ⟨df.N, df.scope, fun _ => true, P.lv, P.glb, call⟩
/-- a statement's outcome as a def's -/
def outW (s : WS) (env : Ev) : W D := ⟨fun M Q E => s.run env M (fun o _ M' => match o with
    | .nx => Q .non M'
    | .rt d => Q d M'
    | .bk => False
    | .ct => False) (fun x _ M' => E x M'),
  fun h q e => s.mono h (fun o _ M' z => by
    cases o with
    | nx => exact q _ _ z
    | rt d => exact q _ _ z
    | bk => exact z
    | ct => exact z) fun x _ M' z => e _ _ z⟩
def bodyW (P : Prog) (df : DefI) (call : Str → List D → W D) (ds : List D) : W D := outW (seqW (evS (P.ctx df call) P.fz P.n) df.body) (startE df.N ds)
def run (P : Prog) : Nat → Str → List D → W D
  | 0, _, _ => .fail
  | k + 1, x, ds => match P.defs.lookup x with
    | none => match P.excs.lookup x with
      | some xi => .pure (.exc ⟨x, xi.b⟩ (fvD ds xi.fl []))
      | none => .fail
    | some df => bodyW P df (run P k) ds
/-- what the top has left is the program -/
structure ProgOk (K : PySem.W.Frag) (mg : Str → Option Value) (P : Prog) : Prop where
  defs : ∀ x df, P.defs.lookup x = some df → ∃ x' qual st f fd, Fun K x' qual st f fd ∧ df.body = defBody st ∧ df.scope = defScope st ∧ mg x = some (.ref f) ∧ Binds K fd df.ps [] ∧ FnScope df.N df.ps df.scope ∧ ∀ s ∈ df.kws, KBs K fd df.ps s.n s
  excs : ∀ x xi, P.excs.lookup x = some xi → ∀ (Pr : Program) (w : World), XOk Pr w K mg x xi
  vals : ∀ x d, P.vals.lookup x = some d → ∃ u v, mg x = some u ∧ RelV v u ∧ ∀ H M, Rep K mg H M d v
  non : ∀ x, P.glb x = none → (biOf x).isSome = true ∨ (tyOf x).isSome = true ∨ (xbOf x).isSome = true → mg x = none
  rng : mg "range" = none
section
variable {Pr : Program} {w : World} {K : PySem.W.Frag} {mg : Str → Option Value} {P : Prog}
theorem start_good {N : List Str} {ds : List D} {vs : List V} {H : Hp} {M : MS} (R : RelM K mg H M) (r : RepL K mg H M ds vs) : GoodK K mg (startE N ds) M (L2.start N vs) H := by
  refine ⟨?_, fun i d h => ?_, R⟩
  · unfold startE L2.start
    simp [r.length]
  · unfold startE at h
    unfold L2.start
    by_cases hi : i < ds.length
    · rw [List.getElem?_append_left (by simpa using hi), List.getElem?_map] at h
      cases e : ds[i]? with
      | none => rw [e] at h; cases h
      | some d' =>
        rw [e] at h; cases h
        obtain ⟨v, h1, h2⟩ := r.get e
        refine ⟨v, ?_, h2⟩
        rw [List.getElem?_append_left (by rw [List.length_map, ← r.length]; exact hi), List.getElem?_map, h1]; rfl
    · rw [List.getElem?_append_right (by simpa using hi), List.getElem?_replicate] at h
      split at h <;> cases h
theorem fn_all (ok : ProgOk K mg P) : ∀ (k : Nat) (x : Str) (df : DefI), P.defs.lookup x = some df → ∃ f fd, mg x = some (.ref f) ∧ PySem.W.keepIn K (.ref f) = true ∧ Binds K fd df.ps [] ∧ (∀ s ∈ df.kws, KBs K fd df.ps s.n s) ∧ ∀ base : Heap, FnG Pr w K mg base (CX Pr w) (k + 2) f fd df.ps (spOf K mg df.ps.length (run P k x))
  | 0, x, df, e => by
    obtain ⟨x', qual, st, f, fd, F, _, _, hm, hb, _, hkb⟩ := ok.defs x df e
    exact ⟨f, fd, hm, F.kp, hb, hkb, fun base => ⟨fun vs H Q E ⟨_, _, _, _, _, h⟩ => h.elim, fun A outer s H args us vs Q E _ _ _ _ _ ⟨_, _, _, _, _, h⟩ => h.elim⟩⟩
  | k + 1, x, df, e => by
    obtain ⟨x', qual, st, f, fd, F, eb, es, hm, hb, hS, hkb⟩ := ok.defs x df e
    refine ⟨f, fd, hm, F.kp, hb, hkb, fun base => ?_⟩
    obtain ⟨oc, od, kV, doc, pm, an, cdv, ct, osl, rfl, lk, hcd⟩ := F.ex
    have hS' : FnScope df.N df.ps (defScope st) := by rw [← es]; exact hS
    refine fnG_of lk hcd hS' ?_ ?_
    · rintro vs H Q E ⟨ds, M, hl, R, r, _⟩
      rw [← r.length]; exact hl
    · rintro A outer s H vs Q E hr hgd ⟨ds, M, hl, R, r, h⟩
      have hrun : run P (k + 1) x ds = bodyW P df (run P k) ds := by
        show (match P.defs.lookup x with
          | none => match P.excs.lookup x with
            | some xi => W.pure (D.exc ⟨x, xi.b⟩ (fvD ds xi.fl []))
            | none => W.fail
          | some df => bodyW P df (run P k) ds) = _
        rw [e]
      rw [hrun] at h
      have cok : CtxOk (cxOf (CX Pr w) Pr w K mg base df.N qual (defScope st) f cdv A outer s H E) (P.ctx df (run P k)) (k + 2) := {
        N := rfl
        nd := hS.nd
        sc := es.symm
        calm := rfl
        gd := hgd
        rm := hr
        two := Nat.le_add_left 2 k
        sto := fun _ _ => rfl
        glb := fun y g hy => by
          simp only [Prog.ctx, Prog.glb] at hy
          cases ed : P.defs.lookup y with
          | some d =>
            rw [ed] at hy; cases hy
            obtain ⟨f', fd', m', k', b', kb', F'⟩ := fn_all ok k y d ed
            exact ⟨f', fd', d.ps, m', k', b', rfl, kb', F' base⟩
          | none =>
            rw [ed] at hy
            simp only at hy
            cases ex : P.excs.lookup y with
            | some xi =>
              rw [ex] at hy; cases hy
              refine ⟨ok.excs y xi ex Pr w, fun ds M Q E h => ?_⟩
              cases k with
              | zero => exact h.elim
              | succ k =>
                have e2 : run P (k + 1) y ds = .pure (.exc ⟨y, xi.b⟩ (fvD ds xi.fl [])) := by
                  show (match P.defs.lookup y with
                    | none => match P.excs.lookup y with
                      | some xi => W.pure (D.exc ⟨y, xi.b⟩ (fvD ds xi.fl []))
                      | none => W.fail
                    | some df => bodyW P df (run P k) ds) = _
                  rw [ed, ex]
                simp only [Prog.ctx] at h
                rw [e2] at h
                exact h
            | none =>
              rw [ex] at hy
              obtain ⟨d, hd, rfl⟩ := Option.map_eq_some_iff.mp hy
              exact ok.vals y d hd
        non := ok.non
        rng := ok.rng }
      have tk : Takes (cxOf (CX Pr w) Pr w K mg base df.N qual (defScope st) f cdv A outer s H E) (fun cls d _ H => E cls d H) := takes_of rfl rfl rfl rfl
      have hk : (cxOf (CX Pr w) Pr w K mg base df.N qual (defScope st) f cdv A outer s H E).env.scope.kind = .function := hS'.kind
      have body := snd_ss (evS (P.ctx df (run P k)) P.fz P.n) (snd_s (fz := P.fz) P.n _ _ cok tk hk (passes_of rfl) ⟨rfl, rfl, rfl⟩) df.body
      rw [eb] at body
      refine ⟨_, body, startE df.N ds, M, start_good R r, ?_⟩
      rw [← eb]
      refine WS.mono _ (show (seqW (evS (P.ctx df (run P k)) P.fz P.n) df.body).run (startE df.N ds) M (fun o _ M' => match o with
        | .nx => _
        | .rt d => _
        | .bk => False
        | .ct => False) (fun x _ M' => _) from h) ?_ ?_
      · intro o env' M' q
        cases o with
        | nx => exact fun σ' H' f' G' => q .non H' f' G'.rel rfl
        | rt d => exact q
        | bk => exact q.elim
        | ct => exact q.elim
      · intro x' env' M' q cls od σ' H' f' G' xr
        exact q cls od H' f' G'.rel xr
end
/-! ### the law's end -/
theorem law_callG {P : Program} {w : World} {K : PySem.W.Frag} {mg mb : Str → Option Value} {k : Nat} {fa a : Addr} {fd : FuncData} {x : Str} {g : List D → W D} {s₁ : Shared} {vs : List Value} {ns : List Int}
    (KX : K.In s₁.heap) (hns : s₁.heap.Ns mainGlobals mg) (hb : s₁.heap.Ns builtinsNs mb) (hbb : ∀ x : Str, x ≠ "__name__" → mb x = bootBuiltins x) (hlim : s₁.heap.NoLimit) (hg : s₁.gens = #[])
    (ha : s₁.heap.get? a = some { cls := .type "list", data := .seq vs.toArray }) (hi : IntsAre vs ns) (hl : ns.length ≤ sizeLine) (hr : Room k callerA) (hsys : ∃ o, s₁.heap.get? sysModules = some o ∧ ∃ es ep, o.data = .dict es ep) (hks : K.lookup sysModules = none)
    (F : ∀ base : Heap, K.In base → base.Ns mainGlobals mg → FnG P w K mg base (CX P w) k fa fd [x] (spOf K mg 1 g)) (hbind : ∀ u : Value, BindsTo s₁ fd ⟨[u], []⟩ [(x, u)])
    (hsp : (g [.scr (ns.map D.int)]).run (fun _ => none) (fun d _ => d = .bl true) (fun _ _ => False)) :
    codeAny (model P w) callerA (.call (.ref fa) ⟨[.ref a], []⟩) (fun r s' => r = .ok (.ret (.bool true)) ∧ OldK s₁.heap s'.heap ∧ s'.os = s₁.os ∧ AllBare s'.gens) s₁ := by
  have rv := vals_ints hi
  have lenV := hi.length
  obtain ⟨so, hso, ses, sep, hsd⟩ := hsys
  have nsys : a ≠ sysModules := by
    rintro rfl
    rw [ha] at hso; cases hso; cases hsd
  have core : ∀ H : Hp, (∀ b, H b = none ∨ ∃ o u, H b = some (.frz o u)) → (∃ o y, H sysModules = some (.frz o (.own y))) → ((Rd H a (.lst (ns.map V.int))) ∨ SqL K (fun _ => none) a (ns.map V.int)) → HOk P w H s₁.heap → (∀ b, H b ≠ none → b = a ∨ b = sysModules) → (H a ≠ none → K.lookup a = none) →
      codeAny (model P w) callerA (.call (.ref fa) ⟨[.ref a], []⟩) (fun r s' => r = .ok (.ret (.bool true)) ∧ OldK s₁.heap s'.heap ∧ s'.os = s₁.os ∧ AllBare s'.gens) s₁ := by
    intro H hO hsysH hS hok hA hK
    have base_of : ∀ {b : Addr} {o : Obj}, s₁.heap.get? b = some o → H b = none → (hidT s₁.heap H).get? b = some o := fun e n => hidT_get e n
    have noA : ∀ {b : Addr} {o : Obj} {es : Array DictEntry} {ep : Nat}, b ≠ sysModules → s₁.heap.get? b = some o → o.data = .dict es ep → H b = none := fun {b o es ep} hb e d => by
      cases q : H b with
      | none => rfl
      | some u =>
        rcases hA b (by rw [q]; simp) with e' | e'
        · subst e'
          rw [ha] at e; cases e
          have d' : Data.seq vs.toArray _ = Data.dict es ep := d
          cases d'
        · exact absurd e' hb
    have nsK : ∀ {b : Addr} {m : Str → Option Value}, b ≠ sysModules → s₁.heap.Ns b m → (hidT s₁.heap H).Ns b m := fun {b m} hb ⟨o, es, ep, e, d, r⟩ => ⟨o, es, ep, base_of e (noA hb e d), d, r⟩
    have hKb : K.In (hidT s₁.heap H) := fun b o e => base_of (KX b o e) (by
      cases q : H b with
      | none => rfl
      | some u =>
        rcases hA b (by rw [q]; simp) with e' | e'
        · subst e'
          rw [hK (by rw [q]; simp)] at e; cases e
        · subst e'
          rw [hks] at e; cases e)
    have hM : Mod K mg (hidT s₁.heap H) := ⟨hKb, nsK (by decide) hns, ⟨mb, nsK (by decide) hb, hbb⟩, let ⟨mc, h1, h2⟩ := hlim; ⟨mc, nsK (by decide) h1, h2⟩⟩
    have e0 : Env0 P w K mg (hidT s₁.heap H) callerA [] s₁ H := ⟨rfl, hM, fun b o e => of_hidT e, Nat.le_of_eq (hidT_size _ _), trivial, fun b hb => absurd (show b ∈ ([] : List Addr) from hb) (by simp), hok, .of_eq hg⟩
    have R : RelM K mg H (fun _ => none) := ⟨fun _ _ z => (by cases z), ⟨hsysH, rfl⟩⟩
    have hsp' : spOf K mg 1 g [.ref a] H (fun v _ => v = .bl true) (fun _ _ _ => False) := by
      refine ⟨[.scr (ns.map D.int)], fun _ => none, rfl, R, ⟨.ref a, [], rfl, ⟨a, ns.map V.int, rfl, hS.imp (fun z => ⟨z, rfl⟩) id, RepL.ints ns⟩, rfl⟩, W.mono _ hsp ?_ fun _ _ z => z.elim⟩
      intro d M' e v H' _ _ r
      subst e
      exact r
    refine codeAny_mono ((F _ hKb (nsK (by decide) hns)).run callerA [] s₁ H ⟨[.ref a], []⟩ [.ref a] [.ref a] _ _ hr rfl e0 (hbind (.ref a)) (.cons rfl .nil) hsp') fun r s' h => ?_
    cases r with
    | error e =>
      obtain ⟨_, _, _, _, _, _, _, _, _, _, _, _, z⟩ := h
      exact z.elim
    | ok fl =>
      cases fl with
      | next => exact False.elim h
      | brk => exact False.elim h
      | cont => exact False.elim h
      | ret u =>
        obtain ⟨v, H', os, bare, un, hok', r', q⟩ := h
        have q' : v = .bl true := q
        subst q'
        obtain rfl : u = Value.bool true := r'
        refine ⟨rfl, OldK.of_keep fun b o e => ?_, os, bare⟩
        cases q : H b with
        | none => exact un.keep b o e q (by intro z; exact absurd (show b ∈ ([] : List Addr) from z) (by simp)) (by simp)
        | some u =>
          rcases hO b with z | ⟨ob, xs, z⟩
          · rw [q] at z; cases z
          · have z2 := un.frzs b ob _ z
            obtain ⟨e1, _⟩ := hok b _ z
            obtain ⟨e2, _⟩ := hok' b _ z2
            rw [e] at e1; cases e1
            exact e2
  cases hk : K.lookup a with
  | some o =>
    have e := KX a o hk
    rw [ha] at e
    cases e
    refine core (fun b => if b = sysModules then some (.frz so (.own 0)) else none) (fun b => ?_) ⟨so, 0, if_pos rfl⟩ (.inr (.inr ⟨_, vs.toArray, _, hk, rfl, rfl, rfl, by rw [List.size_toArray, lenV]; exact hl, by simpa using rv⟩)) (fun b u z => ?_) (fun b z => ?_) fun z => ?_
    · by_cases hb : b = sysModules
      · exact .inr ⟨_, _, if_pos hb⟩
      · exact .inl (if_neg hb)
    · by_cases hb : b = sysModules
      · have z' := (if_pos hb).symm.trans z
        cases z'
        subst hb
        exact ⟨hso, so, hso⟩
      · have z' := (if_neg hb).symm.trans z
        cases z'
    · by_cases hb : b = sysModules
      · exact .inr hb
      · exact absurd (if_neg hb) z
    · exact absurd (if_neg nsys) z
  | none =>
    refine core (fun b => if b = sysModules then some (.frz so (.own 0)) else if b = a then some (.frz { cls := .type "list", data := .seq vs.toArray } (.lst (ns.map V.int))) else none) (fun b => ?_) ⟨so, 0, if_pos rfl⟩
      (.inl (.inr ⟨{ cls := .type "list", data := .seq vs.toArray }, by simp only [if_neg nsys, if_true]⟩)) (fun b u z => ?_) (fun b z => ?_) fun _ => hk
    · by_cases hb : b = sysModules
      · exact .inr ⟨_, _, if_pos hb⟩
      · by_cases hb' : b = a
        · exact .inr ⟨_, _, (if_neg hb).trans (if_pos hb')⟩
        · exact .inl (by simp only [if_neg hb, if_neg hb'])
    · by_cases hb : b = sysModules
      · have z' := (if_pos hb).symm.trans z
        cases z'
        subst hb
        exact ⟨hso, so, hso⟩
      · have z' := (if_neg hb).symm.trans z
        by_cases hb' : b = a
        · have z'' := (if_pos hb').symm.trans z'
          cases z''
          subst hb'
          exact ⟨ha, by rw [List.length_map]; exact hl, vs, _, rv, ha⟩
        · have z'' := (if_neg hb').symm.trans z'
          cases z''
    · by_cases hb : b = sysModules
      · exact .inr hb
      · by_cases hb' : b = a
        · exact .inl hb'
        · exact absurd (by simp only [if_neg hb, if_neg hb']) z
/-- the goal that k_head leaves (case hc), from the law by trees -/
theorem walkM {l : PySem.W.OpenLaw} {n k : Nat} {q : Program} {loose : List Str} {XP : (Str → Option Value) → Heap → Prop} {YP : World → Heap → Prop} {d : DefRec} {K : Params → PySem.W.Frag} {x : Str} {P : Prog} {df : DefI}
    (hn : l.most = some n) (hn2 : n ≤ sizeLine) (hdf : d.params.defaults = []) (hr : Room (k + 2) callerA) (hi : importsNone q = true)
    (hY : ∀ (w : World) (h : Heap), YP w h → (K w.params).In h) (hks : ∀ w : World, (K w.params).lookup sysModules = none)
    (hP : ∀ (w : World) (mg : Str → Option Value) (h : Heap), (K w.params).In h → h.Ns mainGlobals mg → ProgOk (K w.params) mg P) (hd : P.defs.lookup d.name = some df) (hps : df.ps = [x])
    (hlaw : ∀ ns : List Int, ns.length ≤ n → (run P k d.name [.scr (ns.map D.int)]).run (fun _ => none) (fun d _ => d = .bl true) (fun _ _ => False)) :
    PySem.W.WalkO q loose XP YP l.row.toRowW d [] (fun f vs => PySem.call f vs) := by
  refine Att.attach_call hn hdf fun w s₀ s₁ mg mb fa o pm cd doc a vs ns G Y ho hd' hcd hmg hobj hints hlen hg => ?_
  have KX := hY w _ Y
  have ok := hP w mg _ KX G.T.g
  obtain ⟨mm, ⟨so, es, ep, hso, hsd, _⟩, _⟩ := (G.T.seer hi).mods
  obtain ⟨f, fd, hm, _, hb, _, F⟩ := fn_all (Pr := l.prog) (w := w) ok k d.name df hd
  rw [hmg] at hm
  cases hm
  rw [hps] at hb F
  exact law_callG KX G.T.g G.T.b G.T.builtins G.T.nolimit hg hobj hints (Nat.le_trans hlen hn2) hr ⟨so, hso, es, ep, hsd⟩ (hks w) (fun base _ _ => F base) (fun u => hb s₁ [u] KX rfl) (hlaw ns hlen)
end Mir

/-! Mir17: words for a law's own table. -/
namespace Mir
open PySem L2 PyProof.Rows

def AllL {α : Type} (Q : α → Prop) : List α → Prop
  | [] => True
  | a :: r => Q a ∧ AllL Q r
theorem AllL.mem {α : Type} {Q : α → Prop} : ∀ {l : List α}, AllL Q l → ∀ a ∈ l, Q a
  | _ :: _, h, a, hm => by
    rcases List.mem_cons.mp hm with rfl | hm
    · exact h.1
    · exact AllL.mem h.2 a hm
section
variable {K : PySem.W.Frag} {mg : Str → Option Value} {P : Prog}
theorem defs_of (h : AllL (fun p : Str × DefI => ∃ x' qual st f fd, Fun K x' qual st f fd ∧ p.2.body = defBody st ∧ p.2.scope = defScope st ∧ mg p.1 = some (.ref f) ∧ Binds K fd p.2.ps [] ∧ FnScope p.2.N p.2.ps p.2.scope ∧ ∀ s ∈ p.2.kws, KBs K fd p.2.ps s.n s) P.defs) :
    ∀ x df, P.defs.lookup x = some df → ∃ x' qual st f fd, Fun K x' qual st f fd ∧ df.body = defBody st ∧ df.scope = defScope st ∧ mg x = some (.ref f) ∧ Binds K fd df.ps [] ∧ FnScope df.N df.ps df.scope ∧ ∀ s ∈ df.kws, KBs K fd df.ps s.n s :=
  fun x df e => AllL.mem h (x, df) (PySem.mem_of_lookup e)
theorem vals_of (h : AllL (fun p : Str × D => ∃ u v, mg p.1 = some u ∧ RelV v u ∧ ∀ H M, Rep K mg H M p.2 v) P.vals) : ∀ x d, P.vals.lookup x = some d → ∃ u v, mg x = some u ∧ RelV v u ∧ ∀ H M, Rep K mg H M d v :=
  fun x d e => AllL.mem h (x, d) (PySem.mem_of_lookup e)
theorem excs_of (h : AllL (fun p : Str × XI => ∀ (Pr : Program) (w : World), XOk Pr w K mg p.1 p.2) P.excs) : ∀ x xi, P.excs.lookup x = some xi → ∀ (Pr : Program) (w : World), XOk Pr w K mg x xi :=
  fun x xi e => AllL.mem h (x, xi) (PySem.mem_of_lookup e)
/-- a class that the top has left -/
theorem xok_mk {x : Str} {xi : XI} {C fI : Addr} {name qual : Str} {params : Arguments} {body : List Stmt} {scope : Scope} {dV kV doc pm cdv ct oc : Value} {an od : Option Addr} {osl : Array (Option Value)} (hm : mg x = some (.ref C)) (T : XC K C x xi.b)
    (iC : PySem.W.findIn K (.ref C) "__init__" = some (some (.ref fI))) (tI : PySem.W.typeIn K (.ref fI) = some (.type "function")) (lk : K.lookup fI = some ⟨oc, od, .func (PySem.W.fnOf name qual params body scope dV kV doc pm an cdv ct), osl⟩) (hcd : PySem.W.codeIn K cdv qual = true)
    (hb : Binds K (PySem.W.fnOf name qual params body scope dV kV doc pm an cdv ct) xi.N []) (hkb : ∀ s ∈ xi.kws, KBs K (PySem.W.fnOf name qual params body scope dV kV doc pm an cdv ct) xi.N (s.n + 1) s.up) (S : FnScope xi.N xi.N scope) (ib : IniB xi.N xi.b body xi.fl) (h0 : xi.N[0]? = some ("self" : Str)) (hno : ∀ p ∈ xi.fl, PySem.W.findIn K (.ref C) p.1 = some none)
    (hix : ∀ p ∈ xi.fl, 1 ≤ p.2 ∧ p.2 < xi.N.length) (hN : xi.N.length ≤ 1000) (hf : xi.fl.length ≤ 800) (hnm : ∀ y ∈ xi.N, (y == ("__debug__" : Str)) = false ∧ (y == ("__classdict__" : Str)) = false) (hg : scope.names.lookup (Str.ofString xi.b.nm) = some .globalImplicit)
    (hB : mg (Str.ofString xi.b.nm) = none) (vV : PySem.W.findCls K (.type xi.b.nm) (.type "type") "__init__" = some (.val (.builtin xi.b.ini))) : ∀ (Pr : Program) (w : World), XOk Pr w K mg x xi := fun Pr w =>
  ⟨C, fI, _, hm, T, iC, tI, hb, hno, hix, hN, hkb, fun base => fn_init lk hcd S T ib rfl h0 hf (fun p hp => (hix p hp).2) hno hnm hg hB (by cases xi.b <;> decide +kernel) (by cases xi.b <;> decide +kernel) vV 0⟩
/-- what the top has left of a class: the class itself, its __init__ -/
structure XF (K : PySem.W.Frag) (x qi : Str) (b : Xb) (st : Stmt) (fl : Flds) (C fI : Addr) (q : Str) (N : Addr) (bs : List Value) (sn : List Str) (sub : List Value) (ab : Bool) (col : Option Bool) (dd : Option Addr) (k0 k1 k2 k3 k5 : Option Value)
    (oc kV doc pm cdv ct : Value) (an od : Option Addr) (osl : Array (Option Value)) : Prop where
  ns : PySem.W.nsIn K mainGlobals x = some (some (.ref C))
  cls : K.lookup C = some (excClassObj x q C N bs b.bm true sn sub ab col dd k0 k1 k2 k3 k5 b.new)
  sa : PySem.W.findIn K (.ref C) "__setattr__" = some (some (.builtin "object.__setattr__"))
  ga : PySem.W.findIn K (.ref C) "__getattribute__" = some (some (.builtin "BaseException.__getattribute__"))
  gg : PySem.W.findIn K (.ref C) "__getattr__" = some none
  exC : PySem.W.subIn K (.ref C) (.type "BaseException") = some true
  tyC : PySem.W.typeIn K (.ref C) = some (.type "type")
  kC : PySem.W.keepIn K (.ref C) = true
  ca : PySem.W.findIn K (.ref C) "__class__" = some (some (.builtin "object.__class__"))
  cn : PySem.W.specialIn K (.builtin "object.__class__") "__get__" = some (some (.builtin "getset_descriptor.__get__"))
  tk : PySem.W.takesIn K (.builtin "object.__class__") = some true
  iC : PySem.W.findIn K (.ref C) "__init__" = some (some (.ref fI))
  tI : PySem.W.typeIn K (.ref fI) = some (.type "function")
  lk : K.lookup fI = some ⟨oc, od, .func (PySem.W.fnOf "__init__" qi (defArgs st) (defBody st) (defScope st) .none kV doc pm an cdv ct), osl⟩
  cd : PySem.W.codeIn K cdv qi = true
  vV : PySem.W.findCls K (.type b.nm) (.type "type") "__init__" = some (.val (.builtin b.ini))
  no : AllL (fun p : Str × Nat => PySem.W.findIn K (.ref C) p.1 = some none) fl
theorem xok_st {h : Heap} {x qi : Str} {b : Xb} {ns : List Str} {kws : List KwS} {st : Stmt} {fl : Flds} {C fI : Addr} {q : Str} {N : Addr} {bs : List Value} {sn : List Str} {sub : List Value} {ab : Bool} {col : Option Bool} {dd : Option Addr} {k0 k1 k2 k3 k5 : Option Value}
    {oc kV doc pm cdv ct : Value} {an od : Option Addr} {osl : Array (Option Value)} (X : K.In h) (G : h.Ns mainGlobals mg) (F : XF K x qi b st fl C fI q N bs sn sub ab col dd k0 k1 k2 k3 k5 oc kV doc pm cdv ct an od osl) (z : PySem.W.nsIn K mainGlobals (Str.ofString b.nm) = some none)
    (hb : ∀ us : List Value, us.length = ns.length → bindArgs (PySem.W.fnOf "__init__" qi (defArgs st) (defBody st) (defScope st) .none kV doc pm an cdv ct) ⟨us, []⟩ = pure (ns.zip us))
    (hkb : ∀ s ∈ kws, ∀ us ws : List Value, us.length = s.n + 1 → ws.length = s.ks.length → bindArgs (PySem.W.fnOf "__init__" qi (defArgs st) (defBody st) (defScope st) .none kV doc pm an cdv ct) ⟨us, s.ks.zip ws⟩ = pure (ns.zip (gat s.up.ord us ws))) (S : FnScope ns ns (defScope st)) (ib : IniB ns b (defBody st) fl) (h0 : ns[0]? = some ("self" : Str))
    (hix : ∀ p ∈ fl, 1 ≤ p.2 ∧ p.2 < ns.length) (hN : ns.length ≤ 1000) (hf : fl.length ≤ 800) (hnm : ∀ y ∈ ns, (y == ("__debug__" : Str)) = false ∧ (y == ("__classdict__" : Str)) = false) (hg : (defScope st).names.lookup (Str.ofString b.nm) = some .globalImplicit) :
    ∀ (Pr : Program) (w : World), XOk Pr w K mg x ⟨b, ns, fl, kws⟩ :=
  xok_mk (xi := ⟨b, ns, fl, kws⟩) (PySem.W.mg_of X G F.ns) ⟨⟨_, _, _, _, _, _, _, _, _, _, _, _, _, F.cls⟩, F.sa, F.ga, F.gg, F.exC, F.tyC, F.kC, F.ca, F.cn, F.tk⟩ F.iC F.tI F.lk F.cd (.all hb) (fun s hs => kbs_of (s := s.up) (hkb s hs)) S ib h0 (AllL.mem F.no) hix hN hf hnm hg (PySem.W.mg_none_of X G z) F.vV
theorem non_of {x : Str} (h : mg "len" = none ∧ mg "abs" = none ∧ mg "min" = none ∧ mg "max" = none ∧ mg "isinstance" = none ∧ mg "all" = none ∧ mg "any" = none ∧ mg "list" = none ∧ mg "tuple" = none ∧ mg "str" = none ∧ mg "int" = none ∧ mg "repr" = none ∧ mg "bool" = none ∧ mg "dict" = none ∧
      mg "ValueError" = none ∧ mg "IndexError" = none ∧ mg "LookupError" = none ∧ mg "RuntimeError" = none ∧ mg "ArithmeticError" = none ∧ mg "OverflowError" = none ∧ mg "KeyError" = none)
    (hb : (biOf x).isSome = true ∨ (tyOf x).isSome = true ∨ (xbOf x).isSome = true) : mg x = none := by
  obtain ⟨h1, h2, h3, h4, h5, h6, h7, h8, h9, h10, h11, h12, h13, h14, h15, h16, h17, h18, h19, h20, h21⟩ := h
  rcases hb with hb | hb | hb
  · obtain ⟨b, e⟩ := Option.isSome_iff_exists.mp hb
    rw [← biOf_ok e]
    cases b <;> assumption
  · obtain ⟨t, e⟩ := Option.isSome_iff_exists.mp hb
    obtain ⟨e1, e2⟩ := tyOf_ok e
    rw [← e1]
    cases t <;> first | exact absurd rfl e2 | assumption
  · obtain ⟨b, e⟩ := Option.isSome_iff_exists.mp hb
    rw [← xbOf_ok e]
    cases b <;> assumption
end
end Mir

/-! Mir18: running a shallow text: what each step comes to. -/
namespace Mir
open PySem L2 PyProof.Rows

/-- the same, kept closed -/
@[irreducible] def runI (P : Prog) (k : Nat) : Str → List D → W D := run P k
theorem run_of {P : Prog} {x : Str} {df : DefI} {F : (Str → List D → W D) → List D → W D} {k : Nat} {ds : List D} (h : P.defs.lookup x = some df) (e : bodyW P df = F) : runI P (k + 1) x ds = F (runI P k) ds := by
  unfold runI
  rw [← e]
  show (match P.defs.lookup x with
    | none => match P.excs.lookup x with
      | some xi => W.pure (D.exc ⟨x, xi.b⟩ (fvD ds xi.fl []))
      | none => W.fail
    | some df => bodyW P df (run P k) ds) = _
  rw [h]
theorem run_exc {P : Prog} {x : Str} {xi : XI} {k : Nat} {ds : List D} (h0 : P.defs.lookup x = none) (h : P.excs.lookup x = some xi) : runI P (k + 1) x ds = .pure (.exc ⟨x, xi.b⟩ (fvD ds xi.fl [])) := by
  unfold runI
  show (match P.defs.lookup x with
    | none => match P.excs.lookup x with
      | some xi => W.pure (D.exc ⟨x, xi.b⟩ (fvD ds xi.fl []))
      | none => W.fail
    | some df => bodyW P df (run P k) ds) = _
  rw [h0, h]
theorem run_to {P : Prog} {k : Nat} {x : Str} {ds : List D} {M : MS} {Q : D → MS → Prop} {E : XV → MS → Prop} (h : (runI P k x ds).run M Q E) : (run P k x ds).run M Q E := by
  unfold runI at h
  exact h
section
variable {α β : Type} {M : MS} {Q : α → MS → Prop} {E : XV → MS → Prop}
@[simp] theorem r_pure {a : α} : (W.pure a).run M Q E = Q a M := rfl
@[simp] theorem r_bind {m : W β} {k : β → W α} : (W.bind m k).run M Q E = m.run M (fun a M' => (k a).run M' Q E) E := rfl
@[simp] theorem r_fail : (W.fail : W α).run M Q E = False := rfl
@[simp] theorem r_need {c : Prop} {k : W α} : (W.need c k).run M Q E = (c ∧ k.run M Q E) := rfl
@[simp] theorem r_get {k : MS → W α} : (W.get k).run M Q E = (k M).run M Q E := rfl
@[simp] theorem r_put {p : Addr} {c : Cell} {k : W α} : (W.put p c k).run M Q E = k.run (M.set p c) Q E := rfl
@[simp] theorem r_new {c : Cell} {Q : D → MS → Prop} : (W.new c).run M Q E = ∀ p, M p = none → Q (.ref p) (M.set p c) := rfl
@[simp] theorem r_alloc {c : Cell} {k : Addr → W α} : (W.alloc c k).run M Q E = ∀ p, M p = none → (k p).run (M.set p c) Q E := rfl
@[simp] theorem r_del {p : Addr} {k : W α} : (W.del p k).run M Q E = k.run (M.del p) Q E := rfl
@[simp] theorem r_raise {x : XV} : (W.raise x : W α).run M Q E = E x M := rfl
@[simp] theorem r_noX {m : W α} : (noX m).run M Q E = m.run M Q (fun _ _ => False) := rfl
@[simp] theorem r_ite {c : Prop} [Decidable c] {a b : W α} : (if c then a else b).run M Q E = if c then a.run M Q E else b.run M Q E := by by_cases h : c <;> simp [h]
end
section
variable {env : Ev} {M : MS} {Q : Out → Ev → MS → Prop} {E : XV → Ev → MS → Prop} {α : Type}
@[simp] theorem s_next : WS.next.run env M Q E = Q .nx env M := rfl
@[simp] theorem s_out {o : Out} : (WS.out o).run env M Q E = Q o env M := rfl
@[simp] theorem s_fail : WS.fail.run env M Q E = False := rfl
@[simp] theorem s_seq {a b : WS} : (WS.seq a b).run env M Q E = a.run env M (fun o env' M' => match o with
    | .nx => b.run env' M' Q E
    | o => Q o env' M') E := rfl
@[simp] theorem s_bind {m : Ev → W α} {k : α → WS} : (WS.bind m k).run env M Q E = (m env).run M (fun a M' => (k a).run env M' Q E) (fun x M' => E x env M') := rfl
@[simp] theorem s_store {f : Ev → W Ev} : (WS.store f).run env M Q E = (f env).run M (fun env' M' => Q .nx env' M') (fun _ _ => False) := rfl
@[simp] theorem s_raise {x : XV} : (WS.raise x).run env M Q E = E x env M := rfl
@[simp] theorem s_raiseX {c : XN} {fs : List (Str × D)} : (raiseW (.exc c fs)).run env M Q E = E ⟨c, fs⟩ env M := rfl
@[simp] theorem s_tryK {x : Str} {i j : Nat} {body : WS} : (WS.tryK x i j body).run env M Q E = body.run env M Q (fun xv env' M' => if xv.cls.n = x then Q .nx (((env'.set i (some (.exc xv.cls xv.fs))).set j (some (.exc xv.cls xv.fs))).set i none) M' else E xv env' M') := rfl
@[simp] theorem s_ite {c : Prop} [Decidable c] {a b : WS} : (if c then a else b).run env M Q E = if c then a.run env M Q E else b.run env M Q E := by by_cases h : c <;> simp [h]
end
section
variable {env : Ev} {M : MS} {E : XV → MS → Prop}
@[simp] theorem r_outW {s : WS} {Q : D → MS → Prop} : (outW s env).run M Q E = s.run env M (fun o _ M' => match o with
    | .nx => Q .non M'
    | .rt d => Q d M'
    | .bk => False
    | .ct => False) (fun x _ M' => E x M') := rfl
@[simp] theorem r_var0 {d : D} {r : Ev} : varW 0 (some d :: r) = .pure d := rfl
@[simp] theorem r_varS {i : Nat} {o : Option D} {r : Ev} : varW (i + 1) (o :: r) = varW i r := by unfold varW; rw [List.getElem?_cons_succ]
@[simp] theorem r_args0 : argsW env [] = .pure [] := rfl
@[simp] theorem r_args1 {f : Ev → W D} {r : List (Ev → W D)} : argsW env (f :: r) = W.bind (f env) fun x => W.bind (argsW env r) fun xs => .pure (x :: xs) := rfl
@[simp] theorem r_frzF {d : D} : frzW false d = .pure d := rfl
@[simp] theorem r_wipe0 : wipeE env [] = env := rfl
end
section
variable {α β γ : Type}
@[simp] theorem w_pure {a : α} {k : α → W β} : W.bind (W.pure a) k = k a := rfl
@[simp] theorem w_assoc {m : W α} {k : α → W β} {l : β → W γ} : W.bind (W.bind m k) l = W.bind m fun a => W.bind (k a) l := rfl
@[simp] theorem w_need {c : Prop} {m : W α} {k : α → W β} : W.bind (W.need c m) k = W.need c (W.bind m k) := rfl
@[simp] theorem w_get {m : MS → W α} {k : α → W β} : W.bind (W.get m) k = W.get fun M => W.bind (m M) k := rfl
end
section
variable {env : Ev} {M : MS} {E : XV → MS → Prop} {Q : D → MS → Prop} {QB : Bool → MS → Prop}
@[simp] theorem bW_one {op : BoolOp} {f : Ev → W D} : boolW op env [f] = f env := rfl
@[simp] theorem bW_and {f g : Ev → W D} {r : List (Ev → W D)} : boolW .And env (f :: g :: r) = W.bind (f env) fun x => W.bind (truW x) fun t => if t then boolW .And env (g :: r) else .pure x := rfl
@[simp] theorem bW_or {f g : Ev → W D} {r : List (Ev → W D)} : boolW .Or env (f :: g :: r) = W.bind (f env) fun x => W.bind (truW x) fun t => if t then .pure x else boolW .Or env (g :: r) := rfl
@[simp] theorem bT_one {op : BoolOp} {f : Ev → W Bool} : boolT op env [f] = f env := rfl
@[simp] theorem bT_and {f g : Ev → W Bool} {r : List (Ev → W Bool)} : boolT .And env (f :: g :: r) = W.bind (f env) fun t => if t then boolT .And env (g :: r) else .pure false := rfl
@[simp] theorem bT_or {f g : Ev → W Bool} {r : List (Ev → W Bool)} : boolT .Or env (f :: g :: r) = W.bind (f env) fun t => if t then .pure true else boolT .Or env (g :: r) := rfl
@[simp] theorem r_trubl {b : Bool} : (truW (.bl b)).run M QB E = QB b M := by simp [truW, truD, strFits]
@[simp] theorem r_truint {i : Int} : (truW (.int i)).run M QB E = QB (i != 0) M := by simp [truW, truD, strFits]
@[simp] theorem r_trulst {l : List D} : (truW (.lst l)).run M QB E = QB (!l.isEmpty) M := by simp [truW, truD, strFits]
@[simp] theorem r_trutup {l : List D} : (truW (.tup l)).run M QB E = QB (!l.isEmpty) M := by simp [truW, truD, strFits]
@[simp] theorem r_trunon : (truW .non).run M QB E = QB false M := by simp [truW, truD, strFits]
@[simp] theorem w_blW {b : Bool} : blW (.bl b) = .pure b := rfl
@[simp] theorem opt_some {α : Type} {a : α} {k : α → W D} : opt (some a) k = k a := rfl
@[simp] theorem opt_none {α : Type} {k : α → W D} : opt none k = .fail := rfl
@[simp] theorem optU_some {α : Type} {a : α} {k : α → W Unit} : optU (some a) k = k a := rfl
@[simp] theorem optU_none {α : Type} {k : α → W Unit} : optU none k = .fail := rfl
@[simp] theorem w_isiC {c x : XN} {fs : List (Str × D)} : isiW (.exc x fs) (.cls c) = .pure (.bl (decide (x.n = c.n))) := rfl
@[simp] theorem w_isiX {t : Xb} {x : XN} {fs : List (Str × D)} : isiW (.exc x fs) (.xty t) = .pure (.bl (x.b.le t)) := rfl
@[simp] theorem w_isiT {l : List D} {x : XN} {fs : List (Str × D)} : isiW (.exc x fs) (.tup l) = opt (xisis x l) fun b => .pure (.bl b) := rfl
@[simp] theorem w_attrX {c : XN} {fs : List (Str × D)} {n : Str} : attrW n (.exc c fs) = opt (getA fs n) fun d => .pure d := rfl
@[simp] theorem w_isi {d : D} {b : Ty} : isiW d (.ty b) = .get fun M => opt (tyD M d) fun a => .pure (.bl (isTy a b)) := rfl
@[simp] theorem ty_non : tyD M .non = some .none := rfl
@[simp] theorem ty_bl {b : Bool} : tyD M (.bl b) = some .bool := rfl
@[simp] theorem ty_int {b : Int} : tyD M (.int b) = some .int := rfl
@[simp] theorem ty_str {b : Str} : tyD M (.str b) = some .str := rfl
@[simp] theorem ty_tup {b : List D} : tyD M (.tup b) = some .tuple := rfl
@[simp] theorem ty_lst {b : List D} : tyD M (.lst b) = some .list := rfl
@[simp] theorem ty_dct {b : List (Key × D)} : tyD M (.dct b) = some .dict := rfl
@[simp] theorem b_len {lv : Bool} {d : D} : Bi.run lv .len [d] = lenW d := rfl
@[simp] theorem b_abs {lv : Bool} {d : D} : Bi.run lv .abs [d] = absW d := rfl
@[simp] theorem b_min {lv : Bool} {d e : D} : Bi.run lv .min [d, e] = minW d e := rfl
@[simp] theorem b_max {lv : Bool} {d e : D} : Bi.run lv .max [d, e] = maxW d e := rfl
@[simp] theorem b_isi {lv : Bool} {d e : D} : Bi.run lv .isinstance [d, e] = isiW d e := rfl
@[simp] theorem b_all {lv : Bool} {d : D} : Bi.run lv .all [d] = allW d := rfl
@[simp] theorem b_any {lv : Bool} {d : D} : Bi.run lv .any [d] = anyW d := rfl
@[simp] theorem b_list {lv : Bool} {d : D} : Bi.run lv .list [d] = listW lv d := rfl
@[simp] theorem b_tuple {lv : Bool} {d : D} : Bi.run lv .tuple [d] = tupleW d := rfl
@[simp] theorem b_str {lv : Bool} {d : D} : Bi.run lv .str [d] = strW d := rfl
@[simp] theorem b_int {lv : Bool} {d : D} : Bi.run lv .int [d] = intW d := rfl
@[simp] theorem b_repr {lv : Bool} {d : D} : Bi.run lv .repr [d] = reprW d := rfl
@[simp] theorem len_str {s : Str} : (lenW (.str s)).run M Q E = (s.length ≤ sizeLine ∧ Q (.int s.length) M) := rfl
@[simp] theorem len_tup {l : List D} : (lenW (.tup l)).run M Q E = Q (.int l.length) M := by simp [lenW, lenD, strFits]
@[simp] theorem len_lst {l : List D} : (lenW (.lst l)).run M Q E = Q (.int l.length) M := by simp [lenW, lenD, strFits]
@[simp] theorem len_scr {l : List D} : (lenW (.scr l)).run M Q E = Q (.int l.length) M := by simp [lenW, lenD, strFits]
@[simp] theorem len_dct {l : List (Key × D)} : (lenW (.dct l)).run M Q E = Q (.int l.length) M := by simp [lenW, lenD, strFits]
@[simp] theorem w_abs {i : Int} : absW (.int i) = .pure (.int (if i < 0 then -i else i)) := rfl
@[simp] theorem w_min {i j : Int} : minW (.int i) (.int j) = .pure (.int (if j < i then j else i)) := rfl
@[simp] theorem w_max {i j : Int} : maxW (.int i) (.int j) = .pure (.int (if j > i then j else i)) := rfl
@[simp] theorem w_addI {lv : Bool} {i j : Int} : addW lv (.int i) (.int j) = .pure (.int (i + j)) := rfl
@[simp] theorem w_addS {lv : Bool} {a b : Str} : addW lv (.str a) (.str b) = .need (a.length + b.length ≤ sizeLine) (.pure (.str (a ++ b))) := rfl
@[simp] theorem w_addL {lv : Bool} {a b : List D} : addW lv (.lst a) (.lst b) = .get fun _ => mkL lv (a ++ b) := rfl
@[simp] theorem w_addT {lv : Bool} {a b : List D} : addW lv (.tup a) (.tup b) = mkT (a ++ b) := rfl
@[simp] theorem w_sub {i j : Int} : subW (.int i) (.int j) = .pure (.int (i - j)) := rfl
@[simp] theorem w_mul {lv : Bool} {i j : Int} : mulW lv (.int i) (.int j) = .need (CMul i j) (.pure (.int (i * j))) := rfl
@[simp] theorem w_mulS {lv : Bool} {i : Str} {j : Int} : mulW lv (.str i) (.int j) = .need (MulOk i j) (.pure (.str (Txt.mul i j))) := rfl
@[simp] theorem w_div {i j : Int} : fdivW (.int i) (.int j) = .need (0 < j ∧ j < 1073741824) (.pure (.int (i / j))) := rfl
@[simp] theorem w_mod {i j : Int} : modW (.int i) (.int j) = .need (0 < j) (.pure (.int (i % j))) := rfl
@[simp] theorem w_pow {i j : Int} : powW (.int i) (.int j) = .need (0 ≤ j ∧ j ≤ 1000000 ∧ i.natAbs < 2 ^ 64) (.pure (.int (i ^ j.toNat))) := rfl
@[simp] theorem w_neg {i : Int} : negW (.int i) = .pure (.int (-i)) := rfl
@[simp] theorem w_lt {i j : Int} : cmpW .Lt (.int i) (.int j) = .pure (.bl (decide (i < j))) := rfl
@[simp] theorem w_le {i j : Int} : cmpW .LtE (.int i) (.int j) = .pure (.bl (decide (i ≤ j))) := rfl
@[simp] theorem w_gt {i j : Int} : cmpW .Gt (.int i) (.int j) = .pure (.bl (decide (j < i))) := rfl
@[simp] theorem w_ge {i j : Int} : cmpW .GtE (.int i) (.int j) = .pure (.bl (decide (j ≤ i))) := rfl
@[simp] theorem w_eqI {n : Bool} {i j : Int} : eqW n (.int i) (.int j) = .pure (.bl (n ^^ decide (i = j))) := rfl
@[simp] theorem w_eqS {n : Bool} {i j : Str} : eqW n (.str i) (.str j) = .pure (.bl (n ^^ decide (i = j))) := rfl
@[simp] theorem w_isN {n : Bool} {d : D} : isNW n d .non = .pure (.bl (n ^^ isNon d)) := rfl
@[simp] theorem w_mkLf {l : List D} : mkL false l = .need (l.length ≤ sizeLine) (.pure (.lst l)) := rfl
@[simp] theorem w_mkLt {l : List D} : mkL true l = .need (l.length ≤ sizeLine) (.new (.lst l)) := rfl
@[simp] theorem w_mkL0f {l : List D} : mkL0 false l = .pure (.lst l) := rfl
@[simp] theorem w_mkL0t {l : List D} : mkL0 true l = .new (.lst l) := rfl
@[simp] theorem w_mkT {l : List D} : mkT l = .need (l.length ≤ sizeLine) (.pure (.tup l)) := rfl
@[simp] theorem w_mkDf {l : List (Key × D)} : mkD false l = .pure (.dct l) := rfl
@[simp] theorem w_mkDt {l : List (Key × D)} : mkD true l = .new (.dct l) := rfl
@[simp] theorem w_par2 {i j : Nat} {x y : D} : par2 i j [x, y] env = .pure ((env.set i (some x)).set j (some y)) := rfl
@[simp] theorem w_par3 {i j k : Nat} {x y z : D} : par3 i j k [x, y, z] env = .pure (((env.set i (some x)).set j (some y)).set k (some z)) := rfl
@[simp] theorem w_partN : partW none env = .pure none := rfl
@[simp] theorem w_partS {f : Ev → W D} : partW (some f) env = W.bind (f env) fun d => match d with
    | .int i => .pure (some i)
    | _ => .fail := rfl
@[simp] theorem w_range1 {n : Int} : rangeW1 [.int n] = .need (-(2 ^ 62) ≤ n ∧ n < 2 ^ 62) (.pure (intsD 0 n.toNat, none)) := rfl
@[simp] theorem w_range2 {a b : Int} : rangeW2 [.int a, .int b] = .need (-(2 ^ 62) ≤ a ∧ a < 2 ^ 62 ∧ -(2 ^ 62) ≤ b ∧ b < 2 ^ 62) (.pure (intsD a (b - a).toNat, none)) := rfl
@[simp] theorem w_srcT {l : List D} : srcW (.tup l) = .get fun _ => .pure (l, none) := rfl
@[simp] theorem w_srcL {l : List D} : srcW (.lst l) = .get fun _ => .pure (l, none) := rfl
@[simp] theorem w_srcC {l : List D} : srcW (.scr l) = .get fun _ => .pure (l, none) := rfl
@[simp] theorem w_srcS {s : Str} : srcW (.str s) = .get fun _ => .pure (signs s, none) := rfl
@[simp] theorem w_slS {lv : Bool} {z : Str} {lo hi : Option Int} : slW lv (.str z) lo hi = .need (z.length ≤ sizeLine) (.pure (.str (cutS z lo hi))) := rfl
@[simp] theorem w_slT {lv : Bool} {z : List D} {lo hi : Option Int} : slW lv (.tup z) lo hi = .pure (.tup (cutD z lo hi)) := rfl
@[simp] theorem w_slL {lv : Bool} {z : List D} {lo hi : Option Int} : slW lv (.lst z) lo hi = .get fun _ => mkL0 lv (cutD z lo hi) := rfl
@[simp] theorem w_slC {lv : Bool} {z : List D} {lo hi : Option Int} : slW lv (.scr z) lo hi = .get fun _ => mkL0 lv (cutD z lo hi) := rfl
@[simp] theorem w_ixS {z : Str} {i : Int} : idxW (.str z) (.int i) = opt (atI z.cps.toList i) fun c => .need (z.length ≤ sizeLine) (.pure (.str ⟨#[c]⟩)) := rfl
@[simp] theorem w_ixL {z : List D} {i : Int} : idxW (.lst z) (.int i) = .get fun _ => opt (atI z i) fun d => .pure d := rfl
@[simp] theorem w_ixC {z : List D} {i : Int} : idxW (.scr z) (.int i) = .get fun _ => opt (atI z i) fun d => .pure d := rfl
@[simp] theorem w_ixT {z : List D} {i : Int} : idxW (.tup z) (.int i) = .get fun _ => opt (atI z i) fun d => .pure d := rfl
@[simp] theorem w_strI {i : Int} : strW (.int i) = .need (i.natAbs.log2 < 1920) (.pure (.str (toString i))) := rfl
@[simp] theorem w_strS {s : Str} : strW (.str s) = .pure (.str s) := rfl
@[simp] theorem w_tupT {l : List D} : tupleW (.tup l) = .pure (.tup l) := rfl
@[simp] theorem w_tupL {l : List D} : tupleW (.lst l) = .get fun _ => .pure (.tup l) := rfl
@[simp] theorem w_lstL {lv : Bool} {l : List D} : listW lv (.lst l) = .get fun _ => mkL0 lv l := rfl
@[simp] theorem w_lstC {lv : Bool} {l : List D} : listW lv (.scr l) = .get fun _ => mkL0 lv l := rfl
@[simp] theorem w_lstT {lv : Bool} {l : List D} : listW lv (.tup l) = .get fun _ => mkL0 lv l := rfl
@[simp] theorem w_allL {l : List D} : allW (.lst l) = .get fun _ => opt (blsOf l) fun bs => .pure (.bl (bs.all id)) := rfl
@[simp] theorem w_anyL {l : List D} : anyW (.lst l) = .get fun _ => opt (blsOf l) fun bs => .pure (.bl (bs.any id)) := rfl
@[simp] theorem w_joinS {s : Str} {k : Ty → W D} : recvW .join (.str s) k = .get fun _ => k .str := rfl
@[simp] theorem w_joinM {s : Str} {d : D} : methW .join .str (.str s) [d] = joinW (.str s) d := rfl
@[simp] theorem w_appM {p : Addr} {d : D} : methW .append .list (.ref p) [d] = appendW (.ref p) d := rfl
@[simp] theorem eq_nil {n : Bool} {l : List D} : (eqW n (.lst l) (.lst [])).run M Q E = Q (.bl (n ^^ l.isEmpty)) M := by
  have e : eqW n (.lst l) (.lst []) = .get fun M => if difL M (.lst l) (.lst []) then .pure (.bl n) else eqR n (.lst l) (.lst []) := rfl
  rw [e]
  cases l with
  | nil =>
    have e1 : difL M (.lst []) (.lst []) = false := rfl
    have e2 : toD M deepD (.lst []) = some (.list []) := rfl
    simp only [r_get, e1, Bool.false_eq_true, if_false, eqR, e2, r_need, r_pure, PyData.canLay0, PyData.canLayAll0, and_self, true_and, PyData.eqv, PyData.eqvAll, List.isEmpty_nil]
  | cons a l =>
    have e1 : difL M (.lst (a :: l)) (.lst []) = true := rfl
    simp only [r_get, e1, if_true, r_pure, List.isEmpty_cons, Bool.bne_false, Bool.xor_false]
end
/-! ### turns -/
section
variable {M : MS} {E : XV → MS → Prop} {Q : D → MS → Prop}
theorem MS.set_del {M : MS} {p : Addr} {c : Cell} (h : M p = none) : (M.set p c).del p = M := by
  funext q
  by_cases e : q = p
  · rw [e, MS.del_same, h]
  · rw [MS.del_ne e, MS.set_ne e]
theorem MS.set_set {M : MS} {p : Addr} {c c' : Cell} : (M.set p c).set p c' = M.set p c' := by
  funext q
  by_cases e : q = p
  · rw [e, MS.set_same, MS.set_same]
  · rw [MS.set_ne e, MS.set_ne e, MS.set_ne e]
/-- a comprehension whose body only looks: what each tells -/
theorem loop_pure {p : Addr} {b : List D} {body : D → W (Option D)} {f : D → Option D} : ∀ {l : List D} {M : MS} {acc : List D} {Q : Unit → MS → Prop}, (∀ d ∈ l, ∀ (M : MS) (Q : Option D → MS → Prop) (E : XV → MS → Prop), Q (f d) M → (body d).run M Q E) → M p = some (.lst acc) → acc.length + l.length ≤ sizeLine →
    Q () (M.set p (.lst (acc ++ l.filterMap f))) → (loopC (b, none) p body l).run M Q E
  | [], M, acc, Q, _, hM, _, q => by
    refine ⟨trivial, ?_⟩
    have e : M.set p (.lst (acc ++ [])) = M := by
      funext q
      by_cases e : q = p
      · rw [e, MS.set_same, hM, List.append_nil]
      · rw [MS.set_ne e]
    rw [List.filterMap_nil, e] at q
    exact q
  | d :: l, M, acc, Q, hb, hM, hl, q => by
    refine ⟨trivial, hb d (.head _) M _ E ?_⟩
    have hb' := fun x hx => hb x (.tail _ hx)
    have hl' : acc.length + l.length + 1 ≤ sizeLine := by simpa [Nat.add_assoc] using hl
    cases e : f d with
    | none =>
      rw [List.filterMap_cons_none e] at q
      exact loop_pure hb' hM (by omega) q
    | some y =>
      rw [List.filterMap_cons_some e] at q
      simp only [r_get, hM, r_need, r_put]
      refine ⟨by omega, loop_pure (acc := acc ++ [y]) hb' MS.set_same (by simp only [List.length_append, List.length_cons, List.length_nil]; omega) ?_⟩
      rw [MS.set_set, List.append_assoc]
      exact q
theorem comp_pure {l : List D} {body : D → W (Option D)} (f : D → Option D) (hb : ∀ d ∈ l, ∀ (M : MS) (Q : Option D → MS → Prop) (E : XV → MS → Prop), Q (f d) M → (body d).run M Q E) (hl : l.length ≤ sizeLine) (q : Q (.lst (l.filterMap f)) M) : (compW false (l, none) body).run M Q E := by
  intro p hp
  refine loop_pure (l := l) hb MS.set_same (by simpa using hl) ?_
  rw [MS.set_set]
  simp only [tellL, r_get, MS.set_same, List.nil_append, Bool.false_eq_true, if_false, r_del, r_pure]
  rw [MS.set_del hp]
  exact q
end
end Mir

/-! Mir19: how long a tree's text is; pens. -/
namespace Mir
open PySem L2 PyProof.Rows

def szI (i : Int) : Nat := if i.natAbs < 10 ^ 18 then 20 else 100000000
def szS (s : Str) : Nat := if s.cps.toList.all (fun c => decide (c < 1114112)) = true then 10 * s.length + 2 else 100000000
def szKey : Key → Nat
  | .inl i => szI i
  | .inr s => szS s
mutual
/-- a bound of the length of a tree's text; what is no plain data is too long -/
def sz : D → Nat
  | .non => 4
  | .bl _ => 5
  | .int i => szI i
  | .str s => szS s
  | .tup l => 3 + szL l
  | .lst l => 2 + szL l
  | .dct l => 2 + szK l
  | _ => 100000000
def szL : List D → Nat
  | [] => 0
  | d :: l => 2 + sz d + szL l
def szK : List (Key × D) → Nat
  | [] => 0
  | (k, d) :: l => 4 + szKey k + sz d + szK l
end
mutual
def dp : D → Nat
  | .tup l => 1 + dpL l
  | .lst l => 1 + dpL l
  | .dct l => 1 + dpK l
  | _ => 1
def dpL : List D → Nat
  | [] => 0
  | d :: l => max (dp d) (dpL l)
def dpK : List (Key × D) → Nat
  | [] => 0
  | (_, d) :: l => max (dp d) (dpK l)
end
theorem int_sh {i : Int} (h : i.natAbs < 10 ^ 18) : (PyData.int i).showable = true ∧ (PyData.int i).shown.length ≤ 20 := by
  constructor
  · simp only [PyData.showable, decide_eq_true_eq]
    by_cases z : i.natAbs = 0
    · rw [z]; decide
    · have : i.natAbs.log2 < 64 := (Nat.log2_lt z).mpr (Nat.lt_trans h (by decide))
      omega
  · have := int_text_length_le10 (k := 18) (by decide) h
    have e : (Str.ofString (toString i)).length = (toString i).length := PySem.ofString_length _
    simp only [PyData.shown]
    show (Str.ofString (toString i)).length ≤ 20
    omega
theorem str_sh {s : Str} (h : s.cps.toList.all (fun c => decide (c < 1114112)) = true) : (PyData.str s).shown.length ≤ 10 * s.length + 2 := by
  simp only [PyData.shown]
  refine StrLaws.reprText_len s fun c hc => ?_
  have := List.all_eq_true.mp h c hc
  have : c < 1114112 := by simpa using this
  omega
theorem list_len (ts : List Str) : (listText ts).length ≤ 2 + piled ts := by
  cases ts with
  | nil => decide
  | cons t r =>
    unfold listText
    rw [strLen_append]
    have e : textFrom 0 "[" (t :: r) = textFrom 1 (("[" : Str) ++ t) r := rfl
    rw [e, textFrom_length_pos _ _ _ (by decide), strLen_append, piled_cons]
    have e1 : ("[" : Str).length = 1 := rfl
    have e2 : ("]" : Str).length = 1 := rfl
    omega
theorem join_len (ts : List Str) : (Str.join ", " ts).length ≤ piled ts := by
  cases ts with
  | nil => decide
  | cons t r =>
    have := join_length_add (t :: r) (by simp)
    omega
theorem tuple_len (ts : List Str) : (tupleText ts).length ≤ 3 + piled ts := by
  unfold tupleText
  rw [strLen_append, strLen_append]
  have h1 := join_len ts
  have e1 : ("(" : Str).length = 1 := rfl
  have e2 : (Str.ofString (if (ts.length == 1) = true then ",)" else ")")).length ≤ 2 := by split <;> decide
  omega
theorem dict_len (ts : List Str) : (dictText ts).length ≤ 2 + piled ts := by
  unfold dictText
  rw [strLen_append, strLen_append]
  have h1 := join_len ts
  have e1 : ("{" : Str).length = 1 := rfl
  have e2 : ("}" : Str).length = 1 := rfl
  omega
theorem toD_ref {M : MS} {n : Nat} {d : D} : dp d ≤ n → 0 < n := fun h => by
  have : 0 < dp d := by cases d <;> simp [dp] <;> omega
  omega
theorem dp_pos (d : D) : 0 < dp d := by cases d <;> simp [dp] <;> omega
mutual
theorem toD_sz : ∀ (n : Nat) (d : D), sz d < 100000000 → dp d ≤ n → ∃ pd : PyData, (∀ M, toD M n d = some pd) ∧ pd.showable = true ∧ pd.shown.length ≤ sz d
  | 0, d, _, h => absurd (dp_pos d) (by omega)
  | n + 1, .non, _, _ => ⟨.none, fun _ => rfl, rfl, by simp only [sz, PyData.shown]; decide⟩
  | n + 1, .bl b, _, _ => ⟨.bool b, fun _ => rfl, rfl, by cases b <;> simp only [sz, PyData.shown] <;> decide⟩
  | n + 1, .int i, h, _ => by
    simp only [sz, szI] at h ⊢
    by_cases hi : i.natAbs < 10 ^ 18
    · rw [if_pos hi]; exact ⟨.int i, fun _ => rfl, int_sh hi⟩
    · rw [if_neg hi] at h; exact absurd h (by decide)
  | n + 1, .str s, h, _ => by
    simp only [sz, szS] at h ⊢
    by_cases hi : s.cps.toList.all (fun c => decide (c < 1114112)) = true
    · rw [if_pos hi]; exact ⟨.str s, fun _ => rfl, rfl, str_sh hi⟩
    · rw [if_neg hi] at h; exact absurd h (by decide)
  | n + 1, .tup l, h, g => by
    simp only [sz] at h ⊢
    simp only [dp] at g
    obtain ⟨ps, h1, h2, h3⟩ := toD_szL n l (by omega) (by omega)
    refine ⟨.tuple ps, fun M => by simp only [toD, h1 M, Option.map_some], by simpa [PyData.showable] using h2, ?_⟩
    simp only [PyData.shown]
    have := tuple_len (PyData.shownAll ps)
    omega
  | n + 1, .lst l, h, g => by
    simp only [sz] at h ⊢
    simp only [dp] at g
    obtain ⟨ps, h1, h2, h3⟩ := toD_szL n l (by omega) (by omega)
    refine ⟨.list ps, fun M => by simp only [toD, h1 M, Option.map_some], by simpa [PyData.showable] using h2, ?_⟩
    simp only [PyData.shown]
    have := list_len (PyData.shownAll ps)
    omega
  | n + 1, .dct l, h, g => by
    simp only [sz] at h ⊢
    simp only [dp] at g
    obtain ⟨ps, h1, h2, h3⟩ := toD_szK n l (by omega) (by omega)
    refine ⟨.dict ps, fun M => by simp only [toD, h1 M, Option.map_some], by simpa [PyData.showable] using h2, ?_⟩
    simp only [PyData.shown]
    have := dict_len (PyData.shownKv ps)
    omega
  | n + 1, .scr _, h, _ => absurd h (by simp [sz])
  | n + 1, .ref _, h, _ => absurd h (by simp [sz])
  | n + 1, .glo _, h, _ => absurd h (by simp [sz])
  | n + 1, .ty _, h, _ => absurd h (by simp [sz])
  | n + 1, .exc _ _, h, _ => absurd h (by simp [sz])
  | n + 1, .cls _, h, _ => absurd h (by simp [sz])
  | n + 1, .xty _, h, _ => absurd h (by simp [sz])
theorem toD_szL : ∀ (n : Nat) (l : List D), szL l < 100000000 → dpL l ≤ n → ∃ ps : List PyData, (∀ M, mapO (toD M n) l = some ps) ∧ PyData.showableAll ps = true ∧ piled (PyData.shownAll ps) ≤ szL l
  | n, [], _, _ => ⟨[], fun _ => rfl, rfl, by simp [PyData.shownAll, piled]⟩
  | n, d :: l, h, g => by
    simp only [szL] at h ⊢
    simp only [dpL] at g
    obtain ⟨p, a1, a2, a3⟩ := toD_sz n d (by omega) (by omega)
    obtain ⟨ps, b1, b2, b3⟩ := toD_szL n l (by omega) (by omega)
    refine ⟨p :: ps, fun M => by simp only [mapO, a1 M, b1 M], by simp [PyData.showableAll, a2, b2], ?_⟩
    simp only [PyData.shownAll]
    rw [piled_cons]
    omega
theorem toD_szK : ∀ (n : Nat) (l : List (Key × D)), szK l < 100000000 → dpK l ≤ n → ∃ ps : List (PyData × PyData), (∀ M, mapK (toD M n) l = some ps) ∧ PyData.showableKv ps = true ∧ piled (PyData.shownKv ps) ≤ szK l
  | n, [], _, _ => ⟨[], fun _ => rfl, rfl, by simp [PyData.shownKv, piled]⟩
  | n, (k, d) :: l, h, g => by
    simp only [szK] at h ⊢
    simp only [dpK] at g
    obtain ⟨p, a1, a2, a3⟩ := toD_sz n d (by omega) (by omega)
    obtain ⟨ps, b1, b2, b3⟩ := toD_szK n l (by omega) (by omega)
    have hk : szKey k < 100000000 → (keyD k).showable = true ∧ (keyD k).shown.length ≤ szKey k := by
      cases k with
      | inl i =>
        intro h
        simp only [szKey, szI, szS] at h ⊢
        by_cases hi : i.natAbs < 10 ^ 18
        · rw [if_pos hi]; exact int_sh hi
        · rw [if_neg hi] at h; exact absurd h (by decide)
      | inr s =>
        intro h
        simp only [szKey, szI, szS] at h ⊢
        by_cases hi : s.cps.toList.all (fun c => decide (c < 1114112)) = true
        · rw [if_pos hi]; exact ⟨rfl, str_sh hi⟩
        · rw [if_neg hi] at h; exact absurd h (by decide)
    replace hk := hk (by omega)
    refine ⟨(keyD k, p) :: ps, fun M => by simp only [mapK, a1 M, b1 M], by simp [PyData.showableKv, a2, b2, hk.1], ?_⟩
    simp only [PyData.shownKv]
    rw [piled_cons, strLen_append, strLen_append]
    have e : (": " : Str).length = 2 := rfl
    have := hk.2
    omega
end
/-- the text of a tree -/
def shw (d : D) : Str := ((toD (fun _ => none) deepD d).map PyData.shown).getD ""
theorem repr_ok {d : D} {M : MS} {Q : D → MS → Prop} {E : XV → MS → Prop} (h : sz d < 16777216) (g : dp d ≤ 25) (q : Q (.str (shw d)) M) : (reprW d).run M Q E := by
  obtain ⟨pd, h1, h2, h3⟩ := toD_sz deepD d (by omega) g
  unfold reprW
  simp only [r_get, h1 M, opt_some, r_need, r_pure]
  refine ⟨⟨h2, Nat.le_trans h3 (by rw [show sizeLine = 16777216 from rfl]; omega)⟩, ?_⟩
  have e : shw d = pd.shown := by unfold shw; rw [h1]; rfl
  rw [← e]
  exact q
end Mir

/-! Mir20: the pen that every law draws by. -/
namespace Mir
open PySem L2 PyProof.Rows

def penF (ds : List D) : W D := outW
 (WS.seq (WS.bind (fun e1 => W.bind (dispW true [(fun e3 => (.pure (.str "cells")), fun e4 => (W.bind (argsW e4 [fun e5 => (W.bind (varW 0 e5) fun x6 => (W.bind (partW none e5) fun x7 => (W.bind (partW (some (fun e8 => (.pure (.int 63)))) e5) fun x9 => slW false x6 x7 x9)))]) (Bi.run false .list))), (fun e10 => (.pure (.str "turn")), fun e11 => (.pure (.int 0))), (fun e12 => (.pure (.str "rest")), fun e13 => (.pure (.int 0)))] e1) (frzW false)) fun d2 => WS.out (.rt d2))
 WS.next)
 (startE ["_law_script"] ds)
def drawF (ds : List D) : W D := outW
 (WS.seq (WS.bind (fun e2 => (W.bind (W.bind (varW 0 e2) fun x3 => (W.bind (.pure (.str "rest")) fun x4 => idxW x3 x4)) fun x5 => (W.bind (.pure (.int 0)) fun x6 => W.bind (cmpW .Gt x5 x6) blW))) fun t1 => if t1 then
   (WS.seq (WS.bind (fun e9 => (W.bind (W.bind (varW 0 e9) fun x10 => (W.bind (.pure (.str "rest")) fun x11 => idxW x10 x11)) fun x12 => (W.bind (varW 1 e9) fun x13 => modW x12 x13))) fun d7 => WS.store fun e8 => (fun d14 e15 => .pure (e15.set 7 (some d14))) d7 e8)
   (WS.seq (WS.bind (fun e18 => (W.bind (W.bind (varW 0 e18) fun x19 => (W.bind (.pure (.str "rest")) fun x20 => idxW x19 x20)) fun x21 => (W.bind (varW 1 e18) fun x22 => fdivW x21 x22))) fun d16 => WS.store fun e17 => (fun d23 e24 => (W.bind (varW 0 e24) fun x25 => (W.bind (.pure (.str "rest")) fun x26 => W.bind (setW x25 x26 d23) fun _ => .pure e24))) d16 e17)
   (WS.seq (WS.bind (fun e27 => W.bind (varW 7 e27) (frzW false)) fun d28 => WS.out (.rt d28))
   WS.next)))
   else WS.next)
 (WS.seq (WS.bind (fun e31 => (W.bind (varW 0 e31) fun x32 => (W.bind (.pure (.str "turn")) fun x33 => idxW x32 x33))) fun d29 => WS.store fun e30 => (fun d34 e35 => .pure (e35.set 2 (some d34))) d29 e30)
 (WS.seq (WS.bind (fun e38 => (W.bind (varW 2 e38) fun x39 => (W.bind (.pure (.int 1)) fun x40 => addW false x39 x40))) fun d36 => WS.store fun e37 => (fun d41 e42 => (W.bind (varW 0 e42) fun x43 => (W.bind (.pure (.str "turn")) fun x44 => W.bind (setW x43 x44 d41) fun _ => .pure e42))) d36 e37)
 (WS.seq (WS.bind (fun e47 => (W.bind (W.bind (.pure (.int 31)) fun x48 => (W.bind (varW 2 e47) fun x49 => mulW false x48 x49)) fun x50 => (W.bind (.pure (.int 5)) fun x51 => addW false x50 x51))) fun d45 => WS.store fun e46 => (fun d52 e53 => .pure (e53.set 3 (some d52))) d45 e46)
 (WS.seq (WS.bind (fun e55 => (W.bind (W.bind (varW 0 e55) fun x56 => (W.bind (.pure (.str "cells")) fun x57 => idxW x56 x57)) fun x58 => (W.bind (W.bind (argsW e55 []) (mkL false)) fun x59 => W.bind (eqW true x58 x59) blW))) fun t54 => if t54 then
   (WS.seq (WS.bind (fun e62 => (W.bind (W.bind (varW 0 e62) fun x63 => (W.bind (.pure (.str "cells")) fun x64 => idxW x63 x64)) fun x65 => (W.bind (W.bind (varW 2 e62) fun x66 => (W.bind (W.bind (argsW e62 [fun e67 => (W.bind (varW 0 e67) fun x68 => (W.bind (.pure (.str "cells")) fun x69 => idxW x68 x69))]) (Bi.run false .len)) fun x70 => modW x66 x70)) fun x71 => idxW x65 x71))) fun d60 => WS.store fun e61 => (fun d72 e73 => .pure (e73.set 3 (some d72))) d60 e61)
   WS.next)
   else WS.next)
 (WS.seq (WS.bind (fun e75 => (boolT .And e75 [fun e76 => (W.bind (varW 2 e76) fun x77 => (W.bind (W.bind (argsW e76 [fun e78 => (W.bind (varW 0 e78) fun x79 => (W.bind (.pure (.str "cells")) fun x80 => idxW x79 x80))]) (Bi.run false .len)) fun x81 => W.bind (cmpW .Lt x77 x81) blW)), fun e82 => (W.bind (W.bind (argsW e82 [fun e83 => (varW 3 e83)]) (Bi.run false .abs)) fun x84 => (W.bind (W.bind (.pure (.int 10)) fun x85 => (W.bind (.pure (.int 18)) fun x86 => powW x85 x86)) fun x87 => W.bind (cmpW .GtE x84 x87) blW))])) fun t74 => if t74 then
   (WS.seq (WS.bind (fun e90 => (W.bind (W.bind (W.bind (argsW e90 [fun e91 => (varW 3 e91)]) (Bi.run false .abs)) fun x92 => (W.bind (W.bind (.pure (.int 10)) fun x93 => (W.bind (.pure (.int 18)) fun x94 => powW x93 x94)) fun x95 => subW x92 x95)) fun x96 => (W.bind (varW 1 e90) fun x97 => fdivW x96 x97))) fun d88 => WS.store fun e89 => (fun d98 e99 => (W.bind (varW 0 e99) fun x100 => (W.bind (.pure (.str "rest")) fun x101 => W.bind (setW x100 x101 d98) fun _ => .pure e99))) d88 e89)
   (WS.seq (WS.bind (fun e102 => W.bind (W.bind (W.bind (W.bind (argsW e102 [fun e104 => (varW 3 e104)]) (Bi.run false .abs)) fun x105 => (W.bind (W.bind (.pure (.int 10)) fun x106 => (W.bind (.pure (.int 18)) fun x107 => powW x106 x107)) fun x108 => subW x105 x108)) fun x109 => (W.bind (varW 1 e102) fun x110 => modW x109 x110)) (frzW false)) fun d103 => WS.out (.rt d103))
   WS.next))
   else WS.next)
 (WS.seq (WS.bind (fun e113 => (W.bind (argsW e113 [fun e114 => (.pure (.int 2147483647)), fun e115 => (.pure (.int 2147483629)), fun e116 => (.pure (.int 2147483587)), fun e117 => (.pure (.int 2147483579)), fun e118 => (.pure (.int 2147483563))]) (mkL false))) fun d111 => WS.store fun e112 => (fun d119 e120 => .pure (e120.set 4 (some d119))) d111 e112)
 (WS.seq (WS.bind (fun e123 => (W.bind (varW 4 e123) fun x124 => (W.bind (W.bind (varW 2 e123) fun x125 => (W.bind (.pure (.int 5)) fun x126 => modW x125 x126)) fun x127 => idxW x124 x127))) fun d121 => WS.store fun e122 => (fun d128 e129 => .pure (e129.set 5 (some d128))) d121 e122)
 (WS.seq (WS.bind (fun e132 => (W.bind (W.bind (W.bind (W.bind (W.bind (varW 3 e132) fun x133 => (W.bind (varW 5 e132) fun x134 => modW x133 x134)) fun x135 => (W.bind (.pure (.int 69621)) fun x136 => mulW false x135 x136)) fun x137 => (W.bind (W.bind (W.bind (.pure (.int 40692)) fun x138 => (W.bind (varW 2 e132) fun x139 => mulW false x138 x139)) fun x140 => (W.bind (varW 2 e132) fun x141 => mulW false x140 x141)) fun x142 => addW false x137 x142)) fun x143 => (W.bind (.pure (.int 11)) fun x144 => addW false x143 x144)) fun x145 => (W.bind (varW 5 e132) fun x146 => modW x145 x146))) fun d130 => WS.store fun e131 => (fun d147 e148 => .pure (e148.set 6 (some d147))) d130 e131)
 (WS.seq (WS.bind (fun e151 => (W.bind (W.bind (varW 6 e151) fun x152 => (W.bind (W.bind (varW 6 e151) fun x153 => (W.bind (.pure (.int 48271)) fun x154 => addW false x153 x154)) fun x155 => mulW false x152 x155)) fun x156 => (W.bind (W.bind (varW 4 e151) fun x157 => (W.bind (W.bind (W.bind (varW 2 e151) fun x158 => (W.bind (.pure (.int 3)) fun x159 => addW false x158 x159)) fun x160 => (W.bind (.pure (.int 5)) fun x161 => modW x160 x161)) fun x162 => idxW x157 x162)) fun x163 => modW x156 x163))) fun d149 => WS.store fun e150 => (fun d164 e165 => .pure (e165.set 6 (some d164))) d149 e150)
 (WS.seq (WS.bind (fun e166 => W.bind (W.bind (W.bind (W.bind (W.bind (varW 6 e166) fun x168 => (W.bind (varW 6 e166) fun x169 => mulW false x168 x169)) fun x170 => (W.bind (.pure (.int 2147483549)) fun x171 => modW x170 x171)) fun x172 => (W.bind (.pure (.int 64)) fun x173 => fdivW x172 x173)) fun x174 => (W.bind (varW 1 e166) fun x175 => modW x174 x175)) (frzW false)) fun d167 => WS.out (.rt d167))
 WS.next)))))))))))
 (startE ["_law_pen_here", "_law_many", "_law_turn", "_law_cell", "_law_primes", "_law_prime", "_law_drawn", "_law_digit"] ds)
def pickF (call : Str → List D → W D) (ds : List D) : W D := outW
 (WS.seq (WS.bind (fun e1 => W.bind (W.bind (varW 1 e1) fun x3 => (W.bind (W.bind (argsW e1 [fun e4 => (varW 0 e4), fun e5 => (W.bind (argsW e5 [fun e6 => (varW 1 e6)]) (Bi.run false .len))]) fun x7 => if x7.length = 2 then call "_law_draw" x7 else .fail) fun x8 => idxW x3 x8)) (frzW false)) fun d2 => WS.out (.rt d2))
 WS.next)
 (startE ["_law_pen_here", "_law_some"] ds)

def penC (ns : List Int) (t r : Int) : Cell := .dct [(.inr "cells", .lst (ns.map .int)), (.inr "turn", .int t), (.inr "rest", .int r)]
/-- a pen stands at p, at its turn n at most -/
def Pen (M : MS) (p : Addr) (n : Nat) : Prop := ∃ (ns : List Int) (t r : Int), M p = some (penC ns t r) ∧ 0 ≤ t ∧ t ≤ n ∧ 0 ≤ r ∧ ns.length ≤ 63
/-- what is live stays, but for p -/
def Kp (p : Addr) (M M' : MS) : Prop := ∀ q, q ≠ p → M q ≠ none → M' q = M q
theorem Kp.refl {p : Addr} {M : MS} : Kp p M M := fun _ _ _ => rfl
theorem Kp.trans {p : Addr} {M M1 M2 : MS} (a : Kp p M M1) (b : Kp p M1 M2) : Kp p M M2 := fun q h g => by
  have e := a q h g
  rw [← e]
  exact b q h (by rw [e]; exact g)
theorem Kp.set {p : Addr} {M : MS} {c : Cell} : Kp p M (M.set p c) := fun q h _ => MS.set_ne h
theorem Pen.mono {M : MS} {p : Addr} {n m : Nat} (h : Pen M p n) (l : n ≤ m) : Pen M p m := by
  obtain ⟨ns, t, r, a, b, c, d⟩ := h
  exact ⟨ns, t, r, a, b, by omega, d⟩
section
variable {M : MS} {Q : D → MS → Prop} {E : XV → MS → Prop} {p : Addr} {ns : List Int} {t r : Int}
theorem pen_rest (h : M p = some (penC ns t r)) : (idxW (.ref p) (.str "rest")).run M Q E = Q (.int r) M := by
  simp only [idxW, idxR, r_get, dctOf, h, penC]; rfl
theorem pen_turn (h : M p = some (penC ns t r)) : (idxW (.ref p) (.str "turn")).run M Q E = Q (.int t) M := by
  simp only [idxW, idxR, r_get, dctOf, h, penC]; rfl
theorem pen_cells (h : M p = some (penC ns t r)) : (idxW (.ref p) (.str "cells")).run M Q E = Q (.lst (ns.map .int)) M := by
  simp only [idxW, idxR, r_get, dctOf, h, penC]; rfl
variable {QU : Unit → MS → Prop}
theorem pen_setR {z : Int} (h : M p = some (penC ns t r)) : (setW (.ref p) (.str "rest") (.int z)).run M QU E = QU () (M.set p (penC ns t z)) := by
  have e : (3 < sizeLine) = True := by simp [show sizeLine = 16777216 from rfl]
  simp only [setW, r_get, h, penC, keyOf, optU_some, r_need, r_put, r_pure, List.length_cons, List.length_nil, Nat.zero_add, Nat.reduceAdd, e, true_and]
  rfl
theorem pen_setT {z : Int} (h : M p = some (penC ns t r)) : (setW (.ref p) (.str "turn") (.int z)).run M QU E = QU () (M.set p (penC ns z r)) := by
  have e : (3 < sizeLine) = True := by simp [show sizeLine = 16777216 from rfl]
  simp only [setW, r_get, h, penC, keyOf, optU_some, r_need, r_put, r_pure, List.length_cons, List.length_nil, Nat.zero_add, Nat.reduceAdd, e, true_and]
  rfl
theorem atI_mem {α : Type} {l : List α} {i : Int} (h0 : 0 ≤ i) (h1 : i < l.length) : ∃ d ∈ l, atI l i = some d := by
  have hi : i.toNat < l.length := by omega
  have e : ixN l.length i = some i.toNat := by
    unfold ixN
    simp [h0, h1]
  refine ⟨l[i.toNat], List.getElem_mem hi, ?_⟩
  unfold atI
  rw [e]
  exact List.getElem?_eq_getElem hi
theorem primes_at {i : Int} (h0 : 0 ≤ i) (h1 : i < 5) : ∃ z : Int, 2147483563 ≤ z ∧ z ≤ 2147483647 ∧ atI [D.int 2147483647, D.int 2147483629, D.int 2147483587, D.int 2147483579, D.int 2147483563] i = some (.int z) := by
  obtain ⟨d, hd, e⟩ := atI_mem (l := [D.int 2147483647, D.int 2147483629, D.int 2147483587, D.int 2147483579, D.int 2147483563]) h0 h1
  simp at hd
  rcases hd with rfl | rfl | rfl | rfl | rfl <;> exact ⟨_, by decide, by decide, e⟩
theorem draw_ok {m : Int} {n : Nat} (h : Pen M p n) (hn : n < 2 ^ 60) (h0 : 0 < m) (h1 : m < 2 ^ 30) (q : ∀ r M', 0 ≤ r → r < m → Pen M' p (n + 1) → Kp p M M' → Q (.int r) M') : (drawF [.ref p, .int m]).run M Q E := by
  obtain ⟨ns, t, r, hM, ht, htn, hr, hl⟩ := h
  have hs : (5 ≤ sizeLine) = True := by simp [show sizeLine = 16777216 from rfl]
  have hM1 : (M.set p (penC ns (t + 1) r)) p = some (penC ns (t + 1) r) := MS.set_same
  obtain ⟨z1, z1a, z1b, e1⟩ := primes_at (i := t % 5) (by omega) (by omega)
  obtain ⟨z2, z2a, z2b, e2⟩ := primes_at (i := (t + 3) % 5) (by omega) (by omega)
  have c1 : CMul 31 t := .inl (by omega)
  have c2 : ∀ x : Int, CMul x 69621 := fun x => .inr (by omega)
  have c3 : CMul 40692 t := .inl (by omega)
  have c4 : CMul (40692 * t) t := .inr (by omega)
  have c5 : ∀ x : Int, CMul (x % z1) (x % z1 + 48271) := fun x => by
    have a := Int.emod_nonneg x (show z1 ≠ 0 by omega)
    have b := Int.emod_lt_of_pos x (show 0 < z1 by omega)
    exact .inl (by omega)
  have c6 : ∀ x : Int, CMul (x % z2) (x % z2) := fun x => by
    have a := Int.emod_nonneg x (show z2 ≠ 0 by omega)
    have b := Int.emod_lt_of_pos x (show 0 < z2 by omega)
    exact .inl (by omega)
  have hm : m < 1073741824 := by omega
  have p1 : 0 < z1 := by omega
  have p2 : 0 < z2 := by omega
  have last : ∀ x : Int, Q (.int (x % m)) (M.set p (penC ns (t + 1) r)) := fun x =>
    q _ _ (Int.emod_nonneg x (by omega)) (Int.emod_lt_of_pos x h0) ⟨ns, t + 1, r, hM1, by omega, by omega, hr, hl⟩ Kp.set
  have big : ∀ x y : Int, 0 ≤ x → Q (.int (y % m)) ((M.set p (penC ns (t + 1) r)).set p (penC ns (t + 1) (x / m))) := fun x y hx =>
    q _ _ (Int.emod_nonneg y (by omega)) (Int.emod_lt_of_pos y h0) ⟨ns, t + 1, x / m, MS.set_same, by omega, by omega, Int.ediv_nonneg hx (by omega), hl⟩ (Kp.trans Kp.set Kp.set)
  unfold drawF
  simp only [startE, pen_rest hM]
  by_cases hr0 : 0 < r
  · simp [pen_rest hM, hr0, h0, hm, pen_setR hM]
    exact q _ _ (Int.emod_nonneg r (by omega)) (Int.emod_lt_of_pos r h0) ⟨ns, t, r / m, MS.set_same, ht, by omega, Int.ediv_nonneg hr (by omega), hl⟩ Kp.set
  · by_cases hn0 : ns = []
    · have k1 : ns.isEmpty = true := by simp [hn0]
      have k2 : ¬ (t < (ns.length : Int)) := by simp [hn0]; exact ht
      simp [pen_rest hM, pen_turn hM, pen_setT hM, pen_cells hM1, pen_setR hM1, hr0, h0, hm, hs, c1, c2, c3, c4, c5, c6, e1, e2, p1, p2, k1, k2]
      exact last _
    · have k1 : ns.isEmpty = false := by simp [hn0]
      have k0 : 0 < ns.length := List.length_pos_iff.mpr hn0
      have k3 : 0 < (ns.length : Int) := by omega
      obtain ⟨d, hd, e3⟩ := atI_mem (l := ns.map D.int) (i := t % (ns.length : Int)) (Int.emod_nonneg t (by omega)) (by rw [List.length_map]; exact Int.emod_lt_of_pos t (by omega))
      obtain ⟨x, _, rfl⟩ := List.mem_map.mp hd
      by_cases k2 : t < (ns.length : Int)
      · by_cases k4 : 1000000000000000000 ≤ (if x < 0 then -x else x)
        · simp [pen_rest hM, pen_turn hM, pen_setT hM, pen_cells hM1, pen_setR hM1, hr0, h0, hm, hs, c1, c2, c3, c4, c5, c6, e1, e2, e3, p1, p2, k0, k1, k2, k3, k4]
          exact big _ _ (by omega)
        · simp [pen_rest hM, pen_turn hM, pen_setT hM, pen_cells hM1, pen_setR hM1, hr0, h0, hm, hs, c1, c2, c3, c4, c5, c6, e1, e2, e3, p1, p2, k0, k1, k2, k3, k4]
          exact last _
      · simp [pen_rest hM, pen_turn hM, pen_setT hM, pen_cells hM1, pen_setR hM1, hr0, h0, hm, hs, c1, c2, c3, c4, c5, c6, e1, e2, e3, p1, p2, k0, k1, k2, k3]
        exact last _
theorem pick_ok {call : Str → List D → W D} (hc : call "_law_draw" = drawF) {l : List D} {n : Nat} (h : Pen M p n) (hn : n < 2 ^ 60) (h0 : l ≠ []) (h1 : l.length < 2 ^ 30) (q : ∀ d M', d ∈ l → Pen M' p (n + 1) → Kp p M M' → Q d M') : (pickF call [.ref p, .lst l]).run M Q E := by
  unfold pickF
  have hp : 0 < l.length := List.length_pos_iff.mpr h0
  simp [startE, hc]
  refine draw_ok h hn (by omega) (by omega) fun r M' r0 r1 hP hk => ?_
  obtain ⟨d, hd, e⟩ := atI_mem r0 r1
  simp [e]
  exact q d M' hd hP hk
theorem pickS_ok {call : Str → List D → W D} (hc : call "_law_draw" = drawF) {z : Str} {n : Nat} (h : Pen M p n) (hn : n < 2 ^ 60) (h0 : 0 < z.length) (h1 : z.length < 2 ^ 24) (q : ∀ c M', c ∈ z.cps.toList → Pen M' p (n + 1) → Kp p M M' → Q (.str ⟨#[c]⟩) M') : (pickF call [.ref p, .str z]).run M Q E := by
  unfold pickF
  have hz : z.length ≤ sizeLine := by rw [show sizeLine = 16777216 from rfl]; omega
  have e0 : z.cps.toList.length = z.length := rfl
  simp [startE, hc, hz]
  refine draw_ok h hn (by omega) (by omega) fun r M' r0 r1 hP hk => ?_
  obtain ⟨d, hd, e⟩ := atI_mem (l := z.cps.toList) r0 (by rw [e0]; exact r1)
  simp [e, hz]
  exact q d M' hd hP hk
theorem pickT_ok {call : Str → List D → W D} (hc : call "_law_draw" = drawF) {l : List D} {n : Nat} (h : Pen M p n) (hn : n < 2 ^ 60) (h0 : l ≠ []) (h1 : l.length < 2 ^ 30) (q : ∀ d M', d ∈ l → Pen M' p (n + 1) → Kp p M M' → Q d M') : (pickF call [.ref p, .tup l]).run M Q E := by
  unfold pickF
  have hp : 0 < l.length := List.length_pos_iff.mpr h0
  simp [startE, hc]
  refine draw_ok h hn (by omega) (by omega) fun r M' r0 r1 hP hk => ?_
  obtain ⟨d, hd, e⟩ := atI_mem r0 r1
  simp [e]
  exact q d M' hd hP hk
/-- the pen is laid -/
theorem pen_ok {ns : List Int} (hl : ns.length ≤ 63) (q : ∀ p M', M p = none → Pen M' p 0 → Kp p M M' → Q (.ref p) M') : (penF [.scr (ns.map .int)]).run M Q E := by
  unfold penF
  simp [startE, dispW, pairsW]
  intro p hp
  have e : ∃ ns' : List Int, cutD (ns.map D.int) none (some 63) = ns'.map D.int ∧ ns'.length ≤ 63 := by
    refine ⟨(ns.drop (HT.sIx ns.length 0 none)).take (HT.sIx ns.length ns.length (some 63) - HT.sIx ns.length 0 none), ?_, ?_⟩
    · simp [cutD, List.map_take, List.map_drop]
    · rw [List.length_take, List.length_drop]; omega
  obtain ⟨ns', e, hl'⟩ := e
  rw [e]
  simp [tellD, keysOf, keyOf, MS.set_same]
  have e2 : mergeA [] [(Sum.inr (Str.ofString "cells"), D.lst (ns'.map D.int)), (Sum.inr (Str.ofString "turn"), D.int 0), (Sum.inr (Str.ofString "rest"), D.int 0)] = [(.inr "cells", .lst (ns'.map .int)), (.inr "turn", .int 0), (.inr "rest", .int 0)] := rfl
  rw [e2, MS.set_set]
  exact q p _ hp ⟨ns', 0, 0, MS.set_same, by omega, by omega, by omega, hl'⟩ Kp.set
/-- a comprehension that draws -/
theorem loop_pen {P : D → Prop} {c : Nat} {a : Addr} {b : List D} {body : D → W (Option D)} : ∀ {l : List D} {M : MS} {acc : List D} {n : Nat} {QU : Unit → MS → Prop}, p ≠ a →
    (∀ d ∈ l, ∀ (M : MS) (m : Nat) (QO : Option D → MS → Prop) (E : XV → MS → Prop), Pen M p m → m ≤ n + c * l.length → (∀ y M', P y → Pen M' p (m + c) → Kp p M M' → QO (some y) M') → (body d).run M QO E) →
    Pen M p n → M a = some (.lst acc) → (∀ y ∈ acc, P y) → acc.length + l.length ≤ sizeLine →
    (∀ acc' M', acc'.length = acc.length + l.length → (∀ y ∈ acc', P y) → Pen M' p (n + c * l.length) → Kp p M (M'.set a (.lst acc)) → M' a = some (.lst acc') → QU () M') → (loopC (b, none) a body l).run M QU E
  | [], M, acc, n, QU, hpa, _, hP, hM, ha, _, q => by
    refine ⟨trivial, q acc M rfl ha (by simpa using hP) ?_ hM⟩
    intro x hx hx'
    by_cases e : x = a
    · rw [e, MS.set_same, hM]
    · rw [MS.set_ne e]
  | d :: l, M, acc, n, QU, hpa, hb, hP, hM, ha, hl, q => by
    have hl' : acc.length + l.length + 1 ≤ sizeLine := by simpa [Nat.add_assoc] using hl
    have el : c * (d :: l).length = c * l.length + c := by rw [List.length_cons, Nat.mul_add, Nat.mul_one]
    refine ⟨trivial, hb d (.head _) M n _ E hP (by omega) ?_⟩
    intro y M1 hy hP1 hk1
    have hM1 : M1 a = some (.lst acc) := by rw [hk1 a (fun z => hpa z.symm) (by rw [hM]; simp), hM]
    simp only [r_get, hM1, r_need, r_put]
    refine ⟨by omega, loop_pen (n := n + c) (acc := acc ++ [y]) hpa (fun x hx M' m QO E h1 h2 h3 => hb x (.tail _ hx) M' m QO E h1 (by omega) h3) ?_ MS.set_same ?_ (by simp only [List.length_append, List.length_cons, List.length_nil]; omega) ?_⟩
    · obtain ⟨ns, t, r, a1, a2⟩ := hP1
      exact ⟨ns, t, r, by rw [MS.set_ne hpa]; exact a1, a2⟩
    · intro x hx
      rcases List.mem_append.mp hx with h | h
      · exact ha x h
      · rw [List.mem_singleton.mp h]; exact hy
    · intro acc' M' h1 h2 h3 h4 h5
      refine q acc' M' (by simp only [h1, List.length_append, List.length_cons, List.length_nil]; omega) h2 (h3.mono (by omega)) ?_ h5
      intro x hx hx'
      by_cases e : x = a
      · rw [e, MS.set_same, hM]
      · rw [MS.set_ne e]
        have := h4 x hx (by rw [MS.set_ne e, hk1 x hx hx']; exact hx')
        rw [MS.set_ne e, MS.set_ne e, hk1 x hx hx'] at this
        exact this
theorem comp_pen (P : D → Prop) (c : Nat) {body : D → W (Option D)} {l : List D} {n : Nat} (hP : Pen M p n)
    (hb : ∀ d ∈ l, ∀ (M : MS) (m : Nat) (QO : Option D → MS → Prop) (E : XV → MS → Prop), Pen M p m → m ≤ n + c * l.length → (∀ y M', P y → Pen M' p (m + c) → Kp p M M' → QO (some y) M') → (body d).run M QO E)
    (hl : l.length ≤ sizeLine) (q : ∀ acc M', acc.length = l.length → (∀ y ∈ acc, P y) → Pen M' p (n + c * l.length) → Kp p M M' → Q (.lst acc) M') : (compW false (l, none) body).run M Q E := by
  intro a ha
  have hpa : p ≠ a := by
    rintro rfl
    obtain ⟨ns, t, r, a1, _⟩ := hP
    rw [ha] at a1; cases a1
  have hP' : Pen (M.set a (.lst [])) p n := by
    obtain ⟨ns, t, r, a1, a2⟩ := hP
    exact ⟨ns, t, r, by rw [MS.set_ne hpa]; exact a1, a2⟩
  refine loop_pen (P := P) (c := c) (n := n) (acc := []) hpa hb hP' MS.set_same (by simp) (by simpa using hl) ?_
  intro acc M' h1 h2 h3 h4 h5
  simp only [tellL, r_get, h5, Bool.false_eq_true, if_false, r_del, r_pure]
  refine q acc _ (by simpa using h1) h2 ?_ ?_
  · obtain ⟨ns, t, r, a1, a2⟩ := h3
    exact ⟨ns, t, r, by rw [MS.del_ne hpa]; exact a1, a2⟩
  · intro x hx hx'
    have e : x ≠ a := by rintro rfl; exact hx' ha
    have := h4 x hx (by rw [MS.set_ne e]; exact hx')
    rw [MS.set_ne e, MS.set_ne e] at this
    rw [MS.del_ne e]
    exact this
end
end Mir

/-! Mir21: texts by their codes; what a program's drawing defs keep. -/
namespace Mir
open PySem L2 PyProof.Rows

/-- a text's signs by their codes -/
abbrev cds (s : Str) : List Nat := s.cps.toList
theorem cds_inj {a b : Str} (h : cds a = cds b) : a = b := by
  obtain ⟨a⟩ := a
  obtain ⟨b⟩ := b
  have : a = b := Array.toList_inj.mp h
  rw [this]
theorem cds_app (a b : Str) : cds (a ++ b) = cds a ++ cds b := Array.toList_append
theorem cds_len (a : Str) : (cds a).length = a.length := rfl
theorem cds_cut (z : Str) (lo hi : Option Int) : cds (cutS z lo hi) = ((cds z).drop (HT.sIx z.length 0 lo)).take (HT.sIx z.length z.length hi - HT.sIx z.length 0 lo) := rfl
theorem cds_one (c : Nat) : cds ⟨#[c]⟩ = [c] := rfl
theorem cds_cut_mem {z : Str} {lo hi : Option Int} {c : Nat} (h : c ∈ cds (cutS z lo hi)) : c ∈ cds z := List.mem_of_mem_drop (List.mem_of_mem_take h)
theorem len_cut_le (z : Str) (lo hi : Option Int) : (cutS z lo hi).length ≤ z.length := by
  rw [← cds_len, cds_cut, List.length_take, List.length_drop, cds_len]
  omega
theorem cds_join0 : ∀ ys : List Str, cds (Txt.join "" ys) = (ys.map cds).flatten := by
  intro ys
  rw [TL.join_eq]
  induction ys with
  | nil => rfl
  | cons a r ih =>
    cases r with
    | nil => simp [Str.join]
    | cons b r =>
      have e : Str.join "" (a :: b :: r) = a ++ "" ++ Str.join "" (b :: r) := rfl
      rw [e, cds_app, cds_app, ih]
      have e0 : cds "" = [] := rfl
      simp [e0]
/-- a text of one to n small letters -/
def Wd (n : Nat) (s : Str) : Prop := 1 ≤ s.length ∧ s.length ≤ n ∧ ∀ c ∈ cds s, 97 ≤ c ∧ c ≤ 122
theorem abc_mem {c : Nat} : c ∈ cds ("abcdefghijklmnopqrstuvwxyz" : Str) ↔ 97 ≤ c ∧ c ≤ 122 := by
  have e : cds ("abcdefghijklmnopqrstuvwxyz" : Str) = [97, 98, 99, 100, 101, 102, 103, 104, 105, 106, 107, 108, 109, 110, 111, 112, 113, 114, 115, 116, 117, 118, 119, 120, 121, 122] := by decide +kernel
  rw [e]
  simp
  omega
theorem sz_le {n : Nat} (h : n ≤ 16777216) : n ≤ sizeLine := h
theorem sz_lt {n : Nat} (h : n < 16777216) : n < sizeLine := h

/-! ### live lists -/
section
variable {M : MS} {Q : D → MS → Prop} {E : XV → MS → Prop} {a : Addr} {l : List D} {d : D}
theorem recv_app {k : Ty → W D} (h : M a = some (.lst l)) : (recvW .append (.ref a) k).run M Q E = (k .list).run M Q E := by
  simp only [recvW, r_get, tyD, h, Mth.on, if_true]
theorem app_run (h : M a = some (.lst l)) : (appendW (.ref a) d).run M Q E = (l.length < sizeLine ∧ Q .non (M.set a (.lst (l ++ [d])))) := by
  simp only [appendW, r_get, h, r_need, r_put, r_pure]
theorem setL_run {QU : Unit → MS → Prop} {i : Int} (h : M a = some (.lst l)) (h0 : 0 ≤ i) (h1 : i < l.length) : (setW (.ref a) (.int i) d).run M QU E = QU () (M.set a (.lst (l.set i.toNat d))) := by
  have e : ixN l.length i = some i.toNat := by
    unfold ixN
    simp [h0, h1]
  simp only [setW, r_get, h, intOf, optU_some, e, r_put, r_pure]
theorem frz_run (h : M a = some (.lst l)) : (frzW true (.ref a)).run M Q E = Q (.lst l) (M.del a) := by
  simp only [frzW, if_true, r_get, h, r_del, r_pure]
theorem frzD_run {l : List (Key × D)} (h : M a = some (.dct l)) : (frzW true (.ref a)).run M Q E = Q (.dct l) (M.del a) := by
  simp only [frzW, if_true, r_get, h, r_del, r_pure]
theorem idxR_run {i : Int} (h : M a = some (.lst l)) {x : D} (e : atI l i = some x) : (idxW (.ref a) (.int i)).run M Q E = Q x M := by
  simp only [idxW, idxR, r_get, dctOf, h, seqOf, opt_some, intOf, e, r_pure]
end
theorem Pen.ne {M : MS} {p a : Addr} {n : Nat} (h : Pen M p n) (ha : M a = none) : p ≠ a := by
  rintro rfl
  obtain ⟨ns, t, r, a1, _⟩ := h
  rw [ha] at a1; cases a1
theorem Pen.set {M : MS} {p a : Addr} {n : Nat} {c : Cell} (h : Pen M p n) (ha : p ≠ a) : Pen (M.set a c) p n := by
  obtain ⟨ns, t, r, a1, a2⟩ := h
  exact ⟨ns, t, r, by rw [MS.set_ne ha]; exact a1, a2⟩
theorem Pen.del {M : MS} {p a : Addr} {n : Nat} (h : Pen M p n) (ha : p ≠ a) : Pen (M.del a) p n := by
  obtain ⟨ns, t, r, a1, a2⟩ := h
  exact ⟨ns, t, r, by rw [MS.del_ne ha]; exact a1, a2⟩
/-- a new cell, used and given up -/
theorem Kp.fresh {p a : Addr} {M M1 M2 M3 : MS} (h1 : Kp p M M1) (ha : M1 a = none) {c : Cell} (h2 : Kp p (M1.set a c) M2) : Kp p M (M2.del a) := fun q hq hn => by
  have e := h1 q hq hn
  have hqa : q ≠ a := by rintro rfl; rw [ha] at e; exact hn e.symm
  rw [MS.del_ne hqa]
  have := h2 q hq (by rw [MS.set_ne hqa, e]; exact hn)
  rw [this, MS.set_ne hqa, e]
/-- a new cell stays behind -/
theorem Kp.new {p a : Addr} {M M1 : MS} (h1 : Kp p M M1) (ha : M1 a = none) {c : Cell} : Kp p M (M1.set a c) := fun q hq hn => by
  have e := h1 q hq hn
  have hqa : q ≠ a := by rintro rfl; rw [ha] at e; exact hn e.symm
  rw [MS.set_ne hqa, e]
theorem Kp.at_ {p a : Addr} {M M1 : MS} {c : Cell} (h : Kp p M M1) (hp : p ≠ a) (ha : M a = some c) : M1 a = some c := by rw [h a (fun z => hp z.symm) (by rw [ha]; simp), ha]
/-- a cell that is new is written -/
theorem Kp.over {p a : Addr} {M M1 : MS} {c : Cell} (h1 : Kp p M M1) (hM : M a = none) : Kp p M (M1.set a c) := fun q hq hn => by
  have hqa : q ≠ a := by rintro rfl; exact hn hM
  rw [MS.set_ne hqa]; exact h1 q hq hn
theorem Kp.drop {p a : Addr} {M M1 : MS} (h1 : Kp p M M1) (hM : M a = none) : Kp p M (M1.del a) := fun q hq hn => by
  have hqa : q ≠ a := by rintro rfl; exact hn hM
  rw [MS.del_ne hqa]; exact h1 q hq hn
theorem Kp.was {p a : Addr} {M M1 : MS} (h1 : Kp p M M1) (hp : p ≠ a) (ha : M1 a = none) : M a = none := by
  cases e : M a with
  | none => rfl
  | some c => rw [h1.at_ hp e] at ha; cases ha
theorem Kp.fresh0 {p a : Addr} {M M1 : MS} (h1 : Kp p M M1) (ha : M1 a = none) {c : Cell} : Kp p M ((M1.set a c).del a) := by rw [MS.set_del ha]; exact h1
/-! ### loops -/
theorem loop_ok {b : List D} {body : D → WS} {Q : Out → Ev → MS → Prop} {E : XV → Ev → MS → Prop} (I : List D → Ev → MS → Prop) : ∀ {l pre : List D} {env : Ev} {M : MS}, I pre env M →
    (∀ pre' d post env M, pre ++ l = pre' ++ d :: post → I pre' env M → (body d).run env M (fun o env' M' => match o with
      | .nx => I (pre' ++ [d]) env' M'
      | .ct => I (pre' ++ [d]) env' M'
      | .bk => Q .nx env' M'
      | .rt x => Q (.rt x) env' M') E) → (∀ env M, I (pre ++ l) env M → Q .nx env M) → (WS.loop (b, none) body l).run env M Q E
  | [], pre, env, M, h0, _, he => ⟨trivial, he env M (by rw [List.append_nil]; exact h0)⟩
  | d :: l, pre, env, M, h0, hs, he => by
    have nxt : ∀ env' M', I (pre ++ [d]) env' M' → (WS.loop (b, none) body l).run env' M' Q E := fun env' M' h =>
      loop_ok I h (fun pre' d' post env M e => hs pre' d' post env M (by rw [← e, List.append_assoc]; rfl)) (fun env M h => he env M (by rw [List.append_assoc] at h; exact h))
    refine ⟨trivial, (body d).mono (hs pre d l env M rfl h0) ?_ fun _ _ _ z => z⟩
    intro o env' M' h
    cases o with
    | nx => exact nxt env' M' h
    | ct => exact nxt env' M' h
    | bk => exact h
    | rt x => exact h
/-- a loop over so many turns: what holds ahead of turn i -/
theorem loopN_ok {b : List D} {body : D → WS} {Q : Out → Ev → MS → Prop} {E : XV → Ev → MS → Prop} {env : Ev} {M : MS} {lo : Int} {n : Nat} (I : Nat → Ev → MS → Prop) (h0 : I 0 env M)
    (hs : ∀ (i : Nat) env M, i < n → I i env M → (body (.int (lo + i))).run env M (fun o env' M' => match o with
      | .nx => I (i + 1) env' M'
      | .ct => I (i + 1) env' M'
      | .bk => Q .nx env' M'
      | .rt x => Q (.rt x) env' M') E) (he : ∀ env M, I n env M → Q .nx env M) : (WS.loop (b, none) body (intsD lo n)).run env M Q E := by
  have hl : (intsD lo n).length = n := by simp [intsD]
  refine loop_ok (pre := []) (fun pre env M => I pre.length env M) h0 ?_ ?_
  · intro pre d post env M e h
    rw [List.nil_append] at e
    have hi : pre.length < n := by rw [← hl, e]; simp
    have hd : d = .int (lo + pre.length) := by
      have h1 : (intsD lo n)[pre.length]? = some d := by rw [e]; simp
      simp only [intsD, List.getElem?_map, Option.map_eq_some_iff] at h1
      obtain ⟨j, h2, h3⟩ := h1
      rw [List.getElem?_range hi] at h2
      cases h2
      exact h3.symm
    subst hd
    refine (body _).mono (hs pre.length env M hi h) ?_ fun _ _ _ z => z
    intro o env' M' z
    cases o <;> simpa using z
  · intro env M h
    rw [List.nil_append, hl] at h
    exact he env M h
/-! ### what a program's drawing defs keep -/
class HasDraw (P : Prog) : Prop where
  ok : ∀ {k : Nat} {M : MS} {p : Addr} {n : Nat} {m : Int} {Q : D → MS → Prop} {E : XV → MS → Prop}, 1 ≤ k → Pen M p n → n < 2 ^ 60 → 0 < m → m < 2 ^ 30 →
    (∀ r M', 0 ≤ r → r < m → Pen M' p (n + 1) → Kp p M M' → Q (.int r) M') → (runI P k "_law_draw" [.ref p, .int m]).run M Q E
theorem hasDraw {P : Prog} (h : ∀ k ds, runI P (k + 1) "_law_draw" ds = drawF ds) : HasDraw P := ⟨by
  intro k M p n m Q E hk hP hn h0 h1 q
  obtain ⟨k, rfl⟩ : ∃ k', k = k' + 1 := ⟨k - 1, by omega⟩
  rw [h]
  exact draw_ok hP hn h0 h1 q⟩
class HasPen (P : Prog) : Prop where
  eq : ∀ k ds, runI P (k + 1) "_law_pen" ds = penF ds
class HasPick (P : Prog) : Prop where
  eq : ∀ k ds, runI P (k + 1) "_law_pick" ds = pickF (runI P k) ds
section
variable {P : Prog} {k : Nat} {M : MS} {Q : D → MS → Prop} {E : XV → MS → Prop} {p : Addr} {n : Nat}
theorem hpen_ok [HasPen P] (hk : 1 ≤ k) {ns : List Int} (hl : ns.length ≤ 63) (q : ∀ p M', M p = none → Pen M' p 0 → Kp p M M' → Q (.ref p) M') : (runI P k "_law_pen" [.scr (ns.map .int)]).run M Q E := by
  obtain ⟨k, rfl⟩ : ∃ k', k = k' + 1 := ⟨k - 1, by omega⟩
  rw [HasPen.eq]
  exact pen_ok hl q
theorem hpick_ok [HasDraw P] [HasPick P] (hk : 2 ≤ k) {l : List D} (h : Pen M p n) (hn : n < 2 ^ 60) (h0 : l ≠ []) (h1 : l.length < 2 ^ 30) (q : ∀ d M', d ∈ l → Pen M' p (n + 1) → Kp p M M' → Q d M') : (runI P k "_law_pick" [.ref p, .lst l]).run M Q E := by
  obtain ⟨k, rfl⟩ : ∃ k', k = k' + 1 := ⟨k - 1, by omega⟩
  rw [HasPick.eq]
  unfold pickF
  have hp : 0 < l.length := List.length_pos_iff.mpr h0
  simp [startE]
  refine HasDraw.ok (by omega) h hn (by omega) (by omega) fun r M' r0 r1 hP hk => ?_
  obtain ⟨d, hd, e⟩ := atI_mem r0 r1
  simp [e]
  exact q d M' hd hP hk
theorem hpickT_ok [HasDraw P] [HasPick P] (hk : 2 ≤ k) {l : List D} (h : Pen M p n) (hn : n < 2 ^ 60) (h0 : l ≠ []) (h1 : l.length < 2 ^ 30) (q : ∀ d M', d ∈ l → Pen M' p (n + 1) → Kp p M M' → Q d M') : (runI P k "_law_pick" [.ref p, .tup l]).run M Q E := by
  obtain ⟨k, rfl⟩ : ∃ k', k = k' + 1 := ⟨k - 1, by omega⟩
  rw [HasPick.eq]
  unfold pickF
  have hp : 0 < l.length := List.length_pos_iff.mpr h0
  simp [startE]
  refine HasDraw.ok (by omega) h hn (by omega) (by omega) fun r M' r0 r1 hP hk => ?_
  obtain ⟨d, hd, e⟩ := atI_mem r0 r1
  simp [e]
  exact q d M' hd hP hk
theorem hpickS_ok [HasDraw P] [HasPick P] (hk : 2 ≤ k) {z : Str} (h : Pen M p n) (hn : n < 2 ^ 60) (h0 : 0 < z.length) (h1 : z.length < 2 ^ 24) (q : ∀ c M', c ∈ cds z → Pen M' p (n + 1) → Kp p M M' → Q (.str ⟨#[c]⟩) M') : (runI P k "_law_pick" [.ref p, .str z]).run M Q E := by
  obtain ⟨k, rfl⟩ : ∃ k', k = k' + 1 := ⟨k - 1, by omega⟩
  rw [HasPick.eq]
  unfold pickF
  have hz : z.length ≤ sizeLine := by rw [show sizeLine = 16777216 from rfl]; omega
  have e0 : z.cps.toList.length = z.length := rfl
  simp [startE, hz]
  refine HasDraw.ok (by omega) h hn (by omega) (by omega) fun r M' r0 r1 hP hk => ?_
  obtain ⟨d, hd, e⟩ := atI_mem (l := z.cps.toList) r0 (by rw [e0]; exact r1)
  simp [e, hz]
  exact q d M' hd hP hk
end
end Mir

/-! Mir22: names and worths that are drawn. -/
namespace Mir
open PySem L2 PyProof.Rows

def namesF (call : Str → List D → W D) (ds : List D) : W D := outW
 (WS.seq (WS.bind (fun e3 => (.pure (.str "abcdefghijklmnopqrstuvwxyz"))) fun d1 => WS.store fun e2 => (fun d4 e5 => .pure (e5.set 2 (some d4))) d1 e2)
 (WS.seq (WS.bind (fun e8 => (W.bind (.pure (.str "")) fun x9 => recvW .join x9 fun T10 => (W.bind (argsW e8 [fun e11 => (W.bind (W.bind (argsW e11 [fun e12 => (W.bind (.pure (.int 1)) fun x13 => (W.bind (W.bind (argsW e12 [fun e14 => (varW 0 e14), fun e15 => (.pure (.int 8))]) fun x16 => if x16.length = 2 then call "_law_draw" x16 else .fail) fun x17 => addW false x13 x17))]) rangeW1) fun b18 => compW false b18 (bodyC (fun d19 e20 => .pure (e20.set 4 (some d19))) (fun _ => .pure true) (fun e21 => (W.bind (argsW e21 [fun e22 => (varW 0 e22), fun e23 => (varW 2 e23)]) fun x24 => if x24.length = 2 then call "_law_pick" x24 else .fail)) (wipeE e11 [4])))]) fun x25 => methW .join T10 x9 x25))) fun d6 => WS.store fun e7 => (fun d26 e27 => .pure (e27.set 3 (some d26))) d6 e7)
 (WS.seq (WS.bind (fun e28 => (argsW e28 [fun e30 => (W.bind (argsW e30 [fun e31 => (varW 0 e31), fun e32 => (W.bind (argsW e32 [fun e33 => (varW 3 e33)]) (Bi.run false .len))]) fun x34 => if x34.length = 2 then call "_law_draw" x34 else .fail), fun e35 => (W.bind (argsW e35 [fun e36 => (varW 0 e36), fun e37 => (.pure (.int 26))]) fun x38 => if x38.length = 2 then call "_law_draw" x38 else .fail), fun e39 => (W.bind (argsW e39 [fun e40 => (varW 0 e40), fun e41 => (.pure (.int 2))]) fun x42 => if x42.length = 2 then call "_law_draw" x42 else .fail)])) fun l29 => WS.store (par3 5 6 7 l29))
 (WS.seq (WS.bind (fun e43 => (argsW e43 [fun e45 => (W.bind (argsW e45 [fun e46 => (varW 0 e46), fun e47 => (W.bind (argsW e47 [fun e48 => (.pure (.int 1)), fun e49 => (.pure (.int 3)), fun e50 => (.pure (.int 5)), fun e51 => (.pure (.int 7)), fun e52 => (.pure (.int 9)), fun e53 => (.pure (.int 11)), fun e54 => (.pure (.int 15)), fun e55 => (.pure (.int 17)), fun e56 => (.pure (.int 19)), fun e57 => (.pure (.int 21)), fun e58 => (.pure (.int 23)), fun e59 => (.pure (.int 25))]) (mkL false))]) fun x60 => if x60.length = 2 then call "_law_pick" x60 else .fail), fun e61 => (W.bind (argsW e61 []) (mkL true))])) fun l44 => WS.store (par2 8 9 l44))
 (WS.seq (WS.bind (fun e62 => (W.bind (argsW e62 [fun e66 => (varW 1 e66)]) rangeW1)) fun b63 => WS.loop b63 (fun d64 => WS.seq (WS.store fun e65 => (fun d67 e68 => .pure (e68.set 4 (some d67))) d64 e65)
   (WS.seq (WS.bind (fun e71 => (W.bind (W.bind (varW 3 e71) fun x72 => (W.bind (partW (some (fun e73 => (W.bind (varW 5 e73) fun x74 => (W.bind (.pure (.int 1)) fun x75 => addW false x74 x75)))) e71) fun x76 => (W.bind (partW none e71) fun x77 => slW false x72 x76 x77))) fun x78 => (W.bind (partW none e71) fun x79 => (W.bind (partW (some (fun e80 => (W.bind (W.bind (argsW e80 [fun e81 => (.pure (.int 8)), fun e82 => (W.bind (varW 4 e82) fun x83 => (W.bind (.pure (.int 3)) fun x84 => modW x83 x84))]) (mkL false)) fun x85 => (W.bind (varW 7 e80) fun x86 => idxW x85 x86)))) e71) fun x87 => slW false x78 x79 x87)))) fun d69 => WS.store fun e70 => (fun d88 e89 => .pure (e89.set 10 (some d88))) d69 e70)
   (WS.seq (WS.bind (fun e90 => (W.bind (varW 9 e90) fun x91 => recvW .append x91 fun T92 => (W.bind (argsW e90 [fun e93 => (W.bind (W.bind (W.bind (varW 3 e93) fun x94 => (W.bind (partW none e93) fun x95 => (W.bind (partW (some (fun e96 => (varW 5 e96))) e93) fun x97 => slW false x94 x95 x97))) fun x98 => (W.bind (W.bind (varW 2 e93) fun x99 => (W.bind (W.bind (W.bind (varW 6 e93) fun x100 => (W.bind (W.bind (varW 8 e93) fun x101 => (W.bind (varW 4 e93) fun x102 => mulW false x101 x102)) fun x103 => addW false x100 x103)) fun x104 => (W.bind (.pure (.int 26)) fun x105 => modW x104 x105)) fun x106 => idxW x99 x106)) fun x107 => addW false x98 x107)) fun x108 => (W.bind (varW 10 e93) fun x109 => addW false x108 x109))]) fun x110 => methW .append T92 x91 x110))) fun _ => WS.next)
   WS.next))) b63.1)
 (WS.seq (WS.bind (fun e112 => (boolT .And e112 [fun e113 => (W.bind (varW 5 e113) fun x114 => (W.bind (.pure (.int 0)) fun x115 => W.bind (cmpW .Gt x114 x115) blW)), fun e116 => (W.bind (W.bind (argsW e116 [fun e117 => (varW 0 e117), fun e118 => (.pure (.int 3))]) fun x119 => if x119.length = 2 then call "_law_draw" x119 else .fail) fun x120 => (W.bind (.pure (.int 0)) fun x121 => W.bind (eqW false x120 x121) blW))])) fun t111 => if t111 then
   (WS.seq (WS.bind (fun e124 => (W.bind (varW 3 e124) fun x125 => (W.bind (partW none e124) fun x126 => (W.bind (partW (some (fun e127 => (varW 5 e127))) e124) fun x128 => slW false x125 x126 x128)))) fun d122 => WS.store fun e123 => (fun d129 e130 => (W.bind (varW 9 e130) fun x131 => (W.bind (W.bind (argsW e130 [fun e132 => (varW 0 e132), fun e133 => (varW 1 e133)]) fun x134 => if x134.length = 2 then call "_law_draw" x134 else .fail) fun x135 => W.bind (setW x131 x135 d129) fun _ => .pure e130))) d122 e123)
   WS.next)
   else WS.next)
 (WS.seq (WS.bind (fun e136 => W.bind (varW 9 e136) (frzW true)) fun d137 => WS.out (.rt d137))
 WS.next)))))))
 (startE ["_law_pen_here", "_law_many", "_law_letters", "_law_base", "_law_k", "_law_at", "_law_first", "_law_cut", "_law_step", "_law_found", "_law_tail"] ds)
def worthF (call : Str → List D → W D) (ds : List D) : W D := outW
 (WS.seq (WS.bind (fun e3 => (W.bind (W.bind (.pure (.int 999999998)) fun x4 => (W.bind (W.bind (argsW e3 [fun e5 => (varW 0 e5), fun e6 => (.pure (.int 2))]) fun x7 => if x7.length = 2 then call "_law_draw" x7 else .fail) fun x8 => addW false x4 x8)) fun x9 => (W.bind (W.bind (.pure (.int 1)) fun x10 => (W.bind (W.bind (.pure (.int 2)) fun x11 => (W.bind (W.bind (argsW e3 [fun e12 => (varW 0 e12), fun e13 => (.pure (.int 2))]) fun x14 => if x14.length = 2 then call "_law_draw" x14 else .fail) fun x15 => mulW false x11 x15)) fun x16 => subW x10 x16)) fun x17 => mulW false x9 x17))) fun d1 => WS.store fun e2 => (fun d18 e19 => .pure (e19.set 1 (some d18))) d1 e2)
 (WS.seq (WS.bind (fun e22 => (W.bind (argsW e22 [fun e23 => (W.bind (argsW e23 [fun e24 => (varW 0 e24), fun e25 => (.pure (.int 3))]) fun x26 => if x26.length = 2 then call "_law_draw" x26 else .fail), fun e27 => (W.bind (argsW e27 [fun e28 => (varW 0 e28), fun e29 => (.pure (.int 12))]) fun x30 => if x30.length = 2 then call "_law_draw" x30 else .fail), fun e31 => (W.bind (.pure (.int 0)) fun x32 => (W.bind (W.bind (argsW e31 [fun e33 => (varW 0 e33), fun e34 => (.pure (.int 12))]) fun x35 => if x35.length = 2 then call "_law_draw" x35 else .fail) fun x36 => subW x32 x36)), fun e37 => (W.bind (argsW e37 [fun e38 => (varW 0 e38), fun e39 => (W.bind (argsW e39 [fun e40 => (.pure (.int 9)), fun e41 => (.pure (.int 10)), fun e42 => (.pure (.int 99)), fun e43 => (.pure (.int 100))]) (mkL false))]) fun x44 => if x44.length = 2 then call "_law_pick" x44 else .fail), fun e45 => (varW 1 e45)]) (mkL true))) fun d20 => WS.store fun e21 => (fun d46 e47 => .pure (e47.set 2 (some d46))) d20 e21)
 (WS.seq (WS.bind (fun e48 => (W.bind (varW 2 e48) fun x49 => recvW .append x49 fun T50 => (W.bind (argsW e48 [fun e51 => (W.bind (argsW e51 [fun e52 => (varW 0 e52), fun e53 => (W.bind (argsW e53 [fun e54 => (.pure (.str "a")), fun e55 => (.pure (.str "b")), fun e56 => (.pure (.str "ab")), fun e57 => (.pure (.str "ba")), fun e58 => (.pure (.str "zzzzzzzzzzzz")), fun e59 => (.pure (.str "no")), fun e60 => (.pure (.str "any")), fun e61 => (.pure (.str "knot")), fun e62 => (.pure (.str "tie"))]) (mkL false))]) fun x63 => if x63.length = 2 then call "_law_pick" x63 else .fail)]) fun x64 => methW .append T50 x49 x64))) fun _ => WS.next)
 (WS.seq (WS.bind (fun e65 => W.bind (W.bind (varW 2 e65) fun x67 => (W.bind (W.bind (W.bind (argsW e65 [fun e68 => (.pure (.int 0)), fun e69 => (.pure (.int 0)), fun e70 => (.pure (.int 1)), fun e71 => (.pure (.int 1)), fun e72 => (.pure (.int 2)), fun e73 => (.pure (.int 3)), fun e74 => (.pure (.int 4)), fun e75 => (.pure (.int 5)), fun e76 => (.pure (.int 5)), fun e77 => (.pure (.int 5))]) (mkL false)) fun x78 => (W.bind (W.bind (argsW e65 [fun e79 => (varW 0 e79), fun e80 => (.pure (.int 10))]) fun x81 => if x81.length = 2 then call "_law_draw" x81 else .fail) fun x82 => idxW x78 x82)) fun x83 => idxW x67 x83)) (frzW false)) fun d66 => WS.out (.rt d66))
 WS.next))))
 (startE ["_law_pen_here", "_law_far", "_law_some"] ds)
/-- a worth -/
def WorthD (d : D) : Prop := (∃ i : Int, d = .int i ∧ -999999999 ≤ i ∧ i ≤ 999999999) ∨ ∃ s, d = .str s ∧ Wd 12 s
theorem wd_of {n : Nat} {s : Str} (h : (decide (1 ≤ s.length) && decide (s.length ≤ n) && (cds s).all fun c => decide (97 ≤ c) && decide (c ≤ 122)) = true) : Wd n s := by
  simp only [Bool.and_eq_true, decide_eq_true_eq, List.all_eq_true] at h
  exact ⟨h.1.1, h.1.2, h.2⟩
class HasNames (P : Prog) : Prop where
  eq : ∀ k ds, runI P (k + 1) "_law_names" ds = namesF (runI P k) ds
class HasWorth (P : Prog) : Prop where
  eq : ∀ k ds, runI P (k + 1) "_law_worth" ds = worthF (runI P k) ds
section
variable {P : Prog} {k : Nat} {M : MS} {Q : D → MS → Prop} {E : XV → MS → Prop} {p : Addr} {n : Nat}
theorem names_ok [HasDraw P] [HasPick P] [HasNames P] (hk : 3 ≤ k) {m : Nat} (hm0 : 0 < m) (hm : m ≤ 1000) (h : Pen M p n) (hn : n + 20 < 2 ^ 60)
    (q : ∀ l M', l.length = m → (∀ d ∈ l, ∃ s, d = .str s ∧ Wd 8 s) → Pen M' p (n + 15) → Kp p M M' → Q (.lst l) M') : (runI P k "_law_names" [.ref p, .int m]).run M Q E := by
  obtain ⟨k, rfl⟩ : ∃ k', k = k' + 1 := ⟨k - 1, by omega⟩
  rw [HasNames.eq]
  unfold namesF
  simp [startE]
  refine HasDraw.ok (by omega) h (by omega) (by decide) (by decide) fun r1 M1 r1a r1b h1 k1 => ?_
  simp
  refine ⟨by omega, ?_⟩
  refine comp_pen (fun d => ∃ c, 97 ≤ c ∧ c ≤ 122 ∧ d = .str ⟨#[c]⟩) 1 h1 ?_ ?_ ?_
  · intro d hd M m QO E hP hm q
    simp [bodyC, wipeE]
    refine hpickS_ok (by omega) hP ?_ (by decide) (by decide) ?_
    · have : (intsD 0 (1 + r1).toNat).length = (1 + r1).toNat := by simp [intsD]
      omega
    · intro c M3 hc h3 k3
      exact q _ _ ⟨c, (abc_mem.mp hc).1, (abc_mem.mp hc).2, rfl⟩ h3 k3
  · have : (intsD 0 (1 + r1).toNat).length = (1 + r1).toNat := by simp [intsD]
    exact sz_le (by omega)
  · intro acc M2 ha hb h2 k2
    have ha' : acc.length = (1 + r1).toNat := by rw [ha]; simp [intsD]
    have e2 : 1 * (intsD 0 (1 + r1).toNat).length = (1 + r1).toNat := by simp [intsD]
    rw [e2] at h2
    have hb2 : ∃ cs : List Nat, (∀ c ∈ cs, 97 ≤ c ∧ c ≤ 122) ∧ acc = cs.map fun c => .str ⟨#[c]⟩ := by
      clear ha ha' h2 k2
      induction acc with
      | nil => exact ⟨[], by simp, rfl⟩
      | cons a r ih =>
        obtain ⟨c, c1, c2, rfl⟩ := hb a (.head _)
        obtain ⟨cs, d1, rfl⟩ := ih fun y hy => hb y (.tail _ hy)
        refine ⟨c :: cs, ?_, rfl⟩
        intro x hx
        rcases List.mem_cons.mp hx with rfl | hx
        · exact ⟨c1, c2⟩
        · exact d1 x hx
    obtain ⟨cs, hc, rfl⟩ := hb2
    clear hb ha
    rw [List.length_map] at ha'
    have e3 : strsOf (cs.map fun c => D.str ⟨#[c]⟩) = some (cs.map fun c => ⟨#[c]⟩) := by
      clear ha' hc
      induction cs with
      | nil => rfl
      | cons a r ih => simp [strsOf, ih]
    have e4 : ((cs.map fun c => (⟨#[c]⟩ : Str)).map (·.length)).sum = cs.length := by
      clear ha' hc e3
      induction cs with
      | nil => rfl
      | cons a r ih => simp at ih ⊢; rw [ih]; show 1 + _ = _; omega
    have e5 : cds (Txt.join "" (cs.map fun c => (⟨#[c]⟩ : Str))) = cs := by
      rw [cds_join0, List.map_map]
      clear ha' hc e3 e4
      induction cs with
      | nil => rfl
      | cons a r ih => rw [List.map_cons, List.flatten_cons, ih]; rfl
    simp [joinW, seqOf, e3, e4]
    generalize Txt.join "" (cs.map fun c => (⟨#[c]⟩ : Str)) = base at e5
    have hbl : base.length = (1 + r1).toNat := by rw [← cds_len, e5, ha']
    have e6 : (List.map ((fun x : Str => x.length) ∘ fun c => ({ cps := #[c] } : Str)) cs).sum = cs.length := by rw [← List.map_map]; exact e4
    refine ⟨by rw [e6, show (Str.ofString "").length = 0 from rfl]; omega, sz_le (by omega), ?_⟩
    have hcb : ∀ c ∈ cds base, 97 ≤ c ∧ c ≤ 122 := by rw [e5]; exact hc
    refine HasDraw.ok (by omega) h2 (by omega) (by omega) (by omega) fun r2 M3 r2a r2b h3 k3 => ?_
    refine HasDraw.ok (by omega) h3 (by omega) (by omega) (by omega) fun r3 M4 r3a r3b h4 k4 => ?_
    refine HasDraw.ok (by omega) h4 (by omega) (by omega) (by omega) fun r4 M5 r4a r4b h5 k5 => ?_
    refine ⟨by decide, ?_⟩
    refine hpick_ok (by omega) h5 (by omega) (by simp) (by simp) fun d M6 hd h6 k6 => ?_
    have hstep : ∃ z : Int, 0 ≤ z ∧ z ≤ 25 ∧ d = .int z := by
      simp at hd
      rcases hd with rfl | rfl | rfl | rfl | rfl | rfl | rfl | rfl | rfl | rfl | rfl | rfl <;> exact ⟨_, by decide, by decide, rfl⟩
    obtain ⟨st, st1, st2, rfl⟩ := hstep
    intro a ha
    refine ⟨by omega, ?_⟩
    have hpa : p ≠ a := h6.ne ha
    have c1 : (cds (cutS base none (some r2))).length = r2.toNat := by
      rw [cds_cut, List.length_take, List.length_drop, cds_len]
      simp only [HT.sIx]
      rw [if_neg (by omega)]
      omega
    have c3 : (cutS base none (some r2)).length = r2.toNat := c1
    have c2 : ∀ z : Option Int, (cutS (cutS base (some (r2 + 1)) none) none z).length ≤ base.length - r2.toNat - 1 := by
      intro z
      refine Nat.le_trans (len_cut_le _ _ _) ?_
      rw [← cds_len, cds_cut, List.length_take, List.length_drop, cds_len]
      simp only [HT.sIx]
      rw [if_neg (by omega)]
      omega
    have c4 : ∀ z : Option Int, (cutS base (some (r2 + 1)) none).length ≤ base.length := fun z => len_cut_le _ _ _
    refine loopN_ok (lo := 0) (fun i env M => ∃ x y l, env = [some (D.ref p), some (D.int ↑m), some (D.str (Str.ofString "abcdefghijklmnopqrstuvwxyz")), some (D.str base), x, some (D.int r2), some (D.int r3), some (D.int r4), some (D.int st), some (D.ref a), y] ∧
      M = M6.set a (.lst l) ∧ l.length = i ∧ ∀ d ∈ l, ∃ s, d = .str s ∧ Wd 8 s) ⟨none, none, [], rfl, rfl, rfl, by simp⟩ ?_ ?_
    · rintro i env M hi ⟨x, y, l, rfl, rfl, hl, hall⟩
      have z1 : base.length ≤ sizeLine := sz_le (by omega)
      have z2 : 2 ≤ sizeLine := sz_le (by omega)
      have z3 : (cutS base (some (r2 + 1)) none).length ≤ sizeLine := Nat.le_trans (len_cut_le _ _ _) z1
      have z4 : CMul st (i : Int) := .inl (by omega)
      have z5 : (Str.ofString "abcdefghijklmnopqrstuvwxyz").length ≤ sizeLine := sz_le (by decide)
      obtain ⟨zz, hz1, hz2⟩ : ∃ zz : Int, 0 ≤ zz ∧ atI [D.int 8, D.int ((i : Int) % 3)] r4 = some (.int zz) := by
        obtain ⟨d, hd, e⟩ := atI_mem (l := [D.int 8, D.int ((i : Int) % 3)]) r4a (by simpa using r4b)
        simp at hd
        rcases hd with rfl | rfl
        · exact ⟨8, by decide, e⟩
        · exact ⟨(i : Int) % 3, by omega, e⟩
      obtain ⟨c, hcm, hce⟩ := atI_mem (l := cds ("abcdefghijklmnopqrstuvwxyz" : Str)) (i := (r3 + st * i) % 26) (by omega) (by rw [cds_len]; show _ < ((26 : Nat) : Int); omega)
      have hM : (M6.set a (.lst l)) a = some (.lst l) := MS.set_same
      have w1 := c2 (some zz)
      have w2 : (⟨#[c]⟩ : Str).length = 1 := rfl
      simp [z1, z2, z3, z4, z5, hz2, recv_app hM, hce]
      refine ⟨sz_le (by omega), ?_⟩
      rw [strLen_append]
      refine ⟨sz_le (by omega), ?_⟩
      rw [app_run hM]
      refine ⟨sz_lt (by omega), _, MS.set_set, by simp [hl], ?_⟩
      intro d hd
      rcases List.mem_append.mp hd with hd | hd
      · exact hall d hd
      · rw [List.mem_singleton.mp hd]
        refine ⟨_, rfl, ?_, ?_, ?_⟩
        · rw [strLen_append, strLen_append]; omega
        · rw [strLen_append, strLen_append]; omega
        · intro x hx
          rw [cds_app, cds_app] at hx
          rcases List.mem_append.mp hx with hx | hx
          · rcases List.mem_append.mp hx with hx | hx
            · exact hcb x (cds_cut_mem hx)
            · rw [List.mem_singleton.mp hx]; exact abc_mem.mp hcm
          · exact hcb x (cds_cut_mem (cds_cut_mem hx))
    · rintro env M ⟨x, y, l, rfl, rfl, hl, hall⟩
      have z1 : base.length ≤ sizeLine := sz_le (by omega)
      have hM : (M6.set a (.lst l)) a = some (.lst l) := MS.set_same
      have kk : Kp p M M6 := ((((k1.trans k2).trans k3).trans k4).trans k5).trans k6
      by_cases hr : 0 < r2
      · simp [hr]
        refine HasDraw.ok (by omega) (h6.set hpa) (by omega) (by omega) (by omega) fun r5 M7 r5a r5b h7 k7 => ?_
        have hM7 : M7 a = some (.lst l) := by rw [k7 a (fun z => hpa z.symm) (by rw [hM]; simp), hM]
        by_cases hr5 : r5 = 0
        · simp [hr5, z1]
          refine HasDraw.ok (by omega) h7 (by omega) (by omega) (by omega) fun r6 M8 r6a r6b h8 k8 => ?_
          have hM8 : M8 a = some (.lst l) := by rw [k8 a (fun z => hpa z.symm) (by rw [hM7]; simp), hM7]
          rw [setL_run hM8 r6a (by rw [hl]; exact r6b)]
          simp [frz_run (MS.set_same (M := M8) (p := a))]
          refine q _ _ (by simp [hl]) ?_ ((h8.set hpa |>.del hpa).mono (by omega)) ?_
          · intro d hd
            rcases List.mem_or_eq_of_mem_set hd with hd | rfl
            · exact hall d hd
            · refine ⟨_, rfl, by rw [c3]; omega, by rw [c3]; omega, fun x hx => hcb x (cds_cut_mem hx)⟩
          · have := Kp.fresh (M3 := M) kk ha (k7.trans k8)
            intro x hx hx'
            have e := this x hx hx'
            have hxa : x ≠ a := by
              rintro rfl
              rw [MS.del_same] at e
              exact hx' e.symm
            rw [MS.del_ne hxa, MS.set_ne hxa]
            rw [MS.del_ne hxa] at e
            exact e
        · simp [hr5]
          rw [frz_run hM7]
          exact q _ _ hl hall ((h7.del hpa).mono (by omega)) (Kp.fresh (M3 := M) kk ha k7)
      · simp [hr]
        rw [frz_run hM, MS.set_del ha]
        exact q _ _ hl hall (h6.mono (by omega)) kk
theorem worth_ok [HasDraw P] [HasPick P] [HasWorth P] (hk : 3 ≤ k) (h : Pen M p n) (hn : n + 20 < 2 ^ 60)
    (q : ∀ d M', WorthD d → Pen M' p (n + 8) → Kp p M M' → Q d M') : (runI P k "_law_worth" [.ref p]).run M Q E := by
  obtain ⟨k, rfl⟩ : ∃ k', k = k' + 1 := ⟨k - 1, by omega⟩
  rw [HasWorth.eq]
  unfold worthF
  simp [startE]
  refine HasDraw.ok (by omega) h (by omega) (by decide) (by decide) fun r1 M1 r1a r1b h1 k1 => ?_
  try simp
  refine HasDraw.ok (by omega) h1 (by omega) (by decide) (by decide) fun r2 M2 r2a r2b h2 k2 => ?_
  try simp
  refine ⟨.inl (by omega), .inr (by omega), ?_⟩
  refine HasDraw.ok (by omega) h2 (by omega) (by decide) (by decide) fun r3 M3 r3a r3b h3 k3 => ?_
  try simp
  refine HasDraw.ok (by omega) h3 (by omega) (by decide) (by decide) fun r4 M4 r4a r4b h4 k4 => ?_
  try simp
  refine HasDraw.ok (by omega) h4 (by omega) (by decide) (by decide) fun r5 M5 r5a r5b h5 k5 => ?_
  try simp
  refine ⟨sz_le (by decide), ?_⟩
  refine hpick_ok (by omega) h5 (by omega) (by simp) (by simp) fun d6 M6 hd6 h6 k6 => ?_
  refine ⟨sz_le (by decide), ?_⟩
  intro a ha
  have hpa : p ≠ a := h6.ne ha
  have kk : Kp p M M6 := ((((k1.trans k2).trans k3).trans k4).trans k5).trans k6
  rw [recv_app MS.set_same]
  simp
  refine ⟨sz_le (by decide), ?_⟩
  refine hpick_ok (by omega) (h6.set hpa) (by omega) (by simp) (by simp) fun d7 M7 hd7 h7 k7 => ?_
  have hM7 := k7.at_ hpa MS.set_same
  rw [app_run hM7]
  refine ⟨sz_lt (by simp), sz_le (by decide), ?_⟩
  refine HasDraw.ok (by omega) (h7.set hpa) (by omega) (by decide) (by decide) fun r8 M8 r8a r8b h8 k8 => ?_
  have hM8 := k8.at_ hpa MS.set_same
  obtain ⟨d9, hd9, e9⟩ := atI_mem (l := [D.int 0, D.int 0, D.int 1, D.int 1, D.int 2, D.int 3, D.int 4, D.int 5, D.int 5, D.int 5]) r8a r8b
  simp [e9]
  have h9 : ∃ z : Int, d9 = .int z ∧ 0 ≤ z ∧ z < 6 := by
    simp at hd9
    rcases hd9 with rfl | rfl | rfl | rfl | rfl | rfl <;> exact ⟨_, rfl, by decide, by decide⟩
  obtain ⟨z, rfl, z0, z6⟩ := h9
  obtain ⟨d10, hd10, e10⟩ := atI_mem (l := [D.int r3, D.int r4, D.int (-r5), d6, D.int ((999999998 + r1) * (1 - 2 * r2)), d7]) z0 z6
  have hM8' : M8 a = some (.lst [D.int r3, D.int r4, D.int (-r5), d6, D.int ((999999998 + r1) * (1 - 2 * r2)), d7]) := hM8
  rw [idxR_run hM8' e10]
  refine q _ _ ?_ (h8.mono (by omega)) ?_
  · simp at hd10
    rcases hd10 with rfl | rfl | rfl | rfl | rfl | rfl
    · exact .inl ⟨_, rfl, by omega, by omega⟩
    · exact .inl ⟨_, rfl, by omega, by omega⟩
    · exact .inl ⟨_, rfl, by omega, by omega⟩
    · simp at hd6
      rcases hd6 with rfl | rfl | rfl | rfl <;> exact .inl ⟨_, rfl, by omega, by omega⟩
    · obtain rfl | rfl : r2 = 0 ∨ r2 = 1 := by omega
      · exact .inl ⟨_, rfl, by omega, by omega⟩
      · exact .inl ⟨_, rfl, by omega, by omega⟩
    · simp at hd7
      rcases hd7 with rfl | rfl | rfl | rfl | rfl | rfl | rfl | rfl | rfl <;> exact .inr ⟨_, rfl, wd_of (by decide +kernel)⟩
  · have hMa : M a = none := kk.was hpa ha
    refine Kp.trans ?_ k8
    refine Kp.over (Kp.trans (Kp.new kk ha) k7) hMa
end
@[simp] theorem szl : sizeLine = 16777216 := rfl
/-- a dict that is written out, nothing live -/
theorem dispF_ok {fps : List ((Ev → W D) × (Ev → W D))} {env : Ev} {M : MS} {Q : D → MS → Prop} {E : XV → MS → Prop} (ps : List (D × D)) (l : List (Key × D)) (h : ∀ M Q, Q ps M → (pairsW env fps).run M Q E) (hk : keysOf ps = some l) (hl : l.length ≤ 15)
    (q : Q (.dct (mergeA [] l)) M) : (dispW false fps env).run M Q E := by
  intro a ha
  refine h _ _ ?_
  unfold tellD
  simp only [hk, opt_some, r_need, r_get, MS.set_same]
  refine ⟨hl, ?_⟩
  simp only [Bool.false_eq_true, if_false, r_del, r_pure]
  rw [MS.set_del ha]
  exact q
end Mir

/-! Mir23: things that are drawn; while. -/
namespace Mir
open PySem L2 PyProof.Rows

/-- while, by a number that falls -/
theorem while_ok {t : Ev → W Bool} {body : WS} {Q : Out → Ev → MS → Prop} {E : XV → Ev → MS → Prop} (I : Nat → Ev → MS → Prop)
    (hs : ∀ m env M, I m env M → (t env).run M (fun b M' => if b = true then body.run env M' (fun o env' M'' => match o with
      | .nx => ∃ m', m' < m ∧ I m' env' M''
      | .ct => ∃ m', m' < m ∧ I m' env' M''
      | .bk => Q .nx env' M''
      | .rt d => Q (.rt d) env' M'') E else Q .nx env M') (fun x M' => E x env M')) {m : Nat} {env : Ev} {M : MS} (h : I m env M) : (WS.while_ t body).run env M Q E := by
  have key : ∀ (n m : Nat) (env : Ev) (M : MS), m < n → I m env M → (WS.whileN t body n).run env M Q E := by
    intro n
    induction n with
    | zero => intro m env M h; omega
    | succ n ih =>
      intro m env M hm h
      refine (t env).mono (hs m env M h) ?_ fun _ _ z => z
      intro b M' z
      cases b with
      | false => exact z
      | true =>
        refine body.mono z ?_ fun _ _ _ z => z
        intro o env' M'' z
        cases o with
        | nx => obtain ⟨m', h1, h2⟩ := z; exact ih m' env' M'' (by omega) h2
        | ct => obtain ⟨m', h1, h2⟩ := z; exact ih m' env' M'' (by omega) h2
        | bk => exact z
        | rt d => exact z
  exact ⟨m + 1, key (m + 1) m env M (by omega) h⟩
/-- a thing of no more tuples within one another than told -/
def Tn : Nat → D → Prop
  | _, .non => True
  | _, .int i => i.natAbs < 10 ^ 15
  | _, .str s => Wd 12 s
  | 0, .tup _ => False
  | n + 1, .tup l => ∀ x ∈ l, Tn n x
  | _, _ => False
theorem Tn.up : ∀ {m : Nat} {d : D}, Tn m d → Tn (m + 1) d
  | 0, .non, _ => trivial
  | 0, .int _, h => h
  | 0, .str _, h => h
  | 0, .tup _, h => h.elim
  | n + 1, .non, _ => trivial
  | n + 1, .int _, h => h
  | n + 1, .str _, h => h
  | n + 1, .tup l, h => fun x hx => Tn.up (h x hx)
theorem Tn.mono {m m' : Nat} {d : D} (h : Tn m d) (hm : m ≤ m') : Tn m' d := by
  induction hm with
  | refl => exact h
  | step _ ih => exact ih.up
theorem szL_le {b : Nat} : ∀ {l : List D}, (∀ d ∈ l, sz d ≤ b) → szL l ≤ l.length * (2 + b)
  | [], _ => by simp [szL]
  | a :: r, h => by
    have h1 := h a (.head _)
    have h2 := szL_le fun d hd => h d (.tail _ hd)
    simp only [szL, List.length_cons, Nat.succ_mul]
    omega
theorem dpL_le {b : Nat} : ∀ {l : List D}, (∀ d ∈ l, dp d ≤ b) → dpL l ≤ b
  | [], _ => by simp [dpL]
  | a :: r, h => by
    have h1 := h a (.head _)
    have h2 := dpL_le fun d hd => h d (.tail _ hd)
    simp only [dpL]
    omega
theorem sz_wd {m : Nat} {s : Str} (h : Wd m s) : szS s ≤ 10 * m + 2 := by
  unfold szS
  rw [if_pos]
  · have := h.2.1; omega
  · rw [List.all_eq_true]
    intro c hc
    have := h.2.2 c hc
    simp; omega
/-- what is drawn -/
structure Tg (m : Nat) (d : D) : Prop where
  tn : Tn m d
  sz : sz d ≤ 200 * 5 ^ m
  dp : dp d ≤ 1 + m
theorem Tg.tup {m : Nat} {l : List D} (hl : l.length ≤ 4) (h : ∀ d ∈ l, Tg m d) : Tg (m + 1) (.tup l) := by
  refine ⟨fun x hx => (h x hx).tn, ?_, ?_⟩
  · have h1 := szL_le fun d hd => (h d hd).sz
    have h3 : l.length * (2 + 200 * 5 ^ m) ≤ 4 * (2 + 200 * 5 ^ m) := Nat.mul_le_mul_right _ hl
    have h4 : 0 < 5 ^ m := Nat.pow_pos (by decide)
    have h5 : 5 ^ (m + 1) = 5 * 5 ^ m := by rw [Nat.pow_succ, Nat.mul_comm]
    simp only [Mir.sz, h5]
    generalize 5 ^ m = z at *
    omega
  · have := dpL_le fun d hd => (h d hd).dp
    simp only [Mir.dp]
    omega
/-- flat: none, a number, a word -/
def Fl : D → Prop
  | .non => True
  | .int i => i.natAbs < 10 ^ 15
  | .str s => Wd 12 s
  | _ => False
theorem Fl.tg {d : D} (h : Fl d) (m : Nat) : Tg m d := by
  have h8 : 0 < 5 ^ m := Nat.pow_pos (by decide)
  cases d with
  | non => exact ⟨by cases m <;> trivial, by simp only [Mir.sz]; omega, by simp [Mir.dp]⟩
  | int i =>
    have h : i.natAbs < 10 ^ 15 := h
    refine ⟨by cases m <;> exact h, ?_, by simp [Mir.dp]⟩
    simp only [Mir.sz, szI]
    rw [if_pos (by omega)]
    omega
  | str s =>
    have h : Wd 12 s := h
    refine ⟨by cases m <;> exact h, ?_, by simp [Mir.dp]⟩
    have := sz_wd h
    simp only [Mir.sz]
    omega
  | _ => exact h.elim
theorem Tn.fl {d : D} (h : Tn 0 d) : Fl d := by
  cases d <;> exact h
def thingF (call : Str → List D → W D) (ds : List D) : W D := outW
 (WS.seq (WS.bind (fun e3 => (W.bind (W.bind (W.bind (W.bind (.pure (.int 10)) fun x4 => (W.bind (.pure (.int 15)) fun x5 => powW x4 x5)) fun x6 => (W.bind (.pure (.int 1)) fun x7 => subW x6 x7)) fun x8 => (W.bind (W.bind (argsW e3 [fun e9 => (varW 0 e9), fun e10 => (.pure (.int 3))]) fun x11 => if x11.length = 2 then call "_law_draw" x11 else .fail) fun x12 => subW x8 x12)) fun x13 => (W.bind (W.bind (.pure (.int 1)) fun x14 => (W.bind (W.bind (.pure (.int 2)) fun x15 => (W.bind (W.bind (argsW e3 [fun e16 => (varW 0 e16), fun e17 => (.pure (.int 2))]) fun x18 => if x18.length = 2 then call "_law_draw" x18 else .fail) fun x19 => mulW false x15 x19)) fun x20 => subW x14 x20)) fun x21 => mulW false x13 x21))) fun d1 => WS.store fun e2 => (fun d22 e23 => .pure (e23.set 2 (some d22))) d1 e2)
 (WS.seq (WS.bind (fun e26 => (W.bind (argsW e26 [fun e27 => (.pure .non), fun e28 => (W.bind (argsW e28 [fun e29 => (varW 0 e29), fun e30 => (.pure (.int 12))]) fun x31 => if x31.length = 2 then call "_law_draw" x31 else .fail), fun e32 => (W.bind (.pure (.int 0)) fun x33 => (W.bind (W.bind (argsW e32 [fun e34 => (varW 0 e34), fun e35 => (.pure (.int 120))]) fun x36 => if x36.length = 2 then call "_law_draw" x36 else .fail) fun x37 => subW x33 x37)), fun e38 => (varW 2 e38), fun e39 => (W.bind (argsW e39 [fun e40 => (varW 0 e40), fun e41 => (W.bind (argsW e41 [fun e42 => (.pure (.str "a")), fun e43 => (.pure (.str "ab")), fun e44 => (W.bind (.pure (.str "z")) fun x45 => (W.bind (.pure (.int 12)) fun x46 => mulW false x45 x46)), fun e47 => (.pure (.str "no")), fun e48 => (.pure (.str "knot"))]) (mkL false))]) fun x49 => if x49.length = 2 then call "_law_pick" x49 else .fail)]) (mkL false))) fun d24 => WS.store fun e25 => (fun d50 e51 => .pure (e51.set 3 (some d50))) d24 e25)
 (WS.seq (WS.bind (fun e53 => (boolT .And e53 [fun e54 => (W.bind (varW 1 e54) fun x55 => (W.bind (.pure (.int 0)) fun x56 => W.bind (cmpW .Gt x55 x56) blW)), fun e57 => (W.bind (W.bind (argsW e57 [fun e58 => (varW 0 e58), fun e59 => (.pure (.int 2))]) fun x60 => if x60.length = 2 then call "_law_draw" x60 else .fail) fun x61 => (W.bind (.pure (.int 0)) fun x62 => W.bind (eqW false x61 x62) blW))])) fun t52 => if t52 then
   (WS.seq (WS.bind (fun e63 => W.bind (W.bind (argsW e63 [fun e65 => (W.bind (W.bind (argsW e65 [fun e66 => (W.bind (argsW e66 [fun e67 => (varW 0 e67), fun e68 => (.pure (.int 5))]) fun x69 => if x69.length = 2 then call "_law_draw" x69 else .fail)]) rangeW1) fun b70 => compW false b70 (bodyC (fun d71 e72 => .pure (e72.set 4 (some d71))) (fun _ => .pure true) (fun e73 => (W.bind (argsW e73 [fun e74 => (varW 0 e74), fun e75 => (W.bind (varW 1 e75) fun x76 => (W.bind (.pure (.int 1)) fun x77 => subW x76 x77))]) fun x78 => if x78.length = 2 then call "_law_thing" x78 else .fail)) (wipeE e65 [4])))]) (Bi.run false .tuple)) (frzW false)) fun d64 => WS.out (.rt d64))
   WS.next)
   else WS.next)
 (WS.seq (WS.bind (fun e79 => W.bind (W.bind (argsW e79 [fun e81 => (varW 0 e81), fun e82 => (varW 3 e82)]) fun x83 => if x83.length = 2 then call "_law_pick" x83 else .fail) (frzW false)) fun d80 => WS.out (.rt d80))
 WS.next))))
 (startE ["_law_pen_here", "_law_deep", "_law_far", "_law_some", "_law_k"] ds)
def nestedF (_call : Str → List D → W D) (ds : List D) : W D := outW
 (WS.seq (WS.bind (fun e1 => (W.bind (argsW e1 [fun e5 => (varW 1 e5)]) rangeW1)) fun b2 => WS.loop b2 (fun d3 => WS.seq (WS.store fun e4 => (fun d6 e7 => .pure (e7.set 2 (some d6))) d3 e4)
   (WS.seq (WS.bind (fun e10 => (W.bind (argsW e10 [fun e11 => (varW 0 e11)]) mkT)) fun d8 => WS.store fun e9 => (fun d12 e13 => .pure (e13.set 0 (some d12))) d8 e9)
   WS.next)) b2.1)
 (WS.seq (WS.bind (fun e14 => W.bind (varW 0 e14) (frzW false)) fun d15 => WS.out (.rt d15))
 WS.next))
 (startE ["_law_thing_here", "_law_many", "_law_k"] ds)
class HasThing (P : Prog) : Prop where
  eq : ∀ k ds, runI P (k + 1) "_law_thing" ds = thingF (runI P k) ds
class HasNested (P : Prog) : Prop where
  eq : ∀ k ds, runI P (k + 1) "_law_nested" ds = nestedF (runI P k) ds
theorem thing_fl {d6 d : D} {r1 r2 r3 r4 : Int} (h1 : 0 ≤ r1) (h1' : r1 < 3) (h2 : 0 ≤ r2) (h2' : r2 < 2) (h3 : 0 ≤ r3) (h3' : r3 < 12) (h4 : 0 ≤ r4) (h4' : r4 < 120) (hd6 : d6 ∈ [D.str "a", D.str "ab", D.str (Txt.mul "z" 12), D.str "no", D.str "knot"])
    (hd : d ∈ [D.non, D.int r3, D.int (0 - r4), D.int ((999999999999999 - r1) * (1 - 2 * r2)), d6]) : Fl d := by
  simp only [List.mem_cons, List.not_mem_nil, or_false] at hd
  rcases hd with rfl | rfl | rfl | rfl | rfl
  · trivial
  · show Int.natAbs _ < _; omega
  · show Int.natAbs _ < _; omega
  · show Int.natAbs _ < _
    obtain rfl | rfl : r2 = 0 ∨ r2 = 1 := by omega
    · omega
    · omega
  · simp only [List.mem_cons, List.not_mem_nil, or_false] at hd6
    rcases hd6 with rfl | rfl | rfl | rfl | rfl
    all_goals exact wd_of (by decide +kernel)
section
variable {P : Prog} {k : Nat} {M : MS} {Q : D → MS → Prop} {E : XV → MS → Prop} {p : Addr} {n : Nat}
theorem thing_ok [HasDraw P] [HasPick P] [HasThing P] : ∀ (m : Nat) {k : Nat} {M : MS} {n : Nat} {Q : D → MS → Prop} {E : XV → MS → Prop}, m + 4 ≤ k → Pen M p n → m ≤ 4 → n + 100 * 8 ^ (m + 1) < 2 ^ 50 →
    (∀ d M', Tg m d → Pen M' p (n + 8 ^ (m + 1)) → Kp p M M' → Q d M') → (runI P k "_law_thing" [.ref p, .int m]).run M Q E := by
  intro m
  induction m with
  | zero =>
    intro k M n Q E hk h hm hn q
    obtain ⟨k, rfl⟩ : ∃ k', k = k' + 1 := ⟨k - 1, by omega⟩
    rw [HasThing.eq]
    unfold thingF
    simp [startE]
    refine HasDraw.ok (by omega) h (by omega) (by decide) (by decide) fun r1 M1 r1a r1b h1 k1 => ?_
    try simp
    refine HasDraw.ok (by omega) h1 (by omega) (by decide) (by decide) fun r2 M2 r2a r2b h2 k2 => ?_
    try simp
    refine ⟨.inl (by omega), .inr (by omega), ?_⟩
    refine HasDraw.ok (by omega) h2 (by omega) (by decide) (by decide) fun r3 M3 r3a r3b h3 k3 => ?_
    refine HasDraw.ok (by omega) h3 (by omega) (by decide) (by decide) fun r4 M4 r4a r4b h4 k4 => ?_
    simp only [w_sub, r_pure]
    refine ⟨⟨by decide, by decide +kernel, by decide +kernel⟩, ?_⟩
    refine hpick_ok (by omega) h4 (by omega) (by simp) (by simp) fun d6 M5 hd5 h5 k5 => ?_
    refine hpick_ok (by omega) h5 (by omega) (by simp) (by simp) fun d M6 hd6 h6 k6 => ?_
    refine q d M6 (Fl.tg (thing_fl r1a r1b r2a r2b r3a r3b r4a r4b hd5 hd6) _) (h6.mono (by omega)) (((((k1.trans k2).trans k3).trans k4).trans k5).trans k6)
  | succ m ih =>
    intro k M n Q E hk h hm hn q
    obtain ⟨k, rfl⟩ : ∃ k', k = k' + 1 := ⟨k - 1, by omega⟩
    rw [HasThing.eq]
    unfold thingF
    simp [startE]
    have e4 : 8 ^ (m + 1 + 1) = 8 * 8 ^ (m + 1) := by rw [Nat.pow_succ, Nat.mul_comm]
    have e5 : 8 ≤ 8 ^ (m + 1) := by rw [Nat.pow_succ]; have := Nat.pow_pos (n := m) (show 0 < 8 by decide); omega
    have e1 : (m : Int) + 1 - 1 = m := by omega
    have h0 : (0 : Int) < (m : Int) + 1 := by omega
    rw [e4] at hn q
    refine HasDraw.ok (by omega) h (by omega) (by decide) (by decide) fun r1 M1 r1a r1b h1 k1 => ?_
    try simp
    refine HasDraw.ok (by omega) h1 (by omega) (by decide) (by decide) fun r2 M2 r2a r2b h2 k2 => ?_
    try simp
    refine ⟨.inl (by omega), .inr (by omega), ?_⟩
    refine HasDraw.ok (by omega) h2 (by omega) (by decide) (by decide) fun r3 M3 r3a r3b h3 k3 => ?_
    refine HasDraw.ok (by omega) h3 (by omega) (by decide) (by decide) fun r4 M4 r4a r4b h4 k4 => ?_
    simp only [w_sub, r_pure]
    refine ⟨⟨by decide, by decide +kernel, by decide +kernel⟩, ?_⟩
    refine hpick_ok (by omega) h4 (by omega) (by simp) (by simp) fun d6 M5 hd5 h5 k5 => ?_
    try simp [h0]
    refine HasDraw.ok (by omega) h5 (by omega) (by decide) (by decide) fun r6 M6 r6a r6b h6 k6 => ?_
    by_cases hr6 : r6 = 0
    · simp [hr6]
      refine HasDraw.ok (by omega) h6 (by omega) (by decide) (by decide) fun r7 M7 r7a r7b h7 k7 => ?_
      simp
      refine ⟨by omega, ?_⟩
      have el : (intsD 0 r7.toNat).length = r7.toNat := by simp [intsD]
      have h8 : 8 ^ (m + 1) * r7.toNat ≤ 8 ^ (m + 1) * 4 := Nat.mul_le_mul_left _ (by omega)
      refine comp_pen (Tg m) (8 ^ (m + 1)) h7 ?_ (by rw [el]; exact sz_le (by omega)) ?_
      · intro d hd M' j QO E hP hj q'
        simp [bodyC, wipeE, e1]
        rw [el] at hj
        refine ih (by omega) hP (by omega) (by omega) fun d M3 hd h3 k3 => ?_
        exact q' d M3 hd h3 k3
      · intro acc M8 ha hb h8 k8
        rw [el] at ha h8
        simp
        exact q _ _ (Tg.tup (by omega) hb) (h8.mono (by omega)) (((((((k1.trans k2).trans k3).trans k4).trans k5).trans k6).trans k7).trans k8)
    · simp [hr6]
      refine hpick_ok (by omega) h6 (by omega) (by simp) (by simp) fun d M7 hd7 h7 k7 => ?_
      refine q d M7 (Fl.tg (thing_fl r1a r1b r2a r2b r3a r3b r4a r4b hd5 (by simpa using hd7)) _) (h7.mono (by omega)) ((((((k1.trans k2).trans k3).trans k4).trans k5).trans k6).trans k7)
/-- within so many tuples -/
def nest : Nat → D → D
  | 0, d => d
  | m + 1, d => .tup [nest m d]
theorem nest_tn {d : D} {j : Nat} (h : Tn j d) : ∀ m, Tn (j + m) (nest m d)
  | 0 => h
  | m + 1 => fun x hx => by rw [List.mem_singleton.mp hx]; exact nest_tn h m
theorem nest_sz {d : D} : ∀ m, sz (nest m d) = sz d + 5 * m
  | 0 => rfl
  | m + 1 => by simp only [nest, sz, szL]; rw [nest_sz m]; omega
theorem nest_dp {d : D} : ∀ m, dp (nest m d) = dp d + m
  | 0 => rfl
  | m + 1 => by simp only [nest, dp, dpL]; rw [nest_dp m]; have := dp_pos d; omega
theorem nested_ok [HasNested P] (hk : 1 ≤ k) {d : D} {m : Nat} (hm : m ≤ 1000) (q : Q (nest m d) M) : (runI P k "_law_nested" [d, .int m]).run M Q E := by
  obtain ⟨k, rfl⟩ : ∃ k', k = k' + 1 := ⟨k - 1, by omega⟩
  rw [HasNested.eq]
  unfold nestedF
  simp [startE]
  refine ⟨by omega, ?_⟩
  refine loopN_ok (lo := 0) (fun i env M' => ∃ x, env = [some (nest i d), some (.int m), x] ∧ M' = M) ⟨none, rfl, rfl⟩ ?_ ?_
  · rintro i env M' hi ⟨x, rfl, rfl⟩
    simp [nest]
  · rintro env M' ⟨x, rfl, rfl⟩
    simpa using q
end
end Mir

/-! Mir24: numbers' texts; how things are printed, so that unlike ones have unlike texts. -/
namespace Mir
open PySem L2 PyProof.Rows

/-- a whole number's text by codes -/
def numc (i : Int) : List Nat := if i < 0 then 45 :: TL.numL i.natAbs else TL.numL i.natAbs
theorem cds_num (i : Int) : cds (Str.ofString (toString i)) = numc i := by
  unfold numc
  by_cases h : i < 0
  · rw [if_pos h]
    show (Str.ofString (toString i)).cps.toList = _
    rw [signs_ofString, Int.toString_eq_repr, Int.repr_eq_if, if_neg (by omega), String.toList_append, Nat.toList_repr, List.map_append, show (-i).toNat = i.natAbs by omega]
    rfl
  · rw [if_neg h]
    obtain ⟨m, rfl⟩ := Int.eq_ofNat_of_zero_le (show 0 ≤ i by omega)
    exact TL.tl_num m
theorem numL_head {n : Nat} : ∀ {t : List Nat}, TL.numL n = 48 :: t → n = 0 := by
  induction n using Nat.strongRecOn with
  | _ n ih =>
    intro t e
    by_cases h : n < 10
    · rw [TL.numL_lt h] at e
      have := (List.cons.inj e).1
      omega
    · rw [TL.numL_step (by omega)] at e
      cases hn : TL.numL (n / 10) with
      | nil => exact absurd hn (TL.numL_ne _)
      | cons c u =>
        rw [hn] at e
        cases e
        have := ih (n / 10) (by omega) hn
        omega
theorem numc_inj {i j : Int} (h : numc i = numc j) : i = j := by
  unfold numc at h
  have nd : ∀ n t, TL.numL n ≠ 45 :: t := fun n t e => by
    have := TL.numL_digits n 45 (by rw [e]; exact .head _)
    omega
  by_cases hi : i < 0
  · rw [if_pos hi] at h
    by_cases hj : j < 0
    · rw [if_pos hj] at h
      have := TL.numL_inj (List.cons.inj h).2
      omega
    · rw [if_neg hj] at h
      exact absurd h.symm (nd _ _)
  · rw [if_neg hi] at h
    by_cases hj : j < 0
    · rw [if_pos hj] at h
      exact absurd h (nd _ _)
    · rw [if_neg hj] at h
      have := TL.numL_inj h
      omega
theorem numc_mem {i : Int} {c : Nat} (h : c ∈ numc i) : c = 45 ∨ (48 ≤ c ∧ c ≤ 57) := by
  unfold numc at h
  split at h
  · rcases List.mem_cons.mp h with h | h
    · exact .inl h
    · exact .inr (TL.numL_digits _ c h)
  · exact .inr (TL.numL_digits _ c h)
theorem numc_ne (i : Int) : numc i ≠ [] := by
  unfold numc
  split
  · simp
  · exact TL.numL_ne _
theorem numc_reads {i : Int} (h : i.natAbs < 10 ^ 18) : intText? (Str.ofString (toString i)) = some i := by
  have hl := int_text_length_le10 (k := 18) (by decide) h
  have e : (Str.ofString (toString i)).length = (toString i).length := PySem.ofString_length _
  have hc : (Str.ofString (toString i)).cps.toList = numc i := cds_num i
  unfold numc at hc
  by_cases hi : i < 0
  · rw [if_pos hi] at hc
    have := PySem.intText_neg hc (TL.numL_digits _) (TL.numL_ne _) (by omega)
    rw [this, TL.numL_val]
    congr 1
    omega
  · rw [if_neg hi] at hc
    have := PySem.intText_digits (x := Str.ofString (toString i)) (by rw [hc]; exact TL.numL_digits _) (by rw [hc]; exact TL.numL_ne _) (by omega)
    rw [this, hc, TL.numL_val]
    congr 1
    omega
theorem numL_len {n k : Nat} (hk : 0 < k) (h : n < 10 ^ k) : (TL.numL n).length ≤ k := TL.numL_len hk h
/-- a text's beginning, as long as it is of a kind, is one -/
theorem span_uq {p : Nat → Prop} : ∀ {w w' r r' : List Nat}, (∀ c ∈ w, p c) → (∀ c ∈ w', p c) → (∀ c t, r = c :: t → ¬ p c) → (∀ c t, r' = c :: t → ¬ p c) → w ++ r = w' ++ r' → w = w' ∧ r = r'
  | [], [], _, _, _, _, _, _, e => ⟨rfl, e⟩
  | [], c :: w', _, _, _, h2, h3, _, e => absurd (h2 c (.head _)) (h3 c _ e)
  | c :: w, [], _, _, h1, _, _, h4, e => absurd (h1 c (.head _)) (h4 c _ e.symm)
  | c :: w, c' :: w', r, r', h1, h2, h3, h4, e => by
    have e' : c = c' ∧ w ++ r = w' ++ r' := by simpa using e
    obtain ⟨a, b⟩ := span_uq (fun c hc => h1 c (.tail _ hc)) (fun c hc => h2 c (.tail _ hc)) h3 h4 e'.2
    exact ⟨by rw [e'.1, a], b⟩
/-- a way to print -/
structure Pr where
  fl : D → List Nat
  op : Nat
  sep : List Nat
  c0 : List Nat
  c1 : List Nat
mutual
def Pr.t (R : Pr) : D → List Nat
  | .tup l => R.op :: Pr.ts R l 0
  | .non => R.fl .non
  | .int i => R.fl (.int i)
  | .str s => R.fl (.str s)
  | _ => []
def Pr.ts (R : Pr) : List D → Nat → List Nat
  | [], st => if st = 1 then R.c1 else R.c0
  | y :: r, st => (if st = 0 then [] else R.sep) ++ (Pr.t R y ++ Pr.ts R r (if st = 0 then 1 else 2))
end
structure PrOk (R : Pr) (isd : Nat → Prop) : Prop where
  ch : ∀ d, Fl d → ∀ c ∈ R.fl d, ¬ isd c
  inj : ∀ d d', Fl d → Fl d' → R.fl d = R.fl d' → d = d'
  ne : ∀ d, Fl d → R.fl d ≠ []
  op : ∀ d t, Fl d → R.fl d ≠ R.op :: t
  opd : ¬ isd R.op
  sep : ∃ c t, R.sep = c :: t ∧ isd c
  c0 : ∃ c t, R.c0 = c :: t ∧ isd c
  c1 : ∃ c t, R.c1 = c :: t ∧ isd c
  ne0 : ∀ z z', R.c0 ++ z ≠ R.sep ++ z'
  ne1 : ∀ z z', R.c1 ++ z ≠ R.sep ++ z'
section
variable {R : Pr} {isd : Nat → Prop}
theorem Fl.or {m : Nat} {d : D} (h : Tn m d) : Fl d ∨ ∃ m' l, m = m' + 1 ∧ d = .tup l ∧ ∀ x ∈ l, Tn m' x := by
  cases d with
  | tup l =>
    cases m with
    | zero => exact h.elim
    | succ m => exact .inr ⟨m, l, rfl, rfl, h⟩
  | non => exact .inl trivial
  | int i => cases m <;> exact .inl h
  | str s => cases m <;> exact .inl h
  | _ => cases m <;> exact h.elim
theorem pr_fl {d : D} (h : Fl d) : Pr.t R d = R.fl d := by
  cases d <;> first | exact h.elim | rfl
theorem ts_head (ok : PrOk R isd) : ∀ {l : List D} {st : Nat}, st ≠ 0 → ∃ c t, Pr.ts R l st = c :: t ∧ isd c
  | [], st, h => by
    simp only [Pr.ts]
    split
    · exact ok.c1
    · exact ok.c0
  | y :: r, st, h => by
    simp only [Pr.ts, if_neg h]
    obtain ⟨c, t, e, hc⟩ := ok.sep
    exact ⟨c, _, by rw [e]; rfl, hc⟩
theorem pr_uq (ok : PrOk R isd) : ∀ (m : Nat) {d d' : D} {r r' : List Nat}, Tn m d → Tn m d' → (∀ c t, r = c :: t → isd c) → (∀ c t, r' = c :: t → isd c) → Pr.t R d ++ r = Pr.t R d' ++ r' → d = d' ∧ r = r' := by
  have flat : ∀ {d d' : D} {r r' : List Nat}, Fl d → Fl d' → (∀ c t, r = c :: t → isd c) → (∀ c t, r' = c :: t → isd c) → Pr.t R d ++ r = Pr.t R d' ++ r' → d = d' ∧ r = r' := by
    intro d d' r r' h h' hr hr' e
    rw [pr_fl h, pr_fl h'] at e
    obtain ⟨a, b⟩ := span_uq (p := fun c => ¬ isd c) (ok.ch d h) (ok.ch d' h') (fun c t e => fun z => z (hr c t e)) (fun c t e => fun z => z (hr' c t e)) e
    exact ⟨ok.inj d d' h h' a, b⟩
  have mix : ∀ {d : D} {l : List D} {r r' : List Nat}, Fl d → Pr.t R d ++ r ≠ Pr.t R (.tup l) ++ r' := by
    intro d l r r' h e
    rw [pr_fl h] at e
    cases hd : R.fl d with
    | nil => exact ok.ne d h hd
    | cons c t =>
      rw [hd] at e
      simp only [Pr.t, List.cons_append, List.cons.injEq] at e
      exact ok.op d t h (by rw [hd, e.1])
  intro m
  induction m with
  | zero => exact fun h h' => flat h.fl h'.fl
  | succ m ih =>
    have lists : ∀ (l l' : List D) (st : Nat) (r r' : List Nat), (∀ x ∈ l, Tn m x) → (∀ x ∈ l', Tn m x) → Pr.ts R l st ++ r = Pr.ts R l' st ++ r' → l = l' ∧ r = r' := by
      have first : ∀ (y : D) (z z' : List Nat), Tn m y → R.c0 ++ z ≠ Pr.t R y ++ z' := by
        intro y z z' hy e
        obtain ⟨c, t, e0, hc⟩ := ok.c0
        rcases Fl.or hy with h | ⟨m', l, rfl, rfl, h⟩
        · rw [pr_fl h, e0] at e
          cases hd : R.fl y with
          | nil => exact ok.ne y h hd
          | cons c' t' =>
            rw [hd] at e
            simp only [List.cons_append, List.cons.injEq] at e
            exact ok.ch y h c' (by rw [hd]; exact .head _) (by rw [← e.1]; exact hc)
        · rw [e0] at e
          simp only [Pr.t, List.cons_append, List.cons.injEq] at e
          exact ok.opd (by rw [← e.1]; exact hc)
      intro l
      induction l with
      | nil =>
        intro l' st r r' _ h' e
        cases l' with
        | nil => exact ⟨rfl, List.append_cancel_left e⟩
        | cons y l' =>
          exfalso
          simp only [Pr.ts] at e
          by_cases h0 : st = 0
          · subst h0
            simp only [Nat.zero_ne_one, if_false, if_true, List.nil_append, List.append_assoc] at e
            exact first y _ _ (h' y (.head _)) e
          · simp only [if_neg h0, List.append_assoc] at e
            split at e
            · exact ok.ne1 _ _ e
            · exact ok.ne0 _ _ e
      | cons x l ihl =>
        intro l' st r r' h h' e
        cases l' with
        | nil =>
          exfalso
          simp only [Pr.ts] at e
          by_cases h0 : st = 0
          · subst h0
            simp only [Nat.zero_ne_one, if_false, if_true, List.nil_append, List.append_assoc] at e
            exact first x _ _ (h x (.head _)) e.symm
          · simp only [if_neg h0, List.append_assoc] at e
            split at e
            · exact ok.ne1 _ _ e.symm
            · exact ok.ne0 _ _ e.symm
        | cons y l' =>
          simp only [Pr.ts, List.append_assoc] at e
          have e := List.append_cancel_left e
          have hst : (if st = 0 then 1 else 2) ≠ 0 := by split <;> decide
          have hd : ∀ (l : List D) (r : List Nat) c t, Pr.ts R l (if st = 0 then 1 else 2) ++ r = c :: t → isd c := by
            intro l r c t e
            obtain ⟨c', t', e', hc⟩ := ts_head ok (l := l) hst
            rw [e'] at e
            simp only [List.cons_append, List.cons.injEq] at e
            rw [← e.1]; exact hc
          obtain ⟨a, b⟩ := ih (h x (.head _)) (h' y (.head _)) (hd l r) (hd l' r') e
          obtain ⟨a', b'⟩ := ihl l' _ r r' (fun z hz => h z (.tail _ hz)) (fun z hz => h' z (.tail _ hz)) b
          exact ⟨by rw [a, a'], b'⟩
    intro d d' r r' h h' hr hr' e
    rcases Fl.or h with hf | ⟨m1, l, e1, rfl, hl⟩
    · rcases Fl.or h' with hf' | ⟨m2, l', e2, rfl, hl'⟩
      · exact flat hf hf' hr hr' e
      · exact absurd e (mix hf)
    · rcases Fl.or h' with hf' | ⟨m2, l', e2, rfl, hl'⟩
      · exact absurd e.symm (mix hf')
      · cases e1; cases e2
        simp only [Pr.t, List.cons_append, List.cons.injEq, true_and] at e
        obtain ⟨a, b⟩ := lists l l' 0 r r' hl hl' e
        exact ⟨by rw [a], b⟩
theorem pr_inj (ok : PrOk R isd) {m : Nat} {d d' : D} (h : Tn m d) (h' : Tn m d') (e : Pr.t R d = Pr.t R d') : d = d' :=
  (pr_uq ok m (r := []) (r' := []) h h' (by simp) (by simp) (by rw [e])).1
end
/-! ### writings, reprs -/
def flW : D → List Nat
  | .non => [46]
  | .int i => numc i
  | .str s => cds s
  | _ => []
def flR : D → List Nat
  | .non => [78, 111, 110, 101]
  | .int i => numc i
  | .str s => 39 :: (cds s ++ [39])
  | _ => []
def wrP : Pr := ⟨flW, 91, [32], [93], [93]⟩
def rpP : Pr := ⟨flR, 40, [44, 32], [41], [44, 41]⟩
theorem cds_ne {n : Nat} {s : Str} (h : Wd n s) : cds s ≠ [] := by
  intro e
  have h1 := h.1
  rw [← cds_len, e] at h1
  simp at h1
theorem flW_mem {d : D} (h : Fl d) : ∀ c ∈ flW d, c = 46 ∨ c = 45 ∨ (48 ≤ c ∧ c ≤ 57) ∨ (97 ≤ c ∧ c ≤ 122) := by
  intro c hc
  cases d with
  | non => simp [flW] at hc; exact .inl hc
  | int i =>
    rcases numc_mem hc with h | h
    · exact .inr (.inl h)
    · exact .inr (.inr (.inl h))
  | str s => exact .inr (.inr (.inr (h.2.2 c hc)))
  | _ => exact h.elim
theorem flW_ne {d : D} (h : Fl d) : flW d ≠ [] := by
  cases d with
  | non => simp [flW]
  | int i => exact numc_ne i
  | str s => exact cds_ne h
  | _ => exact h.elim
theorem num_wd {i : Int} {n : Nat} {s : Str} (h : Wd n s) : numc i ≠ cds s := by
  intro e
  cases hn : numc i with
  | nil => exact numc_ne i hn
  | cons c t =>
    have h1 := numc_mem (i := i) (c := c) (by rw [hn]; exact .head _)
    have h2 := h.2.2 c (by rw [← e, hn]; exact .head _)
    omega
theorem wr_ok : PrOk wrP (fun c => c = 32 ∨ c = 93) where
  ch d h c hc := by
    have := flW_mem h c hc
    show ¬ (c = 32 ∨ c = 93)
    omega
  inj d d' h h' e := by
    have e : flW d = flW d' := e
    have nn : ∀ {i : Int}, numc i ≠ [46] := fun {i} e => by
      have := numc_mem (i := i) (c := 46) (by rw [e]; exact .head _)
      omega
    have nw : ∀ {s : Str}, Wd 12 s → cds s ≠ [46] := fun {s} h e => by
      have := h.2.2 46 (by rw [e]; exact .head _)
      omega
    cases d <;> cases d' <;> first | exact h.elim | exact h'.elim | skip
    · rfl
    · exact absurd e.symm nn
    · exact absurd e.symm (nw h')
    · exact absurd e nn
    · rw [numc_inj e]
    · exact absurd e (num_wd h')
    · exact absurd e (nw h)
    · exact absurd e.symm (num_wd h)
    · rw [cds_inj e]
  ne d h := flW_ne h
  op d t h e := by
    have := flW_mem h 91 (by rw [show flW d = 91 :: t from e]; exact .head _)
    omega
  opd := by show ¬ (91 = 32 ∨ 91 = 93); omega
  sep := ⟨32, [], rfl, .inl rfl⟩
  c0 := ⟨93, [], rfl, .inr rfl⟩
  c1 := ⟨93, [], rfl, .inr rfl⟩
  ne0 z z' e := by simp [wrP] at e
  ne1 z z' e := by simp [wrP] at e
theorem rp_ok : PrOk rpP (fun c => c = 44 ∨ c = 41) where
  ch d h c hc := by
    have hc : c ∈ flR d := hc
    show ¬ (c = 44 ∨ c = 41)
    cases d with
    | non => simp [flR] at hc; omega
    | int i => have := numc_mem hc; omega
    | str s =>
      simp only [flR, List.mem_cons, List.mem_append, List.not_mem_nil, or_false] at hc
      rcases hc with hc | hc | hc
      · omega
      · have := h.2.2 c hc; omega
      · omega
    | _ => exact h.elim
  inj d d' h h' e := by
    have e : flR d = flR d' := e
    have nn : ∀ {i : Int}, numc i ≠ [78, 111, 110, 101] := fun {i} e => by
      have := numc_mem (i := i) (c := 78) (by rw [e]; exact .head _)
      omega
    have ns : ∀ {i : Int} {t : List Nat}, numc i ≠ 39 :: t := fun {i t} e => by
      have := numc_mem (i := i) (c := 39) (by rw [e]; exact .head _)
      omega
    cases d <;> cases d' <;> first | exact h.elim | exact h'.elim | skip
    · rfl
    · exact absurd e.symm nn
    · simp [flR] at e
    · exact absurd e nn
    · rw [numc_inj e]
    · exact absurd e ns
    · simp [flR] at e
    · exact absurd e.symm ns
    · have e2 := (List.cons.inj e).2
      rw [cds_inj (List.append_cancel_right e2)]
  ne d h := by
    cases d with
    | non => simp [rpP, flR]
    | int i => exact numc_ne i
    | str s => simp [rpP, flR]
    | _ => exact h.elim
  op d t h e := by
    have e : flR d = 40 :: t := e
    cases d with
    | non => simp [flR] at e
    | int i => have := numc_mem (i := i) (c := 40) (by rw [show numc i = 40 :: t from e]; exact .head _); omega
    | str s => simp [flR] at e
    | _ => exact h.elim
  opd := by show ¬ (40 = 44 ∨ 40 = 41); omega
  sep := ⟨44, [32], rfl, .inl rfl⟩
  c0 := ⟨41, [], rfl, .inr rfl⟩
  c1 := ⟨44, [41], rfl, .inl rfl⟩
  ne0 z z' e := by simp [rpP] at e
  ne1 z z' e := by simp [rpP] at e
theorem rc_let : ∀ k : Nat, k < 26 → Builtin.Str.reprChar 39 (97 + k) = [97 + k] := by decide +kernel
theorem cds_repr {n : Nat} {s : Str} (h : Wd n s) : cds (reprText s) = 39 :: (cds s ++ [39]) := by
  have hq : reprQuote s = 39 := by
    unfold reprQuote
    have : s.cps.contains 39 = false := by
      rw [Bool.eq_false_iff]
      intro z
      have := h.2.2 39 (by rw [Array.contains_iff_mem] at z; exact Array.mem_toList_iff.mpr z)
      omega
    rw [this]; rfl
  unfold reprText
  rw [hq]
  show (Array.push _ 39).toList = _
  rw [Array.toList_push, ← Array.foldl_toList]
  have key : ∀ (l : List Nat) (acc : Array Nat), (∀ c ∈ l, 97 ≤ c ∧ c ≤ 122) → (l.foldl (fun out c => out ++ (Builtin.Str.reprChar 39 c).toArray) acc).toList = acc.toList ++ l := by
    intro l
    induction l with
    | nil => intro acc _; simp
    | cons c r ih =>
      intro acc hl
      have hc := hl c (.head _)
      have e : Builtin.Str.reprChar 39 c = [c] := by
        have := rc_let (c - 97) (by omega)
        rw [show 97 + (c - 97) = c by omega] at this
        exact this
      rw [List.foldl_cons, ih _ fun x hx => hl x (.tail _ hx), e]
      simp
  rw [key _ _ h.2.2]
  rfl
theorem ts_two (R : Pr) : ∀ l : List D, Pr.ts R l 2 = (l.map fun x => R.sep ++ Pr.t R x).flatten ++ R.c0
  | [] => rfl
  | y :: r => by
    simp only [Pr.ts, List.map_cons, List.flatten_cons, List.append_assoc]
    rw [if_neg (by decide), if_neg (by decide), ts_two R r]
theorem cds_joinS (sep t : Str) : ∀ ts : List Str, cds (Str.join sep (t :: ts)) = cds t ++ (ts.map fun u => cds sep ++ cds u).flatten := by
  intro ts
  induction ts generalizing t with
  | nil => simp [Str.join]
  | cons u ts ih =>
    have e : Str.join sep (t :: u :: ts) = t ++ sep ++ Str.join sep (u :: ts) := rfl
    rw [e, cds_app, cds_app, ih]
    simp
/-- what repr tells of a thing -/
theorem toD_rp : ∀ (m : Nat) {d : D} {n : Nat}, Tn m d → m < n → ∃ pd : PyData, (∀ M, toD M n d = some pd) ∧ cds pd.shown = Pr.t rpP d := by
  have flat : ∀ {d : D} {n : Nat}, Fl d → ∃ pd : PyData, (∀ M, toD M (n + 1) d = some pd) ∧ cds pd.shown = Pr.t rpP d := by
    intro d n h
    cases d with
    | non => exact ⟨.none, fun _ => rfl, by simp only [PyData.shown]; decide +kernel⟩
    | int i => exact ⟨.int i, fun _ => rfl, by simp only [PyData.shown]; exact cds_num i⟩
    | str s => exact ⟨.str s, fun _ => rfl, by simp only [PyData.shown]; exact cds_repr h⟩
    | _ => exact h.elim
  intro m
  induction m with
  | zero =>
    intro d n h hn
    obtain ⟨n, rfl⟩ : ∃ n', n = n' + 1 := ⟨n - 1, by omega⟩
    exact flat h.fl
  | succ m ih =>
    intro d n h hn
    obtain ⟨n, rfl⟩ : ∃ n', n = n' + 1 := ⟨n - 1, by omega⟩
    rcases Fl.or h with hf | ⟨m1, l, e1, rfl, hl⟩
    · exact flat hf
    · cases e1
      have hL : ∃ ps : List PyData, (∀ M, mapO (toD M n) l = some ps) ∧ (PyData.shownAll ps).map cds = l.map (Pr.t rpP) := by
        clear h
        induction l with
        | nil => exact ⟨[], fun _ => rfl, rfl⟩
        | cons x l ihl =>
          obtain ⟨pd, a1, a2⟩ := ih (hl x (.head _)) (show m < n by omega)
          obtain ⟨ps, b1, b2⟩ := ihl fun y hy => hl y (.tail _ hy)
          exact ⟨pd :: ps, fun M => by simp only [mapO, a1 M, b1 M], by simp only [PyData.shownAll, List.map_cons, a2, b2]⟩
      obtain ⟨ps, p1, p2⟩ := hL
      refine ⟨.tuple ps, fun M => by simp only [toD, p1 M, Option.map_some], ?_⟩
      simp only [PyData.shown, tupleText]
      rw [cds_app, cds_app]
      generalize PyData.shownAll ps = ts at p2
      simp only [Pr.t]
      have e0 : cds ("(" : Str) = [40] := by decide +kernel
      rw [e0]
      rcases l with _ | ⟨x, l⟩
      · have : ts = [] := by cases ts <;> simp at p2; rfl
        subst this
        simp only [Pr.ts]
        decide +kernel
      · rcases ts with _ | ⟨t, ts⟩
        · simp at p2
        · simp only [List.map_cons, List.cons.injEq] at p2
          rw [cds_joinS]
          have esep : cds (", " : Str) = [44, 32] := by decide +kernel
          rw [esep, p2.1]
          have ef : (ts.map fun u => [44, 32] ++ cds u) = l.map fun y => [44, 32] ++ Pr.t rpP y := by
            have := congrArg (List.map fun z : List Nat => [44, 32] ++ z) p2.2
            simpa [List.map_map, Function.comp_def] using this
          rw [ef]
          rcases l with _ | ⟨y, l⟩
          · have : ts = [] := by
              have := congrArg List.length p2.2
              simpa using this
            subst this
            have ec : cds (Str.ofString (if ([t].length == 1) = true then ",)" else ")")) = [44, 41] := by
              show cds (Str.ofString ",)") = _
              decide +kernel
            rw [ec]
            simp [Pr.ts, rpP]
          · have hl2 : (t :: ts).length ≠ 1 := by
              have := congrArg List.length p2.2
              simp at this
              simp [this]
            have ec : cds (Str.ofString (if ((t :: ts).length == 1) = true then ",)" else ")")) = [41] := by
              rw [if_neg (by simpa using hl2)]
              decide +kernel
            rw [ec]
            simp only [Pr.ts, Nat.one_ne_zero, if_false, if_true, ts_two]
            simp [rpP]
theorem shw_rp {m : Nat} {d : D} (h : Tn m d) (hm : m < 25) : cds (shw d) = Pr.t rpP d := by
  obtain ⟨pd, h1, h2⟩ := toD_rp m h hm
  unfold shw
  rw [h1]
  exact h2
theorem shw_inj {m : Nat} {d d' : D} (h : Tn m d) (h' : Tn m d') (hm : m < 25) : shw d = shw d' ↔ d = d' := by
  refine ⟨fun e => pr_inj rp_ok h h' ?_, fun e => by rw [e]⟩
  rw [← shw_rp h hm, ← shw_rp h' hm, e]
@[simp] theorem w_eqB {n : Bool} {i j : Bool} : eqW n (.bl i) (.bl j) = .pure (.bl (n ^^ decide (i = j))) := rfl
end Mir

/-! Mir25: == over plain trees. -/
namespace Mir
open PySem L2 PyProof.Rows
mutual
/-- what == can take -/
def Pln : D → Bool
  | .non => true
  | .bl _ => true
  | .int _ => true
  | .str s => PyData.canLay0 (.str s)
  | .tup l => PlnL l
  | .lst l => PlnL l
  | _ => false
def PlnL : List D → Bool
  | [] => true
  | d :: l => Pln d && PlnL l
end
mutual
def pdD : D → PyData
  | .bl b => .bool b
  | .int i => .int i
  | .str s => .str s
  | .tup l => .tuple (pdL l)
  | .lst l => .list (pdL l)
  | _ => .none
def pdL : List D → List PyData
  | [] => []
  | d :: l => pdD d :: pdL l
end
theorem PlnL_iff : ∀ {l : List D}, PlnL l = true ↔ ∀ d ∈ l, Pln d = true
  | [] => by simp [PlnL]
  | d :: l => by simp [PlnL, PlnL_iff (l := l)]
theorem pdL_map : ∀ l : List D, pdL l = l.map pdD
  | [] => rfl
  | d :: l => by simp [pdL, pdL_map l]
mutual
theorem toD_pln : ∀ (n : Nat) (d : D), Pln d = true → dp d ≤ n → (∀ M, toD M n d = some (pdD d)) ∧ (pdD d).canLay0 = true
  | 0, d, _, h => absurd (dp_pos d) (by omega)
  | n + 1, .non, _, _ => ⟨fun _ => rfl, rfl⟩
  | n + 1, .bl b, _, _ => ⟨fun _ => rfl, rfl⟩
  | n + 1, .int i, _, _ => ⟨fun _ => rfl, rfl⟩
  | n + 1, .str s, h, _ => ⟨fun _ => rfl, h⟩
  | n + 1, .tup l, h, g => by
    obtain ⟨a, b⟩ := toD_plnL n l (by simpa [Pln] using h) (by simp only [dp] at g; omega)
    refine ⟨fun M => ?_, by simpa [pdD, PyData.canLay0] using b⟩
    show (mapO (toD M n) l).map PyData.tuple = _
    rw [a M]; rfl
  | n + 1, .lst l, h, g => by
    obtain ⟨a, b⟩ := toD_plnL n l (by simpa [Pln] using h) (by simp only [dp] at g; omega)
    refine ⟨fun M => ?_, by simpa [pdD, PyData.canLay0] using b⟩
    show (mapO (toD M n) l).map PyData.list = _
    rw [a M]; rfl
  | n + 1, .dct _, h, _ => by cases h
  | n + 1, .scr _, h, _ => by cases h
  | n + 1, .ref _, h, _ => by cases h
  | n + 1, .glo _, h, _ => by cases h
  | n + 1, .ty _, h, _ => by cases h
  | n + 1, .exc _ _, h, _ => by cases h
  | n + 1, .cls _, h, _ => by cases h
  | n + 1, .xty _, h, _ => by cases h
theorem toD_plnL : ∀ (n : Nat) (l : List D), PlnL l = true → dpL l ≤ n → (∀ M, mapO (toD M n) l = some (pdL l)) ∧ PyData.canLayAll0 (pdL l) = true
  | n, [], _, _ => ⟨fun _ => rfl, rfl⟩
  | n, d :: l, h, g => by
    simp only [PlnL, Bool.and_eq_true] at h
    simp only [dpL] at g
    obtain ⟨a1, a2⟩ := toD_pln n d h.1 (by omega)
    obtain ⟨b1, b2⟩ := toD_plnL n l h.2 (by omega)
    exact ⟨fun M => by simp only [mapO, a1 M, b1 M]; rfl, by simp [pdL, PyData.canLayAll0, a2, b2]⟩
end
theorem eqvAll_len : ∀ {a b : List PyData}, PyData.eqvAll a b = true → a.length = b.length
  | [], [], _ => rfl
  | x :: xs, y :: ys, h => by
    simp only [PyData.eqvAll, Bool.and_eq_true] at h
    simp [eqvAll_len h.2]
  | [], _ :: _, h => by simp [PyData.eqvAll] at h
  | _ :: _, [], h => by simp [PyData.eqvAll] at h
mutual
theorem eqv_refl : ∀ d : D, Pln d = true → PyData.eqv (pdD d) (pdD d) = true
  | .non, _ => rfl
  | .bl b, _ => by simp [pdD, PyData.eqv]
  | .int i, _ => by simp [pdD, PyData.eqv]
  | .str s, _ => by simp [pdD, PyData.eqv]
  | .tup l, h => by simpa [pdD, PyData.eqv] using eqvL_refl l (by simpa [Pln] using h)
  | .lst l, h => by simpa [pdD, PyData.eqv] using eqvL_refl l (by simpa [Pln] using h)
  | .dct _, h => by cases h
  | .scr _, h => by cases h
  | .ref _, h => by cases h
  | .glo _, h => by cases h
  | .ty _, h => by cases h
  | .exc _ _, h => by cases h
  | .cls _, h => by cases h
  | .xty _, h => by cases h
theorem eqvL_refl : ∀ l : List D, PlnL l = true → PyData.eqvAll (pdL l) (pdL l) = true
  | [], _ => rfl
  | d :: l, h => by
    simp only [PlnL, Bool.and_eq_true] at h
    simp [pdL, PyData.eqvAll, eqv_refl d h.1, eqvL_refl l h.2]
end
theorem scal_eqv {x y : D} {b : Bool} (h : scalD x y = some b) : b = PyData.eqv (pdD x) (pdD y) := by
  cases x <;> cases y <;> simp only [scalD, Option.some.injEq, reduceCtorEq] at h <;> first | (subst h; rfl) | skip
  all_goals (subst h; simp [pdD, PyData.eqv]; done)
section
variable {M : MS} {Q : D → MS → Prop} {E : XV → MS → Prop}
theorem eq_ok {neg : Bool} {x y : D} (hx : Pln x = true) (hy : Pln y = true) (dx : dp x ≤ 25) (dy : dp y ≤ 25) (q : Q (.bl (neg ^^ PyData.eqv (pdD x) (pdD y))) M) : (eqW neg x y).run M Q E := by
  unfold eqW
  cases e : scalD x y with
  | some b =>
    rw [scal_eqv e]
    exact q
  | none =>
    obtain ⟨a1, a2⟩ := toD_pln deepD x hx dx
    obtain ⟨b1, b2⟩ := toD_pln deepD y hy dy
    simp only [r_get]
    by_cases hd : difL M x y = true
    · rw [if_pos hd]
      have hne : PyData.eqv (pdD x) (pdD y) = false := by
        cases x <;> first | (simp [difL, lstOf] at hd; done) | skip
        · cases y <;> first | (simp [difL, lstOf] at hd; done) | skip
          · rename_i l l'
            simp only [difL, lstOf, bne_iff_ne, ne_eq] at hd
            rw [Bool.eq_false_iff]
            intro h
            have := eqvAll_len (show PyData.eqvAll (pdL l) (pdL l') = true by simpa [pdD, PyData.eqv] using h)
            rw [pdL_map, pdL_map, List.length_map, List.length_map] at this
            exact hd this
          · cases hy
        · cases hx
      rw [hne] at q
      simpa using q
    · rw [if_neg hd]
      unfold eqR
      simp only [r_get, a1 M, b1 M, r_need, r_pure]
      exact ⟨⟨a2, b2⟩, q⟩
theorem eq_same {neg : Bool} {x : D} (hx : Pln x = true) (dx : dp x ≤ 25) (q : Q (.bl (!neg)) M) : (eqW neg x x).run M Q E := by
  refine eq_ok hx hx dx dx ?_
  rw [eqv_refl x hx]
  cases neg <;> exact q
end
end Mir

namespace Law
open PySem L2 Mir PyProof.Rows
def topS (i : Nat) : Stmt := PySem.Challenge.pw_websplit_k04_refusals_by_their_kinds.main.body.getD i (.Pass ⟨0, 0, 0, 0⟩)
def s__law_pen : Stmt := topS 29
def df__law_pen : DefI := ⟨["_law_script"], ["_law_script"], defBody s__law_pen, defScope s__law_pen, []⟩
theorem sc__law_pen : FnScope df__law_pen.N df__law_pen.ps df__law_pen.scope := ⟨rfl, rfl, rfl, by decide +kernel, rfl, by decide +kernel, by decide +kernel⟩
def s__law_draw : Stmt := topS 30
def df__law_draw : DefI := ⟨["_law_pen_here", "_law_many"], ["_law_pen_here", "_law_many", "_law_turn", "_law_cell", "_law_primes", "_law_prime", "_law_drawn", "_law_digit"], defBody s__law_draw, defScope s__law_draw, []⟩
theorem sc__law_draw : FnScope df__law_draw.N df__law_draw.ps df__law_draw.scope := ⟨rfl, rfl, rfl, by decide +kernel, rfl, by decide +kernel, by decide +kernel⟩
def s__law_pick : Stmt := topS 31
def df__law_pick : DefI := ⟨["_law_pen_here", "_law_some"], ["_law_pen_here", "_law_some"], defBody s__law_pick, defScope s__law_pick, []⟩
theorem sc__law_pick : FnScope df__law_pick.N df__law_pick.ps df__law_pick.scope := ⟨rfl, rfl, rfl, by decide +kernel, rfl, by decide +kernel, by decide +kernel⟩
def s__law_worth : Stmt := topS 32
def df__law_worth : DefI := ⟨["_law_pen_here"], ["_law_pen_here", "_law_far", "_law_some"], defBody s__law_worth, defScope s__law_worth, []⟩
theorem sc__law_worth : FnScope df__law_worth.N df__law_worth.ps df__law_worth.scope := ⟨rfl, rfl, rfl, by decide +kernel, rfl, by decide +kernel, by decide +kernel⟩
def s__law_classes : Stmt := topS 33
def df__law_classes : DefI := ⟨["_law_e"], ["_law_e", "_law_found"], defBody s__law_classes, defScope s__law_classes, []⟩
theorem sc__law_classes : FnScope df__law_classes.N df__law_classes.ps df__law_classes.scope := ⟨rfl, rfl, rfl, by decide +kernel, rfl, by decide +kernel, by decide +kernel⟩
def s__law_above : Stmt := topS 34
def df__law_above : DefI := ⟨["_law_e"], ["_law_e", "_law_found", "_law_one"], defBody s__law_above, defScope s__law_above, []⟩
theorem sc__law_above : FnScope df__law_above.N df__law_above.ps df__law_above.scope := ⟨rfl, rfl, rfl, by decide +kernel, rfl, by decide +kernel, by decide +kernel⟩
def s__law_made : Stmt := topS 35
def df__law_made : DefI := ⟨["_law_a", "_law_b"], ["_law_a", "_law_b", "_law_found"], defBody s__law_made, defScope s__law_made, []⟩
theorem sc__law_made : FnScope df__law_made.N df__law_made.ps df__law_made.scope := ⟨rfl, rfl, rfl, by decide +kernel, rfl, by decide +kernel, by decide +kernel⟩
def s__law_called : Stmt := topS 36
def df__law_called : DefI := ⟨["_law_a", "_law_b"], ["_law_a", "_law_b", "_law_found"], defBody s__law_called, defScope s__law_called, []⟩
theorem sc__law_called : FnScope df__law_called.N df__law_called.ps df__law_called.scope := ⟨rfl, rfl, rfl, by decide +kernel, rfl, by decide +kernel, by decide +kernel⟩
def s__law_fields : Stmt := topS 37
def df__law_fields : DefI := ⟨["_law_some"], ["_law_some", "_law_found"], defBody s__law_fields, defScope s__law_fields, []⟩
theorem sc__law_fields : FnScope df__law_fields.N df__law_fields.ps df__law_fields.scope := ⟨rfl, rfl, rfl, by decide +kernel, rfl, by decide +kernel, by decide +kernel⟩
def s_law : Stmt := topS 38
def df_law : DefI := ⟨["_law_script"], ["_law_script", "_law_pen_here", "_law_under", "_law_bout", "_law_some", "_law_k", "_law_one", "_law_a", "_law_b", "_law_j"], defBody s_law, defScope s_law, []⟩
theorem sc_law : FnScope df_law.N df_law.ps df_law.scope := ⟨rfl, rfl, rfl, by decide +kernel, rfl, by decide +kernel, by decide +kernel⟩
def s_NoText : Stmt := inClass (topS 1) 0
def xn_NoText : List Str := ["self", "row"]
def xf_NoText : Flds := [("row", 1)]
def xi_NoText : XI := ⟨.val, xn_NoText, xf_NoText, [⟨0, ["row"], [0]⟩]⟩
theorem sc_NoText : FnScope xn_NoText xn_NoText (defScope s_NoText) := ⟨rfl, rfl, rfl, by decide +kernel, rfl, by decide +kernel, by decide +kernel⟩
theorem ib_NoText : IniB xn_NoText .val (defBody s_NoText) xf_NoText := .mk (.cons rfl (.nil)) rfl
def s_NoBatch : Stmt := inClass (topS 2) 0
def xn_NoBatch : List Str := ["self", "at", "why"]
def xf_NoBatch : Flds := [("at", 1), ("why", 2)]
def xi_NoBatch : XI := ⟨.val, xn_NoBatch, xf_NoBatch, [⟨0, ["why", "at"], [1, 0]⟩]⟩
theorem sc_NoBatch : FnScope xn_NoBatch xn_NoBatch (defScope s_NoBatch) := ⟨rfl, rfl, rfl, by decide +kernel, rfl, by decide +kernel, by decide +kernel⟩
theorem ib_NoBatch : IniB xn_NoBatch .val (defBody s_NoBatch) xf_NoBatch := .mk (.cons rfl (.cons rfl (.nil))) rfl
def s_NoQuestion : Stmt := inClass (topS 3) 0
def xn_NoQuestion : List Str := ["self", "at"]
def xf_NoQuestion : Flds := [("at", 1)]
def xi_NoQuestion : XI := ⟨.val, xn_NoQuestion, xf_NoQuestion, [⟨0, ["at"], [0]⟩]⟩
theorem sc_NoQuestion : FnScope xn_NoQuestion xn_NoQuestion (defScope s_NoQuestion) := ⟨rfl, rfl, rfl, by decide +kernel, rfl, by decide +kernel, by decide +kernel⟩
theorem ib_NoQuestion : IniB xn_NoQuestion .val (defBody s_NoQuestion) xf_NoQuestion := .mk (.cons rfl (.nil)) rfl
def s_BadName : Stmt := inClass (topS 4) 0
def xn_BadName : List Str := ["self", "asked"]
def xf_BadName : Flds := [("asked", 1)]
def xi_BadName : XI := ⟨.val, xn_BadName, xf_BadName, [⟨0, ["asked"], [0]⟩]⟩
theorem sc_BadName : FnScope xn_BadName xn_BadName (defScope s_BadName) := ⟨rfl, rfl, rfl, by decide +kernel, rfl, by decide +kernel, by decide +kernel⟩
theorem ib_BadName : IniB xn_BadName .val (defBody s_BadName) xf_BadName := .mk (.cons rfl (.nil)) rfl
def s_NoRow : Stmt := inClass (topS 5) 0
def xn_NoRow : List Str := ["self", "asked"]
def xf_NoRow : Flds := [("asked", 1)]
def xi_NoRow : XI := ⟨.val, xn_NoRow, xf_NoRow, [⟨0, ["asked"], [0]⟩]⟩
theorem sc_NoRow : FnScope xn_NoRow xn_NoRow (defScope s_NoRow) := ⟨rfl, rfl, rfl, by decide +kernel, rfl, by decide +kernel, by decide +kernel⟩
theorem ib_NoRow : IniB xn_NoRow .val (defBody s_NoRow) xf_NoRow := .mk (.cons rfl (.nil)) rfl
def s_NoKnot : Stmt := inClass (topS 6) 0
def xn_NoKnot : List Str := ["self", "asked"]
def xf_NoKnot : Flds := [("asked", 1)]
def xi_NoKnot : XI := ⟨.key, xn_NoKnot, xf_NoKnot, [⟨0, ["asked"], [0]⟩]⟩
theorem sc_NoKnot : FnScope xn_NoKnot xn_NoKnot (defScope s_NoKnot) := ⟨rfl, rfl, rfl, by decide +kernel, rfl, by decide +kernel, by decide +kernel⟩
theorem ib_NoKnot : IniB xn_NoKnot .key (defBody s_NoKnot) xf_NoKnot := .mk (.cons rfl (.nil)) rfl
def s_NoTie : Stmt := inClass (topS 7) 0
def xn_NoTie : List Str := ["self", "asked"]
def xf_NoTie : Flds := [("asked", 1)]
def xi_NoTie : XI := ⟨.key, xn_NoTie, xf_NoTie, [⟨0, ["asked"], [0]⟩]⟩
theorem sc_NoTie : FnScope xn_NoTie xn_NoTie (defScope s_NoTie) := ⟨rfl, rfl, rfl, by decide +kernel, rfl, by decide +kernel, by decide +kernel⟩
theorem ib_NoTie : IniB xn_NoTie .key (defBody s_NoTie) xf_NoTie := .mk (.cons rfl (.nil)) rfl
def s_NoName : Stmt := inClass (topS 8) 0
def xn_NoName : List Str := ["self", "name"]
def xf_NoName : Flds := [("name", 1)]
def xi_NoName : XI := ⟨.key, xn_NoName, xf_NoName, [⟨0, ["name"], [0]⟩]⟩
theorem sc_NoName : FnScope xn_NoName xn_NoName (defScope s_NoName) := ⟨rfl, rfl, rfl, by decide +kernel, rfl, by decide +kernel, by decide +kernel⟩
theorem ib_NoName : IniB xn_NoName .key (defBody s_NoName) xf_NoName := .mk (.cons rfl (.nil)) rfl
def s_Known : Stmt := inClass (topS 9) 0
def xn_Known : List Str := ["self", "name"]
def xf_Known : Flds := [("name", 1)]
def xi_Known : XI := ⟨.key, xn_Known, xf_Known, [⟨0, ["name"], [0]⟩]⟩
theorem sc_Known : FnScope xn_Known xn_Known (defScope s_Known) := ⟨rfl, rfl, rfl, by decide +kernel, rfl, by decide +kernel, by decide +kernel⟩
theorem ib_Known : IniB xn_Known .key (defBody s_Known) xf_Known := .mk (.cons rfl (.nil)) rfl
def s_NoMoment : Stmt := inClass (topS 10) 0
def xn_NoMoment : List Str := ["self", "asked"]
def xf_NoMoment : Flds := [("asked", 1)]
def xi_NoMoment : XI := ⟨.index, xn_NoMoment, xf_NoMoment, [⟨0, ["asked"], [0]⟩]⟩
theorem sc_NoMoment : FnScope xn_NoMoment xn_NoMoment (defScope s_NoMoment) := ⟨rfl, rfl, rfl, by decide +kernel, rfl, by decide +kernel, by decide +kernel⟩
theorem ib_NoMoment : IniB xn_NoMoment .index (defBody s_NoMoment) xf_NoMoment := .mk (.cons rfl (.nil)) rfl
def s_NoPlace : Stmt := inClass (topS 11) 0
def xn_NoPlace : List Str := ["self", "asked"]
def xf_NoPlace : Flds := [("asked", 1)]
def xi_NoPlace : XI := ⟨.index, xn_NoPlace, xf_NoPlace, [⟨0, ["asked"], [0]⟩]⟩
theorem sc_NoPlace : FnScope xn_NoPlace xn_NoPlace (defScope s_NoPlace) := ⟨rfl, rfl, rfl, by decide +kernel, rfl, by decide +kernel, by decide +kernel⟩
theorem ib_NoPlace : IniB xn_NoPlace .index (defBody s_NoPlace) xf_NoPlace := .mk (.cons rfl (.nil)) rfl
def s_Gone : Stmt := inClass (topS 12) 0
def xn_Gone : List Str := ["self", "begin"]
def xf_Gone : Flds := [("begin", 1)]
def xi_Gone : XI := ⟨.lookup, xn_Gone, xf_Gone, [⟨0, ["begin"], [0]⟩]⟩
theorem sc_Gone : FnScope xn_Gone xn_Gone (defScope s_Gone) := ⟨rfl, rfl, rfl, by decide +kernel, rfl, by decide +kernel, by decide +kernel⟩
theorem ib_Gone : IniB xn_Gone .lookup (defBody s_Gone) xf_Gone := .mk (.cons rfl (.nil)) rfl
def s_NoTuple : Stmt := inClass (topS 13) 0
def xn_NoTuple : List Str := ["self", "asked"]
def xf_NoTuple : Flds := [("asked", 1)]
def xi_NoTuple : XI := ⟨.lookup, xn_NoTuple, xf_NoTuple, [⟨0, ["asked"], [0]⟩]⟩
theorem sc_NoTuple : FnScope xn_NoTuple xn_NoTuple (defScope s_NoTuple) := ⟨rfl, rfl, rfl, by decide +kernel, rfl, by decide +kernel, by decide +kernel⟩
theorem ib_NoTuple : IniB xn_NoTuple .lookup (defBody s_NoTuple) xf_NoTuple := .mk (.cons rfl (.nil)) rfl
def s_Fell : Stmt := inClass (topS 14) 0
def xn_Fell : List Str := ["self", "step"]
def xf_Fell : Flds := [("step", 1)]
def xi_Fell : XI := ⟨.run, xn_Fell, xf_Fell, [⟨0, ["step"], [0]⟩]⟩
theorem sc_Fell : FnScope xn_Fell xn_Fell (defScope s_Fell) := ⟨rfl, rfl, rfl, by decide +kernel, rfl, by decide +kernel, by decide +kernel⟩
theorem ib_Fell : IniB xn_Fell .run (defBody s_Fell) xf_Fell := .mk (.cons rfl (.nil)) rfl
def s_Busy : Stmt := inClass (topS 15) 0
def xn_Busy : List Str := ["self"]
def xf_Busy : Flds := []
def xi_Busy : XI := ⟨.run, xn_Busy, xf_Busy, []⟩
theorem sc_Busy : FnScope xn_Busy xn_Busy (defScope s_Busy) := ⟨rfl, rfl, rfl, by decide +kernel, rfl, by decide +kernel, by decide +kernel⟩
theorem ib_Busy : IniB xn_Busy .run (defBody s_Busy) xf_Busy := .mk (.nil) rfl
def s_Moving : Stmt := inClass (topS 16) 0
def xn_Moving : List Str := ["self", "slot"]
def xf_Moving : Flds := [("slot", 1)]
def xi_Moving : XI := ⟨.run, xn_Moving, xf_Moving, [⟨0, ["slot"], [0]⟩]⟩
theorem sc_Moving : FnScope xn_Moving xn_Moving (defScope s_Moving) := ⟨rfl, rfl, rfl, by decide +kernel, rfl, by decide +kernel, by decide +kernel⟩
theorem ib_Moving : IniB xn_Moving .run (defBody s_Moving) xf_Moving := .mk (.cons rfl (.nil)) rfl
def s_NoMove : Stmt := inClass (topS 17) 0
def xn_NoMove : List Str := ["self"]
def xf_NoMove : Flds := []
def xi_NoMove : XI := ⟨.run, xn_NoMove, xf_NoMove, []⟩
theorem sc_NoMove : FnScope xn_NoMove xn_NoMove (defScope s_NoMove) := ⟨rfl, rfl, rfl, by decide +kernel, rfl, by decide +kernel, by decide +kernel⟩
theorem ib_NoMove : IniB xn_NoMove .run (defBody s_NoMove) xf_NoMove := .mk (.nil) rfl
def s_NoPlan : Stmt := inClass (topS 18) 0
def xn_NoPlan : List Str := ["self"]
def xf_NoPlan : Flds := []
def xi_NoPlan : XI := ⟨.arith, xn_NoPlan, xf_NoPlan, []⟩
theorem sc_NoPlan : FnScope xn_NoPlan xn_NoPlan (defScope s_NoPlan) := ⟨rfl, rfl, rfl, by decide +kernel, rfl, by decide +kernel, by decide +kernel⟩
theorem ib_NoPlan : IniB xn_NoPlan .arith (defBody s_NoPlan) xf_NoPlan := .mk (.nil) rfl
def s_Home : Stmt := inClass (topS 19) 0
def xn_Home : List Str := ["self", "number"]
def xf_Home : Flds := [("number", 1)]
def xi_Home : XI := ⟨.arith, xn_Home, xf_Home, [⟨0, ["number"], [0]⟩]⟩
theorem sc_Home : FnScope xn_Home xn_Home (defScope s_Home) := ⟨rfl, rfl, rfl, by decide +kernel, rfl, by decide +kernel, by decide +kernel⟩
theorem ib_Home : IniB xn_Home .arith (defBody s_Home) xf_Home := .mk (.cons rfl (.nil)) rfl
def s_TooLong : Stmt := inClass (topS 20) 0
def xn_TooLong : List Str := ["self", "most"]
def xf_TooLong : Flds := [("most", 1)]
def xi_TooLong : XI := ⟨.over, xn_TooLong, xf_TooLong, [⟨0, ["most"], [0]⟩]⟩
theorem sc_TooLong : FnScope xn_TooLong xn_TooLong (defScope s_TooLong) := ⟨rfl, rfl, rfl, by decide +kernel, rfl, by decide +kernel, by decide +kernel⟩
theorem ib_TooLong : IniB xn_TooLong .over (defBody s_TooLong) xf_TooLong := .mk (.cons rfl (.nil)) rfl
def lvs : List (Nat × Nat) := [(109, 11), (132, 16)]
def fzs : List Nat := []
def prog : Prog := { defs := [("_law_pen", df__law_pen), ("_law_draw", df__law_draw), ("_law_pick", df__law_pick), ("_law_worth", df__law_worth), ("_law_classes", df__law_classes), ("_law_above", df__law_above), ("_law_made", df__law_made), ("_law_called", df__law_called), ("_law_fields", df__law_fields), ("law", df_law)], excs := [("NoText", xi_NoText), ("NoBatch", xi_NoBatch), ("NoQuestion", xi_NoQuestion), ("BadName", xi_BadName), ("NoRow", xi_NoRow), ("NoKnot", xi_NoKnot), ("NoTie", xi_NoTie), ("NoName", xi_NoName), ("Known", xi_Known), ("NoMoment", xi_NoMoment), ("NoPlace", xi_NoPlace), ("Gone", xi_Gone), ("NoTuple", xi_NoTuple), ("Fell", xi_Fell), ("Busy", xi_Busy), ("Moving", xi_Moving), ("NoMove", xi_NoMove), ("NoPlan", xi_NoPlan), ("Home", xi_Home), ("TooLong", xi_TooLong)], vals := [("MOST_KNOTS", .int 60), ("MOST_TIES", .int 120), ("MOST_WORTHS", .int 6), ("MOST_DEEDS", .int 20), ("SLOTS", .int 8), ("MOST_HOUSES", .int 6), ("MOST_ROUNDS", .int 100)], lv := fun p => lvs.contains (p.line, p.col), fz := fun p => fzs.contains p.line, n := 60 }
theorem run_NoText (k : Nat) (ds : List D) : runI prog (k + 1) "NoText" ds = .pure (.exc ⟨"NoText", .val⟩ (fvD ds xf_NoText [])) := run_exc (xi := xi_NoText) rfl rfl
theorem run_NoBatch (k : Nat) (ds : List D) : runI prog (k + 1) "NoBatch" ds = .pure (.exc ⟨"NoBatch", .val⟩ (fvD ds xf_NoBatch [])) := run_exc (xi := xi_NoBatch) rfl rfl
theorem run_NoQuestion (k : Nat) (ds : List D) : runI prog (k + 1) "NoQuestion" ds = .pure (.exc ⟨"NoQuestion", .val⟩ (fvD ds xf_NoQuestion [])) := run_exc (xi := xi_NoQuestion) rfl rfl
theorem run_BadName (k : Nat) (ds : List D) : runI prog (k + 1) "BadName" ds = .pure (.exc ⟨"BadName", .val⟩ (fvD ds xf_BadName [])) := run_exc (xi := xi_BadName) rfl rfl
theorem run_NoRow (k : Nat) (ds : List D) : runI prog (k + 1) "NoRow" ds = .pure (.exc ⟨"NoRow", .val⟩ (fvD ds xf_NoRow [])) := run_exc (xi := xi_NoRow) rfl rfl
theorem run_NoKnot (k : Nat) (ds : List D) : runI prog (k + 1) "NoKnot" ds = .pure (.exc ⟨"NoKnot", .key⟩ (fvD ds xf_NoKnot [])) := run_exc (xi := xi_NoKnot) rfl rfl
theorem run_NoTie (k : Nat) (ds : List D) : runI prog (k + 1) "NoTie" ds = .pure (.exc ⟨"NoTie", .key⟩ (fvD ds xf_NoTie [])) := run_exc (xi := xi_NoTie) rfl rfl
theorem run_NoName (k : Nat) (ds : List D) : runI prog (k + 1) "NoName" ds = .pure (.exc ⟨"NoName", .key⟩ (fvD ds xf_NoName [])) := run_exc (xi := xi_NoName) rfl rfl
theorem run_Known (k : Nat) (ds : List D) : runI prog (k + 1) "Known" ds = .pure (.exc ⟨"Known", .key⟩ (fvD ds xf_Known [])) := run_exc (xi := xi_Known) rfl rfl
theorem run_NoMoment (k : Nat) (ds : List D) : runI prog (k + 1) "NoMoment" ds = .pure (.exc ⟨"NoMoment", .index⟩ (fvD ds xf_NoMoment [])) := run_exc (xi := xi_NoMoment) rfl rfl
theorem run_NoPlace (k : Nat) (ds : List D) : runI prog (k + 1) "NoPlace" ds = .pure (.exc ⟨"NoPlace", .index⟩ (fvD ds xf_NoPlace [])) := run_exc (xi := xi_NoPlace) rfl rfl
theorem run_Gone (k : Nat) (ds : List D) : runI prog (k + 1) "Gone" ds = .pure (.exc ⟨"Gone", .lookup⟩ (fvD ds xf_Gone [])) := run_exc (xi := xi_Gone) rfl rfl
theorem run_NoTuple (k : Nat) (ds : List D) : runI prog (k + 1) "NoTuple" ds = .pure (.exc ⟨"NoTuple", .lookup⟩ (fvD ds xf_NoTuple [])) := run_exc (xi := xi_NoTuple) rfl rfl
theorem run_Fell (k : Nat) (ds : List D) : runI prog (k + 1) "Fell" ds = .pure (.exc ⟨"Fell", .run⟩ (fvD ds xf_Fell [])) := run_exc (xi := xi_Fell) rfl rfl
theorem run_Busy (k : Nat) (ds : List D) : runI prog (k + 1) "Busy" ds = .pure (.exc ⟨"Busy", .run⟩ (fvD ds xf_Busy [])) := run_exc (xi := xi_Busy) rfl rfl
theorem run_Moving (k : Nat) (ds : List D) : runI prog (k + 1) "Moving" ds = .pure (.exc ⟨"Moving", .run⟩ (fvD ds xf_Moving [])) := run_exc (xi := xi_Moving) rfl rfl
theorem run_NoMove (k : Nat) (ds : List D) : runI prog (k + 1) "NoMove" ds = .pure (.exc ⟨"NoMove", .run⟩ (fvD ds xf_NoMove [])) := run_exc (xi := xi_NoMove) rfl rfl
theorem run_NoPlan (k : Nat) (ds : List D) : runI prog (k + 1) "NoPlan" ds = .pure (.exc ⟨"NoPlan", .arith⟩ (fvD ds xf_NoPlan [])) := run_exc (xi := xi_NoPlan) rfl rfl
theorem run_Home (k : Nat) (ds : List D) : runI prog (k + 1) "Home" ds = .pure (.exc ⟨"Home", .arith⟩ (fvD ds xf_Home [])) := run_exc (xi := xi_Home) rfl rfl
theorem run_TooLong (k : Nat) (ds : List D) : runI prog (k + 1) "TooLong" ds = .pure (.exc ⟨"TooLong", .over⟩ (fvD ds xf_TooLong [])) := run_exc (xi := xi_TooLong) rfl rfl
def F__law_pen (call : Str → List D → W D) (ds : List D) : W D := outW
 (WS.seq (WS.bind (fun e1 => W.bind (dispW true [(fun e3 => (.pure (.str "cells")), fun e4 => (W.bind (argsW e4 [fun e5 => (W.bind (varW 0 e5) fun x6 => (W.bind (partW none e5) fun x7 => (W.bind (partW (some (fun e8 => (.pure (.int 63)))) e5) fun x9 => slW false x6 x7 x9)))]) (Bi.run false .list))), (fun e10 => (.pure (.str "turn")), fun e11 => (.pure (.int 0))), (fun e12 => (.pure (.str "rest")), fun e13 => (.pure (.int 0)))] e1) (frzW false)) fun d2 => WS.out (.rt d2))
 WS.next)
 (startE ["_law_script"] ds)
theorem eq__law_pen : bodyW prog df__law_pen = F__law_pen := by kernel_rfl
theorem run__law_pen (k : Nat) (ds : List D) : runI prog (k + 1) "_law_pen" ds = F__law_pen (runI prog k) ds := run_of rfl eq__law_pen
def F__law_draw (call : Str → List D → W D) (ds : List D) : W D := outW
 (WS.seq (WS.bind (fun e2 => (W.bind (W.bind (varW 0 e2) fun x3 => (W.bind (.pure (.str "rest")) fun x4 => idxW x3 x4)) fun x5 => (W.bind (.pure (.int 0)) fun x6 => W.bind (cmpW .Gt x5 x6) blW))) fun t1 => if t1 then
   (WS.seq (WS.bind (fun e9 => (W.bind (W.bind (varW 0 e9) fun x10 => (W.bind (.pure (.str "rest")) fun x11 => idxW x10 x11)) fun x12 => (W.bind (varW 1 e9) fun x13 => modW x12 x13))) fun d7 => WS.store fun e8 => (fun d14 e15 => .pure (e15.set 7 (some d14))) d7 e8)
   (WS.seq (WS.bind (fun e18 => (W.bind (W.bind (varW 0 e18) fun x19 => (W.bind (.pure (.str "rest")) fun x20 => idxW x19 x20)) fun x21 => (W.bind (varW 1 e18) fun x22 => fdivW x21 x22))) fun d16 => WS.store fun e17 => (fun d23 e24 => (W.bind (varW 0 e24) fun x25 => (W.bind (.pure (.str "rest")) fun x26 => W.bind (setW x25 x26 d23) fun _ => .pure e24))) d16 e17)
   (WS.seq (WS.bind (fun e27 => W.bind (varW 7 e27) (frzW false)) fun d28 => WS.out (.rt d28))
   WS.next)))
   else WS.next)
 (WS.seq (WS.bind (fun e31 => (W.bind (varW 0 e31) fun x32 => (W.bind (.pure (.str "turn")) fun x33 => idxW x32 x33))) fun d29 => WS.store fun e30 => (fun d34 e35 => .pure (e35.set 2 (some d34))) d29 e30)
 (WS.seq (WS.bind (fun e38 => (W.bind (varW 2 e38) fun x39 => (W.bind (.pure (.int 1)) fun x40 => addW false x39 x40))) fun d36 => WS.store fun e37 => (fun d41 e42 => (W.bind (varW 0 e42) fun x43 => (W.bind (.pure (.str "turn")) fun x44 => W.bind (setW x43 x44 d41) fun _ => .pure e42))) d36 e37)
 (WS.seq (WS.bind (fun e47 => (W.bind (W.bind (.pure (.int 31)) fun x48 => (W.bind (varW 2 e47) fun x49 => mulW false x48 x49)) fun x50 => (W.bind (.pure (.int 5)) fun x51 => addW false x50 x51))) fun d45 => WS.store fun e46 => (fun d52 e53 => .pure (e53.set 3 (some d52))) d45 e46)
 (WS.seq (WS.bind (fun e55 => (W.bind (W.bind (varW 0 e55) fun x56 => (W.bind (.pure (.str "cells")) fun x57 => idxW x56 x57)) fun x58 => (W.bind (W.bind (argsW e55 []) (mkL false)) fun x59 => W.bind (eqW true x58 x59) blW))) fun t54 => if t54 then
   (WS.seq (WS.bind (fun e62 => (W.bind (W.bind (varW 0 e62) fun x63 => (W.bind (.pure (.str "cells")) fun x64 => idxW x63 x64)) fun x65 => (W.bind (W.bind (varW 2 e62) fun x66 => (W.bind (W.bind (argsW e62 [fun e67 => (W.bind (varW 0 e67) fun x68 => (W.bind (.pure (.str "cells")) fun x69 => idxW x68 x69))]) (Bi.run false .len)) fun x70 => modW x66 x70)) fun x71 => idxW x65 x71))) fun d60 => WS.store fun e61 => (fun d72 e73 => .pure (e73.set 3 (some d72))) d60 e61)
   WS.next)
   else WS.next)
 (WS.seq (WS.bind (fun e75 => (boolT .And e75 [fun e76 => (W.bind (varW 2 e76) fun x77 => (W.bind (W.bind (argsW e76 [fun e78 => (W.bind (varW 0 e78) fun x79 => (W.bind (.pure (.str "cells")) fun x80 => idxW x79 x80))]) (Bi.run false .len)) fun x81 => W.bind (cmpW .Lt x77 x81) blW)), fun e82 => (W.bind (W.bind (argsW e82 [fun e83 => (varW 3 e83)]) (Bi.run false .abs)) fun x84 => (W.bind (W.bind (.pure (.int 10)) fun x85 => (W.bind (.pure (.int 18)) fun x86 => powW x85 x86)) fun x87 => W.bind (cmpW .GtE x84 x87) blW))])) fun t74 => if t74 then
   (WS.seq (WS.bind (fun e90 => (W.bind (W.bind (W.bind (argsW e90 [fun e91 => (varW 3 e91)]) (Bi.run false .abs)) fun x92 => (W.bind (W.bind (.pure (.int 10)) fun x93 => (W.bind (.pure (.int 18)) fun x94 => powW x93 x94)) fun x95 => subW x92 x95)) fun x96 => (W.bind (varW 1 e90) fun x97 => fdivW x96 x97))) fun d88 => WS.store fun e89 => (fun d98 e99 => (W.bind (varW 0 e99) fun x100 => (W.bind (.pure (.str "rest")) fun x101 => W.bind (setW x100 x101 d98) fun _ => .pure e99))) d88 e89)
   (WS.seq (WS.bind (fun e102 => W.bind (W.bind (W.bind (W.bind (argsW e102 [fun e104 => (varW 3 e104)]) (Bi.run false .abs)) fun x105 => (W.bind (W.bind (.pure (.int 10)) fun x106 => (W.bind (.pure (.int 18)) fun x107 => powW x106 x107)) fun x108 => subW x105 x108)) fun x109 => (W.bind (varW 1 e102) fun x110 => modW x109 x110)) (frzW false)) fun d103 => WS.out (.rt d103))
   WS.next))
   else WS.next)
 (WS.seq (WS.bind (fun e113 => (W.bind (argsW e113 [fun e114 => (.pure (.int 2147483647)), fun e115 => (.pure (.int 2147483629)), fun e116 => (.pure (.int 2147483587)), fun e117 => (.pure (.int 2147483579)), fun e118 => (.pure (.int 2147483563))]) (mkL false))) fun d111 => WS.store fun e112 => (fun d119 e120 => .pure (e120.set 4 (some d119))) d111 e112)
 (WS.seq (WS.bind (fun e123 => (W.bind (varW 4 e123) fun x124 => (W.bind (W.bind (varW 2 e123) fun x125 => (W.bind (.pure (.int 5)) fun x126 => modW x125 x126)) fun x127 => idxW x124 x127))) fun d121 => WS.store fun e122 => (fun d128 e129 => .pure (e129.set 5 (some d128))) d121 e122)
 (WS.seq (WS.bind (fun e132 => (W.bind (W.bind (W.bind (W.bind (W.bind (varW 3 e132) fun x133 => (W.bind (varW 5 e132) fun x134 => modW x133 x134)) fun x135 => (W.bind (.pure (.int 69621)) fun x136 => mulW false x135 x136)) fun x137 => (W.bind (W.bind (W.bind (.pure (.int 40692)) fun x138 => (W.bind (varW 2 e132) fun x139 => mulW false x138 x139)) fun x140 => (W.bind (varW 2 e132) fun x141 => mulW false x140 x141)) fun x142 => addW false x137 x142)) fun x143 => (W.bind (.pure (.int 11)) fun x144 => addW false x143 x144)) fun x145 => (W.bind (varW 5 e132) fun x146 => modW x145 x146))) fun d130 => WS.store fun e131 => (fun d147 e148 => .pure (e148.set 6 (some d147))) d130 e131)
 (WS.seq (WS.bind (fun e151 => (W.bind (W.bind (varW 6 e151) fun x152 => (W.bind (W.bind (varW 6 e151) fun x153 => (W.bind (.pure (.int 48271)) fun x154 => addW false x153 x154)) fun x155 => mulW false x152 x155)) fun x156 => (W.bind (W.bind (varW 4 e151) fun x157 => (W.bind (W.bind (W.bind (varW 2 e151) fun x158 => (W.bind (.pure (.int 3)) fun x159 => addW false x158 x159)) fun x160 => (W.bind (.pure (.int 5)) fun x161 => modW x160 x161)) fun x162 => idxW x157 x162)) fun x163 => modW x156 x163))) fun d149 => WS.store fun e150 => (fun d164 e165 => .pure (e165.set 6 (some d164))) d149 e150)
 (WS.seq (WS.bind (fun e166 => W.bind (W.bind (W.bind (W.bind (W.bind (varW 6 e166) fun x168 => (W.bind (varW 6 e166) fun x169 => mulW false x168 x169)) fun x170 => (W.bind (.pure (.int 2147483549)) fun x171 => modW x170 x171)) fun x172 => (W.bind (.pure (.int 64)) fun x173 => fdivW x172 x173)) fun x174 => (W.bind (varW 1 e166) fun x175 => modW x174 x175)) (frzW false)) fun d167 => WS.out (.rt d167))
 WS.next)))))))))))
 (startE ["_law_pen_here", "_law_many", "_law_turn", "_law_cell", "_law_primes", "_law_prime", "_law_drawn", "_law_digit"] ds)
theorem eq__law_draw : bodyW prog df__law_draw = F__law_draw := by kernel_rfl
theorem run__law_draw (k : Nat) (ds : List D) : runI prog (k + 1) "_law_draw" ds = F__law_draw (runI prog k) ds := run_of rfl eq__law_draw
def F__law_pick (call : Str → List D → W D) (ds : List D) : W D := outW
 (WS.seq (WS.bind (fun e1 => W.bind (W.bind (varW 1 e1) fun x3 => (W.bind (W.bind (argsW e1 [fun e4 => (varW 0 e4), fun e5 => (W.bind (argsW e5 [fun e6 => (varW 1 e6)]) (Bi.run false .len))]) fun x7 => if x7.length = 2 then call "_law_draw" x7 else .fail) fun x8 => idxW x3 x8)) (frzW false)) fun d2 => WS.out (.rt d2))
 WS.next)
 (startE ["_law_pen_here", "_law_some"] ds)
theorem eq__law_pick : bodyW prog df__law_pick = F__law_pick := by kernel_rfl
theorem run__law_pick (k : Nat) (ds : List D) : runI prog (k + 1) "_law_pick" ds = F__law_pick (runI prog k) ds := run_of rfl eq__law_pick
def F__law_worth (call : Str → List D → W D) (ds : List D) : W D := outW
 (WS.seq (WS.bind (fun e3 => (W.bind (W.bind (.pure (.int 999999998)) fun x4 => (W.bind (W.bind (argsW e3 [fun e5 => (varW 0 e5), fun e6 => (.pure (.int 2))]) fun x7 => if x7.length = 2 then call "_law_draw" x7 else .fail) fun x8 => addW false x4 x8)) fun x9 => (W.bind (W.bind (.pure (.int 1)) fun x10 => (W.bind (W.bind (.pure (.int 2)) fun x11 => (W.bind (W.bind (argsW e3 [fun e12 => (varW 0 e12), fun e13 => (.pure (.int 2))]) fun x14 => if x14.length = 2 then call "_law_draw" x14 else .fail) fun x15 => mulW false x11 x15)) fun x16 => subW x10 x16)) fun x17 => mulW false x9 x17))) fun d1 => WS.store fun e2 => (fun d18 e19 => .pure (e19.set 1 (some d18))) d1 e2)
 (WS.seq (WS.bind (fun e22 => (W.bind (argsW e22 [fun e23 => (W.bind (argsW e23 [fun e24 => (varW 0 e24), fun e25 => (.pure (.int 3))]) fun x26 => if x26.length = 2 then call "_law_draw" x26 else .fail), fun e27 => (W.bind (argsW e27 [fun e28 => (varW 0 e28), fun e29 => (.pure (.int 12))]) fun x30 => if x30.length = 2 then call "_law_draw" x30 else .fail), fun e31 => (W.bind (.pure (.int 0)) fun x32 => (W.bind (W.bind (argsW e31 [fun e33 => (varW 0 e33), fun e34 => (.pure (.int 12))]) fun x35 => if x35.length = 2 then call "_law_draw" x35 else .fail) fun x36 => subW x32 x36)), fun e37 => (W.bind (argsW e37 [fun e38 => (varW 0 e38), fun e39 => (W.bind (argsW e39 [fun e40 => (.pure (.int 9)), fun e41 => (.pure (.int 10)), fun e42 => (.pure (.int 99)), fun e43 => (.pure (.int 100))]) (mkL false))]) fun x44 => if x44.length = 2 then call "_law_pick" x44 else .fail), fun e45 => (varW 1 e45)]) (mkL true))) fun d20 => WS.store fun e21 => (fun d46 e47 => .pure (e47.set 2 (some d46))) d20 e21)
 (WS.seq (WS.bind (fun e48 => (W.bind (varW 2 e48) fun x49 => recvW .append x49 fun T50 => (W.bind (argsW e48 [fun e51 => (W.bind (argsW e51 [fun e52 => (varW 0 e52), fun e53 => (W.bind (argsW e53 [fun e54 => (.pure (.str "a")), fun e55 => (.pure (.str "b")), fun e56 => (.pure (.str "ab")), fun e57 => (.pure (.str "ba")), fun e58 => (.pure (.str "zzzzzzzzzzzz")), fun e59 => (.pure (.str "no")), fun e60 => (.pure (.str "any")), fun e61 => (.pure (.str "knot")), fun e62 => (.pure (.str "tie"))]) (mkL false))]) fun x63 => if x63.length = 2 then call "_law_pick" x63 else .fail)]) fun x64 => methW .append T50 x49 x64))) fun _ => WS.next)
 (WS.seq (WS.bind (fun e65 => W.bind (W.bind (varW 2 e65) fun x67 => (W.bind (W.bind (W.bind (argsW e65 [fun e68 => (.pure (.int 0)), fun e69 => (.pure (.int 0)), fun e70 => (.pure (.int 1)), fun e71 => (.pure (.int 1)), fun e72 => (.pure (.int 2)), fun e73 => (.pure (.int 3)), fun e74 => (.pure (.int 4)), fun e75 => (.pure (.int 5)), fun e76 => (.pure (.int 5)), fun e77 => (.pure (.int 5))]) (mkL false)) fun x78 => (W.bind (W.bind (argsW e65 [fun e79 => (varW 0 e79), fun e80 => (.pure (.int 10))]) fun x81 => if x81.length = 2 then call "_law_draw" x81 else .fail) fun x82 => idxW x78 x82)) fun x83 => idxW x67 x83)) (frzW false)) fun d66 => WS.out (.rt d66))
 WS.next))))
 (startE ["_law_pen_here", "_law_far", "_law_some"] ds)
theorem eq__law_worth : bodyW prog df__law_worth = F__law_worth := by kernel_rfl
theorem run__law_worth (k : Nat) (ds : List D) : runI prog (k + 1) "_law_worth" ds = F__law_worth (runI prog k) ds := run_of rfl eq__law_worth
def F__law_classes (call : Str → List D → W D) (ds : List D) : W D := outW
 (WS.seq (WS.bind (fun e3 => (W.bind (argsW e3 [fun e4 => (W.bind (argsW e4 [fun e5 => (varW 0 e5), fun e6 => (.pure (.cls ⟨"NoText", .val⟩))]) (Bi.run false .isinstance)), fun e7 => (W.bind (argsW e7 [fun e8 => (varW 0 e8), fun e9 => (.pure (.cls ⟨"NoBatch", .val⟩))]) (Bi.run false .isinstance)), fun e10 => (W.bind (argsW e10 [fun e11 => (varW 0 e11), fun e12 => (.pure (.cls ⟨"NoQuestion", .val⟩))]) (Bi.run false .isinstance)), fun e13 => (W.bind (argsW e13 [fun e14 => (varW 0 e14), fun e15 => (.pure (.cls ⟨"BadName", .val⟩))]) (Bi.run false .isinstance))]) (mkL false))) fun d1 => WS.store fun e2 => (fun d16 e17 => .pure (e17.set 1 (some d16))) d1 e2)
 (WS.seq (WS.bind (fun e20 => (W.bind (varW 1 e20) fun x21 => (W.bind (W.bind (argsW e20 [fun e22 => (W.bind (argsW e22 [fun e23 => (varW 0 e23), fun e24 => (.pure (.cls ⟨"NoRow", .val⟩))]) (Bi.run false .isinstance)), fun e25 => (W.bind (argsW e25 [fun e26 => (varW 0 e26), fun e27 => (.pure (.cls ⟨"NoKnot", .key⟩))]) (Bi.run false .isinstance)), fun e28 => (W.bind (argsW e28 [fun e29 => (varW 0 e29), fun e30 => (.pure (.cls ⟨"NoTie", .key⟩))]) (Bi.run false .isinstance)), fun e31 => (W.bind (argsW e31 [fun e32 => (varW 0 e32), fun e33 => (.pure (.cls ⟨"NoName", .key⟩))]) (Bi.run false .isinstance))]) (mkL false)) fun x34 => addW false x21 x34))) fun d18 => WS.store fun e19 => (fun d35 e36 => .pure (e36.set 1 (some d35))) d18 e19)
 (WS.seq (WS.bind (fun e39 => (W.bind (varW 1 e39) fun x40 => (W.bind (W.bind (argsW e39 [fun e41 => (W.bind (argsW e41 [fun e42 => (varW 0 e42), fun e43 => (.pure (.cls ⟨"Known", .key⟩))]) (Bi.run false .isinstance)), fun e44 => (W.bind (argsW e44 [fun e45 => (varW 0 e45), fun e46 => (.pure (.cls ⟨"NoMoment", .index⟩))]) (Bi.run false .isinstance)), fun e47 => (W.bind (argsW e47 [fun e48 => (varW 0 e48), fun e49 => (.pure (.cls ⟨"NoPlace", .index⟩))]) (Bi.run false .isinstance)), fun e50 => (W.bind (argsW e50 [fun e51 => (varW 0 e51), fun e52 => (.pure (.cls ⟨"Gone", .lookup⟩))]) (Bi.run false .isinstance))]) (mkL false)) fun x53 => addW false x40 x53))) fun d37 => WS.store fun e38 => (fun d54 e55 => .pure (e55.set 1 (some d54))) d37 e38)
 (WS.seq (WS.bind (fun e58 => (W.bind (varW 1 e58) fun x59 => (W.bind (W.bind (argsW e58 [fun e60 => (W.bind (argsW e60 [fun e61 => (varW 0 e61), fun e62 => (.pure (.cls ⟨"NoTuple", .lookup⟩))]) (Bi.run false .isinstance)), fun e63 => (W.bind (argsW e63 [fun e64 => (varW 0 e64), fun e65 => (.pure (.cls ⟨"Fell", .run⟩))]) (Bi.run false .isinstance)), fun e66 => (W.bind (argsW e66 [fun e67 => (varW 0 e67), fun e68 => (.pure (.cls ⟨"Busy", .run⟩))]) (Bi.run false .isinstance)), fun e69 => (W.bind (argsW e69 [fun e70 => (varW 0 e70), fun e71 => (.pure (.cls ⟨"Moving", .run⟩))]) (Bi.run false .isinstance))]) (mkL false)) fun x72 => addW false x59 x72))) fun d56 => WS.store fun e57 => (fun d73 e74 => .pure (e74.set 1 (some d73))) d56 e57)
 (WS.seq (WS.bind (fun e75 => W.bind (W.bind (varW 1 e75) fun x77 => (W.bind (W.bind (argsW e75 [fun e78 => (W.bind (argsW e78 [fun e79 => (varW 0 e79), fun e80 => (.pure (.cls ⟨"NoMove", .run⟩))]) (Bi.run false .isinstance)), fun e81 => (W.bind (argsW e81 [fun e82 => (varW 0 e82), fun e83 => (.pure (.cls ⟨"NoPlan", .arith⟩))]) (Bi.run false .isinstance)), fun e84 => (W.bind (argsW e84 [fun e85 => (varW 0 e85), fun e86 => (.pure (.cls ⟨"Home", .arith⟩))]) (Bi.run false .isinstance)), fun e87 => (W.bind (argsW e87 [fun e88 => (varW 0 e88), fun e89 => (.pure (.cls ⟨"TooLong", .over⟩))]) (Bi.run false .isinstance))]) (mkL false)) fun x90 => addW false x77 x90)) (frzW false)) fun d76 => WS.out (.rt d76))
 WS.next)))))
 (startE ["_law_e", "_law_found"] ds)
theorem eq__law_classes : bodyW prog df__law_classes = F__law_classes := by kernel_rfl
theorem run__law_classes (k : Nat) (ds : List D) : runI prog (k + 1) "_law_classes" ds = F__law_classes (runI prog k) ds := run_of rfl eq__law_classes
def F__law_above (call : Str → List D → W D) (ds : List D) : W D := outW
 (WS.seq (WS.bind (fun e3 => (W.bind (argsW e3 [fun e4 => (W.bind (argsW e4 [fun e5 => (varW 0 e5), fun e6 => (.pure (.xty .val))]) (Bi.run false .isinstance)), fun e7 => (W.bind (argsW e7 [fun e8 => (varW 0 e8), fun e9 => (.pure (.xty .lookup))]) (Bi.run false .isinstance)), fun e10 => (W.bind (argsW e10 [fun e11 => (varW 0 e11), fun e12 => (.pure (.xty .key))]) (Bi.run false .isinstance)), fun e13 => (W.bind (argsW e13 [fun e14 => (varW 0 e14), fun e15 => (.pure (.xty .index))]) (Bi.run false .isinstance))]) (mkL false))) fun d1 => WS.store fun e2 => (fun d16 e17 => .pure (e17.set 1 (some d16))) d1 e2)
 (WS.seq (WS.bind (fun e20 => (W.bind (varW 1 e20) fun x21 => (W.bind (W.bind (argsW e20 [fun e22 => (W.bind (argsW e22 [fun e23 => (varW 0 e23), fun e24 => (.pure (.xty .arith))]) (Bi.run false .isinstance)), fun e25 => (W.bind (argsW e25 [fun e26 => (varW 0 e26), fun e27 => (.pure (.xty .over))]) (Bi.run false .isinstance)), fun e28 => (W.bind (argsW e28 [fun e29 => (varW 0 e29), fun e30 => (.pure (.xty .run))]) (Bi.run false .isinstance))]) (mkL false)) fun x31 => addW false x21 x31))) fun d18 => WS.store fun e19 => (fun d32 e33 => .pure (e33.set 1 (some d32))) d18 e19)
 (WS.seq (WS.bind (fun e34 => W.bind (W.bind (.pure (.str "")) fun x36 => recvW .join x36 fun T37 => (W.bind (argsW e34 [fun e38 => (W.bind (W.bind (varW 1 e38) srcW) fun b39 => compW false b39 (bodyC (fun d40 e41 => .pure (e41.set 2 (some d40))) (fun _ => .pure true) (fun e42 => (W.bind (argsW e42 [fun e43 => (W.bind (argsW e43 [fun e44 => (varW 2 e44)]) (Bi.run false .int))]) (Bi.run false .str))) (wipeE e38 [2])))]) fun x45 => methW .join T37 x36 x45)) (frzW false)) fun d35 => WS.out (.rt d35))
 WS.next)))
 (startE ["_law_e", "_law_found", "_law_one"] ds)
theorem eq__law_above : bodyW prog df__law_above = F__law_above := by kernel_rfl
theorem run__law_above (k : Nat) (ds : List D) : runI prog (k + 1) "_law_above" ds = F__law_above (runI prog k) ds := run_of rfl eq__law_above
def F__law_made (call : Str → List D → W D) (ds : List D) : W D := outW
 (WS.seq (WS.bind (fun e3 => (W.bind (argsW e3 [fun e4 => (W.bind (argsW e4 [fun e5 => (varW 0 e5)]) fun x6 => if x6.length + 1 = 2 then call "NoText" x6 else .fail), fun e7 => (W.bind (argsW e7 [fun e8 => (varW 0 e8), fun e9 => (varW 1 e9)]) fun x10 => if x10.length + 1 = 3 then call "NoBatch" x10 else .fail), fun e11 => (W.bind (argsW e11 [fun e12 => (varW 0 e12)]) fun x13 => if x13.length + 1 = 2 then call "NoQuestion" x13 else .fail), fun e14 => (W.bind (argsW e14 [fun e15 => (varW 0 e15)]) fun x16 => if x16.length + 1 = 2 then call "BadName" x16 else .fail), fun e17 => (W.bind (argsW e17 [fun e18 => (varW 0 e18)]) fun x19 => if x19.length + 1 = 2 then call "NoRow" x19 else .fail), fun e20 => (W.bind (argsW e20 [fun e21 => (varW 0 e21)]) fun x22 => if x22.length + 1 = 2 then call "NoKnot" x22 else .fail), fun e23 => (W.bind (argsW e23 [fun e24 => (varW 0 e24)]) fun x25 => if x25.length + 1 = 2 then call "NoTie" x25 else .fail), fun e26 => (W.bind (argsW e26 [fun e27 => (varW 0 e27)]) fun x28 => if x28.length + 1 = 2 then call "NoName" x28 else .fail), fun e29 => (W.bind (argsW e29 [fun e30 => (varW 0 e30)]) fun x31 => if x31.length + 1 = 2 then call "Known" x31 else .fail)]) (mkL false))) fun d1 => WS.store fun e2 => (fun d32 e33 => .pure (e33.set 2 (some d32))) d1 e2)
 (WS.seq (WS.bind (fun e36 => (W.bind (varW 2 e36) fun x37 => (W.bind (W.bind (argsW e36 [fun e38 => (W.bind (argsW e38 [fun e39 => (varW 0 e39)]) fun x40 => if x40.length + 1 = 2 then call "NoMoment" x40 else .fail), fun e41 => (W.bind (argsW e41 [fun e42 => (varW 0 e42)]) fun x43 => if x43.length + 1 = 2 then call "NoPlace" x43 else .fail), fun e44 => (W.bind (argsW e44 [fun e45 => (varW 0 e45)]) fun x46 => if x46.length + 1 = 2 then call "Gone" x46 else .fail), fun e47 => (W.bind (argsW e47 [fun e48 => (varW 0 e48)]) fun x49 => if x49.length + 1 = 2 then call "NoTuple" x49 else .fail), fun e50 => (W.bind (argsW e50 [fun e51 => (varW 0 e51)]) fun x52 => if x52.length + 1 = 2 then call "Fell" x52 else .fail), fun e53 => (call "Busy" []), fun e54 => (W.bind (argsW e54 [fun e55 => (varW 0 e55)]) fun x56 => if x56.length + 1 = 2 then call "Moving" x56 else .fail), fun e57 => (call "NoMove" []), fun e58 => (call "NoPlan" [])]) (mkL false)) fun x59 => addW false x37 x59))) fun d34 => WS.store fun e35 => (fun d60 e61 => .pure (e61.set 2 (some d60))) d34 e35)
 (WS.seq (WS.bind (fun e62 => W.bind (W.bind (varW 2 e62) fun x64 => (W.bind (W.bind (argsW e62 [fun e65 => (W.bind (argsW e65 [fun e66 => (varW 0 e66)]) fun x67 => if x67.length + 1 = 2 then call "Home" x67 else .fail), fun e68 => (W.bind (argsW e68 [fun e69 => (varW 0 e69)]) fun x70 => if x70.length + 1 = 2 then call "TooLong" x70 else .fail)]) (mkL false)) fun x71 => addW false x64 x71)) (frzW false)) fun d63 => WS.out (.rt d63))
 WS.next)))
 (startE ["_law_a", "_law_b", "_law_found"] ds)
theorem eq__law_made : bodyW prog df__law_made = F__law_made := by kernel_rfl
theorem run__law_made (k : Nat) (ds : List D) : runI prog (k + 1) "_law_made" ds = F__law_made (runI prog k) ds := run_of rfl eq__law_made
def F__law_called (call : Str → List D → W D) (ds : List D) : W D := outW
 (WS.seq (WS.bind (fun e3 => (W.bind (argsW e3 [fun e4 => (kwW ⟨0, ["row"], [0]⟩ 1 (call "NoText") (fun e5 => (argsW e5 [])) (fun e6 => (argsW e6 [fun e7 => (varW 0 e7)])) e4), fun e8 => (kwW ⟨0, ["why", "at"], [1, 0]⟩ 2 (call "NoBatch") (fun e9 => (argsW e9 [])) (fun e10 => (argsW e10 [fun e11 => (varW 1 e11), fun e12 => (varW 0 e12)])) e8), fun e13 => (kwW ⟨0, ["at"], [0]⟩ 1 (call "NoQuestion") (fun e14 => (argsW e14 [])) (fun e15 => (argsW e15 [fun e16 => (varW 0 e16)])) e13), fun e17 => (kwW ⟨0, ["asked"], [0]⟩ 1 (call "BadName") (fun e18 => (argsW e18 [])) (fun e19 => (argsW e19 [fun e20 => (varW 0 e20)])) e17), fun e21 => (kwW ⟨0, ["asked"], [0]⟩ 1 (call "NoRow") (fun e22 => (argsW e22 [])) (fun e23 => (argsW e23 [fun e24 => (varW 0 e24)])) e21), fun e25 => (kwW ⟨0, ["asked"], [0]⟩ 1 (call "NoKnot") (fun e26 => (argsW e26 [])) (fun e27 => (argsW e27 [fun e28 => (varW 0 e28)])) e25)]) (mkL false))) fun d1 => WS.store fun e2 => (fun d29 e30 => .pure (e30.set 2 (some d29))) d1 e2)
 (WS.seq (WS.bind (fun e33 => (W.bind (varW 2 e33) fun x34 => (W.bind (W.bind (argsW e33 [fun e35 => (kwW ⟨0, ["asked"], [0]⟩ 1 (call "NoTie") (fun e36 => (argsW e36 [])) (fun e37 => (argsW e37 [fun e38 => (varW 0 e38)])) e35), fun e39 => (kwW ⟨0, ["name"], [0]⟩ 1 (call "NoName") (fun e40 => (argsW e40 [])) (fun e41 => (argsW e41 [fun e42 => (varW 0 e42)])) e39), fun e43 => (kwW ⟨0, ["name"], [0]⟩ 1 (call "Known") (fun e44 => (argsW e44 [])) (fun e45 => (argsW e45 [fun e46 => (varW 0 e46)])) e43), fun e47 => (kwW ⟨0, ["asked"], [0]⟩ 1 (call "NoMoment") (fun e48 => (argsW e48 [])) (fun e49 => (argsW e49 [fun e50 => (varW 0 e50)])) e47), fun e51 => (kwW ⟨0, ["asked"], [0]⟩ 1 (call "NoPlace") (fun e52 => (argsW e52 [])) (fun e53 => (argsW e53 [fun e54 => (varW 0 e54)])) e51)]) (mkL false)) fun x55 => addW false x34 x55))) fun d31 => WS.store fun e32 => (fun d56 e57 => .pure (e57.set 2 (some d56))) d31 e32)
 (WS.seq (WS.bind (fun e58 => W.bind (W.bind (varW 2 e58) fun x60 => (W.bind (W.bind (argsW e58 [fun e61 => (kwW ⟨0, ["begin"], [0]⟩ 1 (call "Gone") (fun e62 => (argsW e62 [])) (fun e63 => (argsW e63 [fun e64 => (varW 0 e64)])) e61), fun e65 => (kwW ⟨0, ["asked"], [0]⟩ 1 (call "NoTuple") (fun e66 => (argsW e66 [])) (fun e67 => (argsW e67 [fun e68 => (varW 0 e68)])) e65), fun e69 => (kwW ⟨0, ["step"], [0]⟩ 1 (call "Fell") (fun e70 => (argsW e70 [])) (fun e71 => (argsW e71 [fun e72 => (varW 0 e72)])) e69), fun e73 => (kwW ⟨0, ["slot"], [0]⟩ 1 (call "Moving") (fun e74 => (argsW e74 [])) (fun e75 => (argsW e75 [fun e76 => (varW 0 e76)])) e73), fun e77 => (kwW ⟨0, ["number"], [0]⟩ 1 (call "Home") (fun e78 => (argsW e78 [])) (fun e79 => (argsW e79 [fun e80 => (varW 0 e80)])) e77), fun e81 => (kwW ⟨0, ["most"], [0]⟩ 1 (call "TooLong") (fun e82 => (argsW e82 [])) (fun e83 => (argsW e83 [fun e84 => (varW 0 e84)])) e81)]) (mkL false)) fun x85 => addW false x60 x85)) (frzW false)) fun d59 => WS.out (.rt d59))
 WS.next)))
 (startE ["_law_a", "_law_b", "_law_found"] ds)
theorem eq__law_called : bodyW prog df__law_called = F__law_called := by kernel_rfl
theorem run__law_called (k : Nat) (ds : List D) : runI prog (k + 1) "_law_called" ds = F__law_called (runI prog k) ds := run_of rfl eq__law_called
def F__law_fields (call : Str → List D → W D) (ds : List D) : W D := outW
 (WS.seq (WS.bind (fun e3 => (W.bind (argsW e3 [fun e4 => (W.bind (W.bind (varW 0 e4) fun x5 => (W.bind (.pure (.int 0)) fun x6 => idxW x5 x6)) (attrW "row")), fun e7 => (W.bind (W.bind (varW 0 e7) fun x8 => (W.bind (.pure (.int 1)) fun x9 => idxW x8 x9)) (attrW "at")), fun e10 => (W.bind (W.bind (varW 0 e10) fun x11 => (W.bind (.pure (.int 1)) fun x12 => idxW x11 x12)) (attrW "why")), fun e13 => (W.bind (W.bind (varW 0 e13) fun x14 => (W.bind (.pure (.int 2)) fun x15 => idxW x14 x15)) (attrW "at")), fun e16 => (W.bind (W.bind (varW 0 e16) fun x17 => (W.bind (.pure (.int 3)) fun x18 => idxW x17 x18)) (attrW "asked")), fun e19 => (W.bind (W.bind (varW 0 e19) fun x20 => (W.bind (.pure (.int 4)) fun x21 => idxW x20 x21)) (attrW "asked")), fun e22 => (W.bind (W.bind (varW 0 e22) fun x23 => (W.bind (.pure (.int 5)) fun x24 => idxW x23 x24)) (attrW "asked"))]) (mkL false))) fun d1 => WS.store fun e2 => (fun d25 e26 => .pure (e26.set 1 (some d25))) d1 e2)
 (WS.seq (WS.bind (fun e29 => (W.bind (varW 1 e29) fun x30 => (W.bind (W.bind (argsW e29 [fun e31 => (W.bind (W.bind (varW 0 e31) fun x32 => (W.bind (.pure (.int 6)) fun x33 => idxW x32 x33)) (attrW "asked")), fun e34 => (W.bind (W.bind (varW 0 e34) fun x35 => (W.bind (.pure (.int 7)) fun x36 => idxW x35 x36)) (attrW "name")), fun e37 => (W.bind (W.bind (varW 0 e37) fun x38 => (W.bind (.pure (.int 8)) fun x39 => idxW x38 x39)) (attrW "name")), fun e40 => (W.bind (W.bind (varW 0 e40) fun x41 => (W.bind (.pure (.int 9)) fun x42 => idxW x41 x42)) (attrW "asked")), fun e43 => (W.bind (W.bind (varW 0 e43) fun x44 => (W.bind (.pure (.int 10)) fun x45 => idxW x44 x45)) (attrW "asked")), fun e46 => (W.bind (W.bind (varW 0 e46) fun x47 => (W.bind (.pure (.int 11)) fun x48 => idxW x47 x48)) (attrW "begin"))]) (mkL false)) fun x49 => addW false x30 x49))) fun d27 => WS.store fun e28 => (fun d50 e51 => .pure (e51.set 1 (some d50))) d27 e28)
 (WS.seq (WS.bind (fun e52 => W.bind (W.bind (varW 1 e52) fun x54 => (W.bind (W.bind (argsW e52 [fun e55 => (W.bind (W.bind (varW 0 e55) fun x56 => (W.bind (.pure (.int 12)) fun x57 => idxW x56 x57)) (attrW "asked")), fun e58 => (W.bind (W.bind (varW 0 e58) fun x59 => (W.bind (.pure (.int 13)) fun x60 => idxW x59 x60)) (attrW "step")), fun e61 => (W.bind (W.bind (varW 0 e61) fun x62 => (W.bind (.pure (.int 14)) fun x63 => idxW x62 x63)) (attrW "slot")), fun e64 => (W.bind (W.bind (varW 0 e64) fun x65 => (W.bind (.pure (.int 15)) fun x66 => idxW x65 x66)) (attrW "number")), fun e67 => (W.bind (W.bind (varW 0 e67) fun x68 => (W.bind (.pure (.int 16)) fun x69 => idxW x68 x69)) (attrW "most"))]) (mkL false)) fun x70 => addW false x54 x70)) (frzW false)) fun d53 => WS.out (.rt d53))
 WS.next)))
 (startE ["_law_some", "_law_found"] ds)
theorem eq__law_fields : bodyW prog df__law_fields = F__law_fields := by kernel_rfl
theorem run__law_fields (k : Nat) (ds : List D) : runI prog (k + 1) "_law_fields" ds = F__law_fields (runI prog k) ds := run_of rfl eq__law_fields
def F_law (call : Str → List D → W D) (ds : List D) : W D := outW
 (WS.seq (WS.bind (fun e3 => (W.bind (argsW e3 [fun e4 => (varW 0 e4)]) fun x5 => if x5.length = 1 then call "_law_pen" x5 else .fail)) fun d1 => WS.store fun e2 => (fun d6 e7 => .pure (e7.set 1 (some d6))) d1 e2)
 (WS.seq (WS.bind (fun e9 => (W.bind (W.bind (argsW e9 [fun e10 => (.pure (.int 60)), fun e11 => (.pure (.int 120)), fun e12 => (.pure (.int 6)), fun e13 => (.pure (.int 20)), fun e14 => (.pure (.int 8)), fun e15 => (.pure (.int 6)), fun e16 => (.pure (.int 100))]) (mkL false)) fun x17 => (W.bind (W.bind (argsW e9 [fun e18 => (.pure (.int 60)), fun e19 => (.pure (.int 120)), fun e20 => (.pure (.int 6)), fun e21 => (.pure (.int 20)), fun e22 => (.pure (.int 8)), fun e23 => (.pure (.int 6)), fun e24 => (.pure (.int 100))]) (mkL false)) fun x25 => W.bind (eqW true x17 x25) blW))) fun t8 => if t8 then
   (WS.seq (WS.bind (fun e26 => W.bind (.pure (.bl false)) (frzW false)) fun d27 => WS.out (.rt d27))
   WS.next)
   else WS.next)
 (WS.seq (WS.bind (fun e30 => (W.bind (W.bind (W.bind (W.bind (W.bind (W.bind (argsW e30 [fun e31 => (.pure (.str "1000000"))]) (mkL false)) fun x32 => (W.bind (.pure (.int 5)) fun x33 => mulW false x32 x33)) fun x34 => (W.bind (W.bind (W.bind (argsW e30 [fun e35 => (.pure (.str "0110000"))]) (mkL false)) fun x36 => (W.bind (.pure (.int 4)) fun x37 => mulW false x36 x37)) fun x38 => addW false x34 x38)) fun x39 => (W.bind (W.bind (W.bind (argsW e30 [fun e40 => (.pure (.str "0101000"))]) (mkL false)) fun x41 => (W.bind (.pure (.int 2)) fun x42 => mulW false x41 x42)) fun x43 => addW false x39 x43)) fun x44 => (W.bind (W.bind (W.bind (argsW e30 [fun e45 => (.pure (.str "0100000"))]) (mkL false)) fun x46 => (W.bind (.pure (.int 2)) fun x47 => mulW false x46 x47)) fun x48 => addW false x44 x48)) fun x49 => (W.bind (W.bind (W.bind (argsW e30 [fun e50 => (.pure (.str "0000001"))]) (mkL false)) fun x51 => (W.bind (.pure (.int 4)) fun x52 => mulW false x51 x52)) fun x53 => addW false x49 x53))) fun d28 => WS.store fun e29 => (fun d54 e55 => .pure (e55.set 2 (some d54))) d28 e29)
 (WS.seq (WS.bind (fun e58 => (W.bind (W.bind (varW 2 e58) fun x59 => (W.bind (W.bind (W.bind (argsW e58 [fun e60 => (.pure (.str "0000100"))]) (mkL false)) fun x61 => (W.bind (.pure (.int 2)) fun x62 => mulW false x61 x62)) fun x63 => addW false x59 x63)) fun x64 => (W.bind (W.bind (argsW e58 [fun e65 => (.pure (.str "0000110"))]) (mkL false)) fun x66 => addW false x64 x66))) fun d56 => WS.store fun e57 => (fun d67 e68 => .pure (e68.set 2 (some d67))) d56 e57)
 (WS.seq (WS.bind (fun e69 => (W.bind (argsW e69 [fun e73 => (W.bind (.pure (.int 2)) fun x74 => (W.bind (W.bind (argsW e73 [fun e75 => (.pure (.int 4)), fun e76 => (W.bind (argsW e76 [fun e77 => (varW 0 e77)]) (Bi.run false .len))]) (Bi.run false .min)) fun x78 => addW false x74 x78))]) rangeW1)) fun b70 => WS.loop b70 (fun d71 => WS.seq (WS.store fun e72 => (fun d79 e80 => .pure (e80.set 3 (some d79))) d71 e72)
   (WS.seq (WS.bind (fun e83 => (W.bind (W.bind (argsW e83 [fun e84 => (.pure (.int 2))]) rangeW1) fun b85 => compW false b85 (bodyC (fun d86 e87 => .pure (e87.set 5 (some d86))) (fun _ => .pure true) (fun e88 => (W.bind (argsW e88 [fun e89 => (varW 1 e89), fun e90 => (W.bind (argsW e90 [fun e91 => (.pure .non), fun e92 => (.pure (.int 7)), fun e93 => (.pure (.str "a")), fun e94 => (W.bind (argsW e94 [fun e95 => (.pure (.int 1)), fun e96 => (.pure (.str "b"))]) mkT), fun e97 => (W.bind (argsW e97 []) mkT), fun e98 => (W.bind (argsW e98 []) (mkL false)), fun e99 => (W.bind (argsW e99 [fun e100 => (varW 1 e100)]) fun x101 => if x101.length = 1 then call "_law_worth" x101 else .fail)]) (mkL false))]) fun x102 => if x102.length = 2 then call "_law_pick" x102 else .fail)) (wipeE e83 [5])))) fun d81 => WS.store fun e82 => (tupG [(fun d105 e106 => .pure (e106.set 7 (some d105))), (fun d107 e108 => .pure (e108.set 8 (some d107)))]) d81 e82)
   (WS.seq (WS.bind (fun e111 => (W.bind (argsW e111 [fun e112 => (varW 7 e112), fun e113 => (varW 8 e113)]) fun x114 => if x114.length = 2 then call "_law_made" x114 else .fail)) fun d109 => WS.store fun e110 => (fun d115 e116 => .pure (e116.set 4 (some d115))) d109 e110)
   (WS.seq (WS.bind (fun e117 => (W.bind (argsW e117 [fun e121 => (.pure (.int 20))]) rangeW1)) fun b118 => WS.loop b118 (fun d119 => WS.seq (WS.store fun e120 => (fun d122 e123 => .pure (e123.set 5 (some d122))) d119 e120)
     (WS.seq (WS.bind (fun e125 => (boolT .Or e125 [fun e126 => (W.bind (W.bind (argsW e126 [fun e127 => (W.bind (varW 4 e127) fun x128 => (W.bind (varW 5 e127) fun x129 => idxW x128 x129))]) fun x130 => if x130.length = 1 then call "_law_classes" x130 else .fail) fun x131 => (W.bind (W.bind (W.bind (argsW e126 [fun e132 => (.pure (.int 20))]) rangeW1) fun b133 => compW false b133 (bodyC (fun d134 e135 => .pure (e135.set 9 (some d134))) (fun _ => .pure true) (fun e136 => (W.bind (varW 5 e136) fun x137 => (W.bind (varW 9 e136) fun x138 => eqW false x137 x138))) (wipeE e126 [9]))) fun x139 => W.bind (eqW true x131 x139) blW)), fun e140 => (W.bind (W.bind (argsW e140 [fun e141 => (W.bind (varW 4 e141) fun x142 => (W.bind (varW 5 e141) fun x143 => idxW x142 x143))]) fun x144 => if x144.length = 1 then call "_law_above" x144 else .fail) fun x145 => (W.bind (W.bind (varW 2 e140) fun x146 => (W.bind (varW 5 e140) fun x147 => idxW x146 x147)) fun x148 => W.bind (eqW true x145 x148) blW))])) fun t124 => if t124 then
       (WS.seq (WS.bind (fun e149 => W.bind (.pure (.bl false)) (frzW false)) fun d150 => WS.out (.rt d150))
       WS.next)
       else WS.next)
     WS.next)) b118.1)
   (WS.seq (WS.bind (fun e153 => (W.bind (W.bind (W.bind (varW 4 e153) fun x154 => (W.bind (partW none e153) fun x155 => (W.bind (partW (some (fun e156 => (.pure (.int 14)))) e153) fun x157 => slW false x154 x155 x157))) fun x158 => (W.bind (W.bind (varW 4 e153) fun x159 => (W.bind (partW (some (fun e160 => (.pure (.int 15)))) e153) fun x161 => (W.bind (partW (some (fun e162 => (.pure (.int 16)))) e153) fun x163 => slW false x159 x161 x163))) fun x164 => addW false x158 x164)) fun x165 => (W.bind (W.bind (varW 4 e153) fun x166 => (W.bind (partW (some (fun e167 => (.pure (.int 18)))) e153) fun x168 => (W.bind (partW none e153) fun x169 => slW false x166 x168 x169))) fun x170 => addW false x165 x170))) fun d151 => WS.store fun e152 => (fun d171 e172 => .pure (e172.set 4 (some d171))) d151 e152)
   (WS.seq (WS.bind (fun e173 => (W.bind (W.bind (argsW e173 [fun e177 => (varW 4 e177), fun e178 => (W.bind (argsW e178 [fun e179 => (varW 7 e179), fun e180 => (varW 8 e180)]) fun x181 => if x181.length = 2 then call "_law_called" x181 else .fail)]) mkT) srcW)) fun b174 => WS.loop b174 (fun d175 => WS.seq (WS.store fun e176 => (fun d182 e183 => .pure (e183.set 6 (some d182))) d175 e176)
     (WS.seq (WS.bind (fun e185 => (W.bind (W.bind (argsW e185 [fun e186 => (W.bind (argsW e186 [fun e187 => (varW 6 e187)]) fun x188 => if x188.length = 1 then call "_law_fields" x188 else .fail)]) (Bi.run false .repr)) fun x189 => (W.bind (W.bind (argsW e185 [fun e190 => (W.bind (W.bind (argsW e190 [fun e191 => (varW 7 e191), fun e192 => (varW 7 e192), fun e193 => (varW 8 e193)]) (mkL false)) fun x194 => (W.bind (W.bind (W.bind (argsW e190 [fun e195 => (varW 7 e195)]) (mkL false)) fun x196 => (W.bind (.pure (.int 15)) fun x197 => mulW false x196 x197)) fun x198 => addW false x194 x198))]) (Bi.run false .repr)) fun x199 => W.bind (eqW true x189 x199) blW))) fun t184 => if t184 then
       (WS.seq (WS.bind (fun e200 => W.bind (.pure (.bl false)) (frzW false)) fun d201 => WS.out (.rt d201))
       WS.next)
       else WS.next)
     WS.next)) b174.1)
   WS.next)))))) b70.1)
 (WS.seq (WS.bind (fun e202 => W.bind (.pure (.bl true)) (frzW false)) fun d203 => WS.out (.rt d203))
 WS.next))))))
 (startE ["_law_script", "_law_pen_here", "_law_under", "_law_bout", "_law_some", "_law_k", "_law_one", "_law_a", "_law_b", "_law_j"] ds)
theorem eq_law : bodyW prog df_law = F_law := by kernel_rfl
theorem run_law (k : Nat) (ds : List D) : runI prog (k + 1) "law" ds = F_law (runI prog k) ds := run_of rfl eq_law
set_option maxHeartbeats 4000000 in
theorem prog_ok {K : PySem.W.Frag} {h : Heap} {mg : Str → Option Value} (X : K.In h) (G : h.Ns mainGlobals mg)
    {od__law_pen an__law_pen : Option Addr} {sl__law_pen : Array (Option Value)} {oc__law_pen kV__law_pen dc__law_pen pm__law_pen cd__law_pen ct__law_pen : Value} {f__law_pen : Addr}
    (a__law_pen : PySem.W.nsIn K mainGlobals "_law_pen" = some (some (.ref f__law_pen))) (l__law_pen : K.lookup f__law_pen = some ⟨oc__law_pen, od__law_pen, .func (PySem.W.fnOf "_law_pen" "_law_pen" (defArgs s__law_pen) (defBody s__law_pen) (defScope s__law_pen) .none kV__law_pen dc__law_pen pm__law_pen an__law_pen cd__law_pen ct__law_pen), sl__law_pen⟩) (c__law_pen : PySem.W.codeIn K cd__law_pen "_law_pen" = true) (k__law_pen : PySem.W.keepIn K (.ref f__law_pen) = true)
    {od__law_draw an__law_draw : Option Addr} {sl__law_draw : Array (Option Value)} {oc__law_draw kV__law_draw dc__law_draw pm__law_draw cd__law_draw ct__law_draw : Value} {f__law_draw : Addr}
    (a__law_draw : PySem.W.nsIn K mainGlobals "_law_draw" = some (some (.ref f__law_draw))) (l__law_draw : K.lookup f__law_draw = some ⟨oc__law_draw, od__law_draw, .func (PySem.W.fnOf "_law_draw" "_law_draw" (defArgs s__law_draw) (defBody s__law_draw) (defScope s__law_draw) .none kV__law_draw dc__law_draw pm__law_draw an__law_draw cd__law_draw ct__law_draw), sl__law_draw⟩) (c__law_draw : PySem.W.codeIn K cd__law_draw "_law_draw" = true) (k__law_draw : PySem.W.keepIn K (.ref f__law_draw) = true)
    {od__law_pick an__law_pick : Option Addr} {sl__law_pick : Array (Option Value)} {oc__law_pick kV__law_pick dc__law_pick pm__law_pick cd__law_pick ct__law_pick : Value} {f__law_pick : Addr}
    (a__law_pick : PySem.W.nsIn K mainGlobals "_law_pick" = some (some (.ref f__law_pick))) (l__law_pick : K.lookup f__law_pick = some ⟨oc__law_pick, od__law_pick, .func (PySem.W.fnOf "_law_pick" "_law_pick" (defArgs s__law_pick) (defBody s__law_pick) (defScope s__law_pick) .none kV__law_pick dc__law_pick pm__law_pick an__law_pick cd__law_pick ct__law_pick), sl__law_pick⟩) (c__law_pick : PySem.W.codeIn K cd__law_pick "_law_pick" = true) (k__law_pick : PySem.W.keepIn K (.ref f__law_pick) = true)
    {od__law_worth an__law_worth : Option Addr} {sl__law_worth : Array (Option Value)} {oc__law_worth kV__law_worth dc__law_worth pm__law_worth cd__law_worth ct__law_worth : Value} {f__law_worth : Addr}
    (a__law_worth : PySem.W.nsIn K mainGlobals "_law_worth" = some (some (.ref f__law_worth))) (l__law_worth : K.lookup f__law_worth = some ⟨oc__law_worth, od__law_worth, .func (PySem.W.fnOf "_law_worth" "_law_worth" (defArgs s__law_worth) (defBody s__law_worth) (defScope s__law_worth) .none kV__law_worth dc__law_worth pm__law_worth an__law_worth cd__law_worth ct__law_worth), sl__law_worth⟩) (c__law_worth : PySem.W.codeIn K cd__law_worth "_law_worth" = true) (k__law_worth : PySem.W.keepIn K (.ref f__law_worth) = true)
    {od__law_classes an__law_classes : Option Addr} {sl__law_classes : Array (Option Value)} {oc__law_classes kV__law_classes dc__law_classes pm__law_classes cd__law_classes ct__law_classes : Value} {f__law_classes : Addr}
    (a__law_classes : PySem.W.nsIn K mainGlobals "_law_classes" = some (some (.ref f__law_classes))) (l__law_classes : K.lookup f__law_classes = some ⟨oc__law_classes, od__law_classes, .func (PySem.W.fnOf "_law_classes" "_law_classes" (defArgs s__law_classes) (defBody s__law_classes) (defScope s__law_classes) .none kV__law_classes dc__law_classes pm__law_classes an__law_classes cd__law_classes ct__law_classes), sl__law_classes⟩) (c__law_classes : PySem.W.codeIn K cd__law_classes "_law_classes" = true) (k__law_classes : PySem.W.keepIn K (.ref f__law_classes) = true)
    {od__law_above an__law_above : Option Addr} {sl__law_above : Array (Option Value)} {oc__law_above kV__law_above dc__law_above pm__law_above cd__law_above ct__law_above : Value} {f__law_above : Addr}
    (a__law_above : PySem.W.nsIn K mainGlobals "_law_above" = some (some (.ref f__law_above))) (l__law_above : K.lookup f__law_above = some ⟨oc__law_above, od__law_above, .func (PySem.W.fnOf "_law_above" "_law_above" (defArgs s__law_above) (defBody s__law_above) (defScope s__law_above) .none kV__law_above dc__law_above pm__law_above an__law_above cd__law_above ct__law_above), sl__law_above⟩) (c__law_above : PySem.W.codeIn K cd__law_above "_law_above" = true) (k__law_above : PySem.W.keepIn K (.ref f__law_above) = true)
    {od__law_made an__law_made : Option Addr} {sl__law_made : Array (Option Value)} {oc__law_made kV__law_made dc__law_made pm__law_made cd__law_made ct__law_made : Value} {f__law_made : Addr}
    (a__law_made : PySem.W.nsIn K mainGlobals "_law_made" = some (some (.ref f__law_made))) (l__law_made : K.lookup f__law_made = some ⟨oc__law_made, od__law_made, .func (PySem.W.fnOf "_law_made" "_law_made" (defArgs s__law_made) (defBody s__law_made) (defScope s__law_made) .none kV__law_made dc__law_made pm__law_made an__law_made cd__law_made ct__law_made), sl__law_made⟩) (c__law_made : PySem.W.codeIn K cd__law_made "_law_made" = true) (k__law_made : PySem.W.keepIn K (.ref f__law_made) = true)
    {od__law_called an__law_called : Option Addr} {sl__law_called : Array (Option Value)} {oc__law_called kV__law_called dc__law_called pm__law_called cd__law_called ct__law_called : Value} {f__law_called : Addr}
    (a__law_called : PySem.W.nsIn K mainGlobals "_law_called" = some (some (.ref f__law_called))) (l__law_called : K.lookup f__law_called = some ⟨oc__law_called, od__law_called, .func (PySem.W.fnOf "_law_called" "_law_called" (defArgs s__law_called) (defBody s__law_called) (defScope s__law_called) .none kV__law_called dc__law_called pm__law_called an__law_called cd__law_called ct__law_called), sl__law_called⟩) (c__law_called : PySem.W.codeIn K cd__law_called "_law_called" = true) (k__law_called : PySem.W.keepIn K (.ref f__law_called) = true)
    {od__law_fields an__law_fields : Option Addr} {sl__law_fields : Array (Option Value)} {oc__law_fields kV__law_fields dc__law_fields pm__law_fields cd__law_fields ct__law_fields : Value} {f__law_fields : Addr}
    (a__law_fields : PySem.W.nsIn K mainGlobals "_law_fields" = some (some (.ref f__law_fields))) (l__law_fields : K.lookup f__law_fields = some ⟨oc__law_fields, od__law_fields, .func (PySem.W.fnOf "_law_fields" "_law_fields" (defArgs s__law_fields) (defBody s__law_fields) (defScope s__law_fields) .none kV__law_fields dc__law_fields pm__law_fields an__law_fields cd__law_fields ct__law_fields), sl__law_fields⟩) (c__law_fields : PySem.W.codeIn K cd__law_fields "_law_fields" = true) (k__law_fields : PySem.W.keepIn K (.ref f__law_fields) = true)
    {od_law an_law : Option Addr} {sl_law : Array (Option Value)} {oc_law kV_law dc_law pm_law cd_law ct_law : Value} {f_law : Addr}
    (a_law : PySem.W.nsIn K mainGlobals "law" = some (some (.ref f_law))) (l_law : K.lookup f_law = some ⟨oc_law, od_law, .func (PySem.W.fnOf "law" "law" (defArgs s_law) (defBody s_law) (defScope s_law) .none kV_law dc_law pm_law an_law cd_law ct_law), sl_law⟩) (c_law : PySem.W.codeIn K cd_law "law" = true) (k_law : PySem.W.keepIn K (.ref f_law) = true)
    {C_NoText f_NoText N_NoText : Addr} {q_NoText : Str} {bs_NoText : List Value} {sn_NoText : List Str} {sub_NoText : List Value} {ab_NoText : Bool} {col_NoText : Option Bool} {dd_NoText : Option Addr} {k0_NoText k1_NoText k2_NoText k3_NoText k5_NoText : Option Value} {oc_NoText kV_NoText doc_NoText pm_NoText cdv_NoText ct_NoText : Value} {an_NoText od_NoText : Option Addr} {osl_NoText : Array (Option Value)}
    (x_NoText : XF K "NoText" "NoText.__init__" .val s_NoText xf_NoText C_NoText f_NoText q_NoText N_NoText bs_NoText sn_NoText sub_NoText ab_NoText col_NoText dd_NoText k0_NoText k1_NoText k2_NoText k3_NoText k5_NoText oc_NoText kV_NoText doc_NoText pm_NoText cdv_NoText ct_NoText an_NoText od_NoText osl_NoText)
    {C_NoBatch f_NoBatch N_NoBatch : Addr} {q_NoBatch : Str} {bs_NoBatch : List Value} {sn_NoBatch : List Str} {sub_NoBatch : List Value} {ab_NoBatch : Bool} {col_NoBatch : Option Bool} {dd_NoBatch : Option Addr} {k0_NoBatch k1_NoBatch k2_NoBatch k3_NoBatch k5_NoBatch : Option Value} {oc_NoBatch kV_NoBatch doc_NoBatch pm_NoBatch cdv_NoBatch ct_NoBatch : Value} {an_NoBatch od_NoBatch : Option Addr} {osl_NoBatch : Array (Option Value)}
    (x_NoBatch : XF K "NoBatch" "NoBatch.__init__" .val s_NoBatch xf_NoBatch C_NoBatch f_NoBatch q_NoBatch N_NoBatch bs_NoBatch sn_NoBatch sub_NoBatch ab_NoBatch col_NoBatch dd_NoBatch k0_NoBatch k1_NoBatch k2_NoBatch k3_NoBatch k5_NoBatch oc_NoBatch kV_NoBatch doc_NoBatch pm_NoBatch cdv_NoBatch ct_NoBatch an_NoBatch od_NoBatch osl_NoBatch)
    {C_NoQuestion f_NoQuestion N_NoQuestion : Addr} {q_NoQuestion : Str} {bs_NoQuestion : List Value} {sn_NoQuestion : List Str} {sub_NoQuestion : List Value} {ab_NoQuestion : Bool} {col_NoQuestion : Option Bool} {dd_NoQuestion : Option Addr} {k0_NoQuestion k1_NoQuestion k2_NoQuestion k3_NoQuestion k5_NoQuestion : Option Value} {oc_NoQuestion kV_NoQuestion doc_NoQuestion pm_NoQuestion cdv_NoQuestion ct_NoQuestion : Value} {an_NoQuestion od_NoQuestion : Option Addr} {osl_NoQuestion : Array (Option Value)}
    (x_NoQuestion : XF K "NoQuestion" "NoQuestion.__init__" .val s_NoQuestion xf_NoQuestion C_NoQuestion f_NoQuestion q_NoQuestion N_NoQuestion bs_NoQuestion sn_NoQuestion sub_NoQuestion ab_NoQuestion col_NoQuestion dd_NoQuestion k0_NoQuestion k1_NoQuestion k2_NoQuestion k3_NoQuestion k5_NoQuestion oc_NoQuestion kV_NoQuestion doc_NoQuestion pm_NoQuestion cdv_NoQuestion ct_NoQuestion an_NoQuestion od_NoQuestion osl_NoQuestion)
    {C_BadName f_BadName N_BadName : Addr} {q_BadName : Str} {bs_BadName : List Value} {sn_BadName : List Str} {sub_BadName : List Value} {ab_BadName : Bool} {col_BadName : Option Bool} {dd_BadName : Option Addr} {k0_BadName k1_BadName k2_BadName k3_BadName k5_BadName : Option Value} {oc_BadName kV_BadName doc_BadName pm_BadName cdv_BadName ct_BadName : Value} {an_BadName od_BadName : Option Addr} {osl_BadName : Array (Option Value)}
    (x_BadName : XF K "BadName" "BadName.__init__" .val s_BadName xf_BadName C_BadName f_BadName q_BadName N_BadName bs_BadName sn_BadName sub_BadName ab_BadName col_BadName dd_BadName k0_BadName k1_BadName k2_BadName k3_BadName k5_BadName oc_BadName kV_BadName doc_BadName pm_BadName cdv_BadName ct_BadName an_BadName od_BadName osl_BadName)
    {C_NoRow f_NoRow N_NoRow : Addr} {q_NoRow : Str} {bs_NoRow : List Value} {sn_NoRow : List Str} {sub_NoRow : List Value} {ab_NoRow : Bool} {col_NoRow : Option Bool} {dd_NoRow : Option Addr} {k0_NoRow k1_NoRow k2_NoRow k3_NoRow k5_NoRow : Option Value} {oc_NoRow kV_NoRow doc_NoRow pm_NoRow cdv_NoRow ct_NoRow : Value} {an_NoRow od_NoRow : Option Addr} {osl_NoRow : Array (Option Value)}
    (x_NoRow : XF K "NoRow" "NoRow.__init__" .val s_NoRow xf_NoRow C_NoRow f_NoRow q_NoRow N_NoRow bs_NoRow sn_NoRow sub_NoRow ab_NoRow col_NoRow dd_NoRow k0_NoRow k1_NoRow k2_NoRow k3_NoRow k5_NoRow oc_NoRow kV_NoRow doc_NoRow pm_NoRow cdv_NoRow ct_NoRow an_NoRow od_NoRow osl_NoRow)
    {C_NoKnot f_NoKnot N_NoKnot : Addr} {q_NoKnot : Str} {bs_NoKnot : List Value} {sn_NoKnot : List Str} {sub_NoKnot : List Value} {ab_NoKnot : Bool} {col_NoKnot : Option Bool} {dd_NoKnot : Option Addr} {k0_NoKnot k1_NoKnot k2_NoKnot k3_NoKnot k5_NoKnot : Option Value} {oc_NoKnot kV_NoKnot doc_NoKnot pm_NoKnot cdv_NoKnot ct_NoKnot : Value} {an_NoKnot od_NoKnot : Option Addr} {osl_NoKnot : Array (Option Value)}
    (x_NoKnot : XF K "NoKnot" "NoKnot.__init__" .key s_NoKnot xf_NoKnot C_NoKnot f_NoKnot q_NoKnot N_NoKnot bs_NoKnot sn_NoKnot sub_NoKnot ab_NoKnot col_NoKnot dd_NoKnot k0_NoKnot k1_NoKnot k2_NoKnot k3_NoKnot k5_NoKnot oc_NoKnot kV_NoKnot doc_NoKnot pm_NoKnot cdv_NoKnot ct_NoKnot an_NoKnot od_NoKnot osl_NoKnot)
    {C_NoTie f_NoTie N_NoTie : Addr} {q_NoTie : Str} {bs_NoTie : List Value} {sn_NoTie : List Str} {sub_NoTie : List Value} {ab_NoTie : Bool} {col_NoTie : Option Bool} {dd_NoTie : Option Addr} {k0_NoTie k1_NoTie k2_NoTie k3_NoTie k5_NoTie : Option Value} {oc_NoTie kV_NoTie doc_NoTie pm_NoTie cdv_NoTie ct_NoTie : Value} {an_NoTie od_NoTie : Option Addr} {osl_NoTie : Array (Option Value)}
    (x_NoTie : XF K "NoTie" "NoTie.__init__" .key s_NoTie xf_NoTie C_NoTie f_NoTie q_NoTie N_NoTie bs_NoTie sn_NoTie sub_NoTie ab_NoTie col_NoTie dd_NoTie k0_NoTie k1_NoTie k2_NoTie k3_NoTie k5_NoTie oc_NoTie kV_NoTie doc_NoTie pm_NoTie cdv_NoTie ct_NoTie an_NoTie od_NoTie osl_NoTie)
    {C_NoName f_NoName N_NoName : Addr} {q_NoName : Str} {bs_NoName : List Value} {sn_NoName : List Str} {sub_NoName : List Value} {ab_NoName : Bool} {col_NoName : Option Bool} {dd_NoName : Option Addr} {k0_NoName k1_NoName k2_NoName k3_NoName k5_NoName : Option Value} {oc_NoName kV_NoName doc_NoName pm_NoName cdv_NoName ct_NoName : Value} {an_NoName od_NoName : Option Addr} {osl_NoName : Array (Option Value)}
    (x_NoName : XF K "NoName" "NoName.__init__" .key s_NoName xf_NoName C_NoName f_NoName q_NoName N_NoName bs_NoName sn_NoName sub_NoName ab_NoName col_NoName dd_NoName k0_NoName k1_NoName k2_NoName k3_NoName k5_NoName oc_NoName kV_NoName doc_NoName pm_NoName cdv_NoName ct_NoName an_NoName od_NoName osl_NoName)
    {C_Known f_Known N_Known : Addr} {q_Known : Str} {bs_Known : List Value} {sn_Known : List Str} {sub_Known : List Value} {ab_Known : Bool} {col_Known : Option Bool} {dd_Known : Option Addr} {k0_Known k1_Known k2_Known k3_Known k5_Known : Option Value} {oc_Known kV_Known doc_Known pm_Known cdv_Known ct_Known : Value} {an_Known od_Known : Option Addr} {osl_Known : Array (Option Value)}
    (x_Known : XF K "Known" "Known.__init__" .key s_Known xf_Known C_Known f_Known q_Known N_Known bs_Known sn_Known sub_Known ab_Known col_Known dd_Known k0_Known k1_Known k2_Known k3_Known k5_Known oc_Known kV_Known doc_Known pm_Known cdv_Known ct_Known an_Known od_Known osl_Known)
    {C_NoMoment f_NoMoment N_NoMoment : Addr} {q_NoMoment : Str} {bs_NoMoment : List Value} {sn_NoMoment : List Str} {sub_NoMoment : List Value} {ab_NoMoment : Bool} {col_NoMoment : Option Bool} {dd_NoMoment : Option Addr} {k0_NoMoment k1_NoMoment k2_NoMoment k3_NoMoment k5_NoMoment : Option Value} {oc_NoMoment kV_NoMoment doc_NoMoment pm_NoMoment cdv_NoMoment ct_NoMoment : Value} {an_NoMoment od_NoMoment : Option Addr} {osl_NoMoment : Array (Option Value)}
    (x_NoMoment : XF K "NoMoment" "NoMoment.__init__" .index s_NoMoment xf_NoMoment C_NoMoment f_NoMoment q_NoMoment N_NoMoment bs_NoMoment sn_NoMoment sub_NoMoment ab_NoMoment col_NoMoment dd_NoMoment k0_NoMoment k1_NoMoment k2_NoMoment k3_NoMoment k5_NoMoment oc_NoMoment kV_NoMoment doc_NoMoment pm_NoMoment cdv_NoMoment ct_NoMoment an_NoMoment od_NoMoment osl_NoMoment)
    {C_NoPlace f_NoPlace N_NoPlace : Addr} {q_NoPlace : Str} {bs_NoPlace : List Value} {sn_NoPlace : List Str} {sub_NoPlace : List Value} {ab_NoPlace : Bool} {col_NoPlace : Option Bool} {dd_NoPlace : Option Addr} {k0_NoPlace k1_NoPlace k2_NoPlace k3_NoPlace k5_NoPlace : Option Value} {oc_NoPlace kV_NoPlace doc_NoPlace pm_NoPlace cdv_NoPlace ct_NoPlace : Value} {an_NoPlace od_NoPlace : Option Addr} {osl_NoPlace : Array (Option Value)}
    (x_NoPlace : XF K "NoPlace" "NoPlace.__init__" .index s_NoPlace xf_NoPlace C_NoPlace f_NoPlace q_NoPlace N_NoPlace bs_NoPlace sn_NoPlace sub_NoPlace ab_NoPlace col_NoPlace dd_NoPlace k0_NoPlace k1_NoPlace k2_NoPlace k3_NoPlace k5_NoPlace oc_NoPlace kV_NoPlace doc_NoPlace pm_NoPlace cdv_NoPlace ct_NoPlace an_NoPlace od_NoPlace osl_NoPlace)
    {C_Gone f_Gone N_Gone : Addr} {q_Gone : Str} {bs_Gone : List Value} {sn_Gone : List Str} {sub_Gone : List Value} {ab_Gone : Bool} {col_Gone : Option Bool} {dd_Gone : Option Addr} {k0_Gone k1_Gone k2_Gone k3_Gone k5_Gone : Option Value} {oc_Gone kV_Gone doc_Gone pm_Gone cdv_Gone ct_Gone : Value} {an_Gone od_Gone : Option Addr} {osl_Gone : Array (Option Value)}
    (x_Gone : XF K "Gone" "Gone.__init__" .lookup s_Gone xf_Gone C_Gone f_Gone q_Gone N_Gone bs_Gone sn_Gone sub_Gone ab_Gone col_Gone dd_Gone k0_Gone k1_Gone k2_Gone k3_Gone k5_Gone oc_Gone kV_Gone doc_Gone pm_Gone cdv_Gone ct_Gone an_Gone od_Gone osl_Gone)
    {C_NoTuple f_NoTuple N_NoTuple : Addr} {q_NoTuple : Str} {bs_NoTuple : List Value} {sn_NoTuple : List Str} {sub_NoTuple : List Value} {ab_NoTuple : Bool} {col_NoTuple : Option Bool} {dd_NoTuple : Option Addr} {k0_NoTuple k1_NoTuple k2_NoTuple k3_NoTuple k5_NoTuple : Option Value} {oc_NoTuple kV_NoTuple doc_NoTuple pm_NoTuple cdv_NoTuple ct_NoTuple : Value} {an_NoTuple od_NoTuple : Option Addr} {osl_NoTuple : Array (Option Value)}
    (x_NoTuple : XF K "NoTuple" "NoTuple.__init__" .lookup s_NoTuple xf_NoTuple C_NoTuple f_NoTuple q_NoTuple N_NoTuple bs_NoTuple sn_NoTuple sub_NoTuple ab_NoTuple col_NoTuple dd_NoTuple k0_NoTuple k1_NoTuple k2_NoTuple k3_NoTuple k5_NoTuple oc_NoTuple kV_NoTuple doc_NoTuple pm_NoTuple cdv_NoTuple ct_NoTuple an_NoTuple od_NoTuple osl_NoTuple)
    {C_Fell f_Fell N_Fell : Addr} {q_Fell : Str} {bs_Fell : List Value} {sn_Fell : List Str} {sub_Fell : List Value} {ab_Fell : Bool} {col_Fell : Option Bool} {dd_Fell : Option Addr} {k0_Fell k1_Fell k2_Fell k3_Fell k5_Fell : Option Value} {oc_Fell kV_Fell doc_Fell pm_Fell cdv_Fell ct_Fell : Value} {an_Fell od_Fell : Option Addr} {osl_Fell : Array (Option Value)}
    (x_Fell : XF K "Fell" "Fell.__init__" .run s_Fell xf_Fell C_Fell f_Fell q_Fell N_Fell bs_Fell sn_Fell sub_Fell ab_Fell col_Fell dd_Fell k0_Fell k1_Fell k2_Fell k3_Fell k5_Fell oc_Fell kV_Fell doc_Fell pm_Fell cdv_Fell ct_Fell an_Fell od_Fell osl_Fell)
    {C_Busy f_Busy N_Busy : Addr} {q_Busy : Str} {bs_Busy : List Value} {sn_Busy : List Str} {sub_Busy : List Value} {ab_Busy : Bool} {col_Busy : Option Bool} {dd_Busy : Option Addr} {k0_Busy k1_Busy k2_Busy k3_Busy k5_Busy : Option Value} {oc_Busy kV_Busy doc_Busy pm_Busy cdv_Busy ct_Busy : Value} {an_Busy od_Busy : Option Addr} {osl_Busy : Array (Option Value)}
    (x_Busy : XF K "Busy" "Busy.__init__" .run s_Busy xf_Busy C_Busy f_Busy q_Busy N_Busy bs_Busy sn_Busy sub_Busy ab_Busy col_Busy dd_Busy k0_Busy k1_Busy k2_Busy k3_Busy k5_Busy oc_Busy kV_Busy doc_Busy pm_Busy cdv_Busy ct_Busy an_Busy od_Busy osl_Busy)
    {C_Moving f_Moving N_Moving : Addr} {q_Moving : Str} {bs_Moving : List Value} {sn_Moving : List Str} {sub_Moving : List Value} {ab_Moving : Bool} {col_Moving : Option Bool} {dd_Moving : Option Addr} {k0_Moving k1_Moving k2_Moving k3_Moving k5_Moving : Option Value} {oc_Moving kV_Moving doc_Moving pm_Moving cdv_Moving ct_Moving : Value} {an_Moving od_Moving : Option Addr} {osl_Moving : Array (Option Value)}
    (x_Moving : XF K "Moving" "Moving.__init__" .run s_Moving xf_Moving C_Moving f_Moving q_Moving N_Moving bs_Moving sn_Moving sub_Moving ab_Moving col_Moving dd_Moving k0_Moving k1_Moving k2_Moving k3_Moving k5_Moving oc_Moving kV_Moving doc_Moving pm_Moving cdv_Moving ct_Moving an_Moving od_Moving osl_Moving)
    {C_NoMove f_NoMove N_NoMove : Addr} {q_NoMove : Str} {bs_NoMove : List Value} {sn_NoMove : List Str} {sub_NoMove : List Value} {ab_NoMove : Bool} {col_NoMove : Option Bool} {dd_NoMove : Option Addr} {k0_NoMove k1_NoMove k2_NoMove k3_NoMove k5_NoMove : Option Value} {oc_NoMove kV_NoMove doc_NoMove pm_NoMove cdv_NoMove ct_NoMove : Value} {an_NoMove od_NoMove : Option Addr} {osl_NoMove : Array (Option Value)}
    (x_NoMove : XF K "NoMove" "NoMove.__init__" .run s_NoMove xf_NoMove C_NoMove f_NoMove q_NoMove N_NoMove bs_NoMove sn_NoMove sub_NoMove ab_NoMove col_NoMove dd_NoMove k0_NoMove k1_NoMove k2_NoMove k3_NoMove k5_NoMove oc_NoMove kV_NoMove doc_NoMove pm_NoMove cdv_NoMove ct_NoMove an_NoMove od_NoMove osl_NoMove)
    {C_NoPlan f_NoPlan N_NoPlan : Addr} {q_NoPlan : Str} {bs_NoPlan : List Value} {sn_NoPlan : List Str} {sub_NoPlan : List Value} {ab_NoPlan : Bool} {col_NoPlan : Option Bool} {dd_NoPlan : Option Addr} {k0_NoPlan k1_NoPlan k2_NoPlan k3_NoPlan k5_NoPlan : Option Value} {oc_NoPlan kV_NoPlan doc_NoPlan pm_NoPlan cdv_NoPlan ct_NoPlan : Value} {an_NoPlan od_NoPlan : Option Addr} {osl_NoPlan : Array (Option Value)}
    (x_NoPlan : XF K "NoPlan" "NoPlan.__init__" .arith s_NoPlan xf_NoPlan C_NoPlan f_NoPlan q_NoPlan N_NoPlan bs_NoPlan sn_NoPlan sub_NoPlan ab_NoPlan col_NoPlan dd_NoPlan k0_NoPlan k1_NoPlan k2_NoPlan k3_NoPlan k5_NoPlan oc_NoPlan kV_NoPlan doc_NoPlan pm_NoPlan cdv_NoPlan ct_NoPlan an_NoPlan od_NoPlan osl_NoPlan)
    {C_Home f_Home N_Home : Addr} {q_Home : Str} {bs_Home : List Value} {sn_Home : List Str} {sub_Home : List Value} {ab_Home : Bool} {col_Home : Option Bool} {dd_Home : Option Addr} {k0_Home k1_Home k2_Home k3_Home k5_Home : Option Value} {oc_Home kV_Home doc_Home pm_Home cdv_Home ct_Home : Value} {an_Home od_Home : Option Addr} {osl_Home : Array (Option Value)}
    (x_Home : XF K "Home" "Home.__init__" .arith s_Home xf_Home C_Home f_Home q_Home N_Home bs_Home sn_Home sub_Home ab_Home col_Home dd_Home k0_Home k1_Home k2_Home k3_Home k5_Home oc_Home kV_Home doc_Home pm_Home cdv_Home ct_Home an_Home od_Home osl_Home)
    {C_TooLong f_TooLong N_TooLong : Addr} {q_TooLong : Str} {bs_TooLong : List Value} {sn_TooLong : List Str} {sub_TooLong : List Value} {ab_TooLong : Bool} {col_TooLong : Option Bool} {dd_TooLong : Option Addr} {k0_TooLong k1_TooLong k2_TooLong k3_TooLong k5_TooLong : Option Value} {oc_TooLong kV_TooLong doc_TooLong pm_TooLong cdv_TooLong ct_TooLong : Value} {an_TooLong od_TooLong : Option Addr} {osl_TooLong : Array (Option Value)}
    (x_TooLong : XF K "TooLong" "TooLong.__init__" .over s_TooLong xf_TooLong C_TooLong f_TooLong q_TooLong N_TooLong bs_TooLong sn_TooLong sub_TooLong ab_TooLong col_TooLong dd_TooLong k0_TooLong k1_TooLong k2_TooLong k3_TooLong k5_TooLong oc_TooLong kV_TooLong doc_TooLong pm_TooLong cdv_TooLong ct_TooLong an_TooLong od_TooLong osl_TooLong)
    {t_0 : Tok} (v_0 : PySem.W.nsIn K mainGlobals "MOST_KNOTS" = some (some (.int 60 t_0)))
    {t_1 : Tok} (v_1 : PySem.W.nsIn K mainGlobals "MOST_TIES" = some (some (.int 120 t_1)))
    {t_2 : Tok} (v_2 : PySem.W.nsIn K mainGlobals "MOST_WORTHS" = some (some (.int 6 t_2)))
    {t_3 : Tok} (v_3 : PySem.W.nsIn K mainGlobals "MOST_DEEDS" = some (some (.int 20 t_3)))
    {t_4 : Tok} (v_4 : PySem.W.nsIn K mainGlobals "SLOTS" = some (some (.int 8 t_4)))
    {t_5 : Tok} (v_5 : PySem.W.nsIn K mainGlobals "MOST_HOUSES" = some (some (.int 6 t_5)))
    {t_6 : Tok} (v_6 : PySem.W.nsIn K mainGlobals "MOST_ROUNDS" = some (some (.int 100 t_6)))
    (z_len : PySem.W.nsIn K mainGlobals "len" = some none)
    (z_abs : PySem.W.nsIn K mainGlobals "abs" = some none)
    (z_min : PySem.W.nsIn K mainGlobals "min" = some none)
    (z_max : PySem.W.nsIn K mainGlobals "max" = some none)
    (z_isinstance : PySem.W.nsIn K mainGlobals "isinstance" = some none)
    (z_all : PySem.W.nsIn K mainGlobals "all" = some none)
    (z_any : PySem.W.nsIn K mainGlobals "any" = some none)
    (z_list : PySem.W.nsIn K mainGlobals "list" = some none)
    (z_tuple : PySem.W.nsIn K mainGlobals "tuple" = some none)
    (z_str : PySem.W.nsIn K mainGlobals "str" = some none)
    (z_int : PySem.W.nsIn K mainGlobals "int" = some none)
    (z_repr : PySem.W.nsIn K mainGlobals "repr" = some none)
    (z_bool : PySem.W.nsIn K mainGlobals "bool" = some none)
    (z_dict : PySem.W.nsIn K mainGlobals "dict" = some none)
    (z_ValueError : PySem.W.nsIn K mainGlobals "ValueError" = some none)
    (z_IndexError : PySem.W.nsIn K mainGlobals "IndexError" = some none)
    (z_LookupError : PySem.W.nsIn K mainGlobals "LookupError" = some none)
    (z_RuntimeError : PySem.W.nsIn K mainGlobals "RuntimeError" = some none)
    (z_ArithmeticError : PySem.W.nsIn K mainGlobals "ArithmeticError" = some none)
    (z_OverflowError : PySem.W.nsIn K mainGlobals "OverflowError" = some none)
    (z_KeyError : PySem.W.nsIn K mainGlobals "KeyError" = some none)
    (z_range : PySem.W.nsIn K mainGlobals "range" = some none) :
    ProgOk K mg prog := by
  refine ⟨defs_of ?_, excs_of ?_, vals_of ?_, fun x hx hb => ?_, PySem.W.mg_none_of X G z_range⟩
  · refine ⟨?d__law_pen, ?d__law_draw, ?d__law_pick, ?d__law_worth, ?d__law_classes, ?d__law_above, ?d__law_made, ?d__law_called, ?d__law_fields, ?d_law, trivial⟩
    case d__law_pen => exact ⟨_, _, _, _, _, fun_mk (st := s__law_pen) l__law_pen c__law_pen k__law_pen, rfl, rfl, PySem.W.mg_of X G a__law_pen, (fun_mk (st := s__law_pen) l__law_pen c__law_pen k__law_pen).binds (ps := df__law_pen.ps) (fun _ _ _ _ _ _ us hl => match us, hl with | [_], _ => rfl), sc__law_pen, fun s hs => nomatch hs⟩
    case d__law_draw => exact ⟨_, _, _, _, _, fun_mk (st := s__law_draw) l__law_draw c__law_draw k__law_draw, rfl, rfl, PySem.W.mg_of X G a__law_draw, (fun_mk (st := s__law_draw) l__law_draw c__law_draw k__law_draw).binds (ps := df__law_draw.ps) (fun _ _ _ _ _ _ us hl => match us, hl with | [_, _], _ => rfl), sc__law_draw, fun s hs => nomatch hs⟩
    case d__law_pick => exact ⟨_, _, _, _, _, fun_mk (st := s__law_pick) l__law_pick c__law_pick k__law_pick, rfl, rfl, PySem.W.mg_of X G a__law_pick, (fun_mk (st := s__law_pick) l__law_pick c__law_pick k__law_pick).binds (ps := df__law_pick.ps) (fun _ _ _ _ _ _ us hl => match us, hl with | [_, _], _ => rfl), sc__law_pick, fun s hs => nomatch hs⟩
    case d__law_worth => exact ⟨_, _, _, _, _, fun_mk (st := s__law_worth) l__law_worth c__law_worth k__law_worth, rfl, rfl, PySem.W.mg_of X G a__law_worth, (fun_mk (st := s__law_worth) l__law_worth c__law_worth k__law_worth).binds (ps := df__law_worth.ps) (fun _ _ _ _ _ _ us hl => match us, hl with | [_], _ => rfl), sc__law_worth, fun s hs => nomatch hs⟩
    case d__law_classes => exact ⟨_, _, _, _, _, fun_mk (st := s__law_classes) l__law_classes c__law_classes k__law_classes, rfl, rfl, PySem.W.mg_of X G a__law_classes, (fun_mk (st := s__law_classes) l__law_classes c__law_classes k__law_classes).binds (ps := df__law_classes.ps) (fun _ _ _ _ _ _ us hl => match us, hl with | [_], _ => rfl), sc__law_classes, fun s hs => nomatch hs⟩
    case d__law_above => exact ⟨_, _, _, _, _, fun_mk (st := s__law_above) l__law_above c__law_above k__law_above, rfl, rfl, PySem.W.mg_of X G a__law_above, (fun_mk (st := s__law_above) l__law_above c__law_above k__law_above).binds (ps := df__law_above.ps) (fun _ _ _ _ _ _ us hl => match us, hl with | [_], _ => rfl), sc__law_above, fun s hs => nomatch hs⟩
    case d__law_made => exact ⟨_, _, _, _, _, fun_mk (st := s__law_made) l__law_made c__law_made k__law_made, rfl, rfl, PySem.W.mg_of X G a__law_made, (fun_mk (st := s__law_made) l__law_made c__law_made k__law_made).binds (ps := df__law_made.ps) (fun _ _ _ _ _ _ us hl => match us, hl with | [_, _], _ => rfl), sc__law_made, fun s hs => nomatch hs⟩
    case d__law_called => exact ⟨_, _, _, _, _, fun_mk (st := s__law_called) l__law_called c__law_called k__law_called, rfl, rfl, PySem.W.mg_of X G a__law_called, (fun_mk (st := s__law_called) l__law_called c__law_called k__law_called).binds (ps := df__law_called.ps) (fun _ _ _ _ _ _ us hl => match us, hl with | [_, _], _ => rfl), sc__law_called, fun s hs => nomatch hs⟩
    case d__law_fields => exact ⟨_, _, _, _, _, fun_mk (st := s__law_fields) l__law_fields c__law_fields k__law_fields, rfl, rfl, PySem.W.mg_of X G a__law_fields, (fun_mk (st := s__law_fields) l__law_fields c__law_fields k__law_fields).binds (ps := df__law_fields.ps) (fun _ _ _ _ _ _ us hl => match us, hl with | [_], _ => rfl), sc__law_fields, fun s hs => nomatch hs⟩
    case d_law => exact ⟨_, _, _, _, _, fun_mk (st := s_law) l_law c_law k_law, rfl, rfl, PySem.W.mg_of X G a_law, (fun_mk (st := s_law) l_law c_law k_law).binds (ps := df_law.ps) (fun _ _ _ _ _ _ us hl => match us, hl with | [_], _ => rfl), sc_law, fun s hs => nomatch hs⟩
  · refine ⟨?x_NoText, ?x_NoBatch, ?x_NoQuestion, ?x_BadName, ?x_NoRow, ?x_NoKnot, ?x_NoTie, ?x_NoName, ?x_Known, ?x_NoMoment, ?x_NoPlace, ?x_Gone, ?x_NoTuple, ?x_Fell, ?x_Busy, ?x_Moving, ?x_NoMove, ?x_NoPlan, ?x_Home, ?x_TooLong, trivial⟩
    case x_NoText => exact xok_st X G x_NoText z_ValueError (fun us hl => match us, hl with | [_, _], _ => rfl) (AllL.mem (l := xi_NoText.kws) ⟨(fun us ws h1 h2 => match us, h1, ws, h2 with | [_], _, [_], _ => rfl), trivial⟩) sc_NoText ib_NoText rfl (by decide) (by decide) (by decide) (by decide) (by decide +kernel)
    case x_NoBatch => exact xok_st X G x_NoBatch z_ValueError (fun us hl => match us, hl with | [_, _, _], _ => rfl) (AllL.mem (l := xi_NoBatch.kws) ⟨(fun us ws h1 h2 => match us, h1, ws, h2 with | [_], _, [_, _], _ => rfl), trivial⟩) sc_NoBatch ib_NoBatch rfl (by decide) (by decide) (by decide) (by decide) (by decide +kernel)
    case x_NoQuestion => exact xok_st X G x_NoQuestion z_ValueError (fun us hl => match us, hl with | [_, _], _ => rfl) (AllL.mem (l := xi_NoQuestion.kws) ⟨(fun us ws h1 h2 => match us, h1, ws, h2 with | [_], _, [_], _ => rfl), trivial⟩) sc_NoQuestion ib_NoQuestion rfl (by decide) (by decide) (by decide) (by decide) (by decide +kernel)
    case x_BadName => exact xok_st X G x_BadName z_ValueError (fun us hl => match us, hl with | [_, _], _ => rfl) (AllL.mem (l := xi_BadName.kws) ⟨(fun us ws h1 h2 => match us, h1, ws, h2 with | [_], _, [_], _ => rfl), trivial⟩) sc_BadName ib_BadName rfl (by decide) (by decide) (by decide) (by decide) (by decide +kernel)
    case x_NoRow => exact xok_st X G x_NoRow z_ValueError (fun us hl => match us, hl with | [_, _], _ => rfl) (AllL.mem (l := xi_NoRow.kws) ⟨(fun us ws h1 h2 => match us, h1, ws, h2 with | [_], _, [_], _ => rfl), trivial⟩) sc_NoRow ib_NoRow rfl (by decide) (by decide) (by decide) (by decide) (by decide +kernel)
    case x_NoKnot => exact xok_st X G x_NoKnot z_KeyError (fun us hl => match us, hl with | [_, _], _ => rfl) (AllL.mem (l := xi_NoKnot.kws) ⟨(fun us ws h1 h2 => match us, h1, ws, h2 with | [_], _, [_], _ => rfl), trivial⟩) sc_NoKnot ib_NoKnot rfl (by decide) (by decide) (by decide) (by decide) (by decide +kernel)
    case x_NoTie => exact xok_st X G x_NoTie z_KeyError (fun us hl => match us, hl with | [_, _], _ => rfl) (AllL.mem (l := xi_NoTie.kws) ⟨(fun us ws h1 h2 => match us, h1, ws, h2 with | [_], _, [_], _ => rfl), trivial⟩) sc_NoTie ib_NoTie rfl (by decide) (by decide) (by decide) (by decide) (by decide +kernel)
    case x_NoName => exact xok_st X G x_NoName z_KeyError (fun us hl => match us, hl with | [_, _], _ => rfl) (AllL.mem (l := xi_NoName.kws) ⟨(fun us ws h1 h2 => match us, h1, ws, h2 with | [_], _, [_], _ => rfl), trivial⟩) sc_NoName ib_NoName rfl (by decide) (by decide) (by decide) (by decide) (by decide +kernel)
    case x_Known => exact xok_st X G x_Known z_KeyError (fun us hl => match us, hl with | [_, _], _ => rfl) (AllL.mem (l := xi_Known.kws) ⟨(fun us ws h1 h2 => match us, h1, ws, h2 with | [_], _, [_], _ => rfl), trivial⟩) sc_Known ib_Known rfl (by decide) (by decide) (by decide) (by decide) (by decide +kernel)
    case x_NoMoment => exact xok_st X G x_NoMoment z_IndexError (fun us hl => match us, hl with | [_, _], _ => rfl) (AllL.mem (l := xi_NoMoment.kws) ⟨(fun us ws h1 h2 => match us, h1, ws, h2 with | [_], _, [_], _ => rfl), trivial⟩) sc_NoMoment ib_NoMoment rfl (by decide) (by decide) (by decide) (by decide) (by decide +kernel)
    case x_NoPlace => exact xok_st X G x_NoPlace z_IndexError (fun us hl => match us, hl with | [_, _], _ => rfl) (AllL.mem (l := xi_NoPlace.kws) ⟨(fun us ws h1 h2 => match us, h1, ws, h2 with | [_], _, [_], _ => rfl), trivial⟩) sc_NoPlace ib_NoPlace rfl (by decide) (by decide) (by decide) (by decide) (by decide +kernel)
    case x_Gone => exact xok_st X G x_Gone z_LookupError (fun us hl => match us, hl with | [_, _], _ => rfl) (AllL.mem (l := xi_Gone.kws) ⟨(fun us ws h1 h2 => match us, h1, ws, h2 with | [_], _, [_], _ => rfl), trivial⟩) sc_Gone ib_Gone rfl (by decide) (by decide) (by decide) (by decide) (by decide +kernel)
    case x_NoTuple => exact xok_st X G x_NoTuple z_LookupError (fun us hl => match us, hl with | [_, _], _ => rfl) (AllL.mem (l := xi_NoTuple.kws) ⟨(fun us ws h1 h2 => match us, h1, ws, h2 with | [_], _, [_], _ => rfl), trivial⟩) sc_NoTuple ib_NoTuple rfl (by decide) (by decide) (by decide) (by decide) (by decide +kernel)
    case x_Fell => exact xok_st X G x_Fell z_RuntimeError (fun us hl => match us, hl with | [_, _], _ => rfl) (AllL.mem (l := xi_Fell.kws) ⟨(fun us ws h1 h2 => match us, h1, ws, h2 with | [_], _, [_], _ => rfl), trivial⟩) sc_Fell ib_Fell rfl (by decide) (by decide) (by decide) (by decide) (by decide +kernel)
    case x_Busy => exact xok_st X G x_Busy z_RuntimeError (fun us hl => match us, hl with | [_], _ => rfl) (fun s hs => nomatch hs) sc_Busy ib_Busy rfl (by decide) (by decide) (by decide) (by decide) (by decide +kernel)
    case x_Moving => exact xok_st X G x_Moving z_RuntimeError (fun us hl => match us, hl with | [_, _], _ => rfl) (AllL.mem (l := xi_Moving.kws) ⟨(fun us ws h1 h2 => match us, h1, ws, h2 with | [_], _, [_], _ => rfl), trivial⟩) sc_Moving ib_Moving rfl (by decide) (by decide) (by decide) (by decide) (by decide +kernel)
    case x_NoMove => exact xok_st X G x_NoMove z_RuntimeError (fun us hl => match us, hl with | [_], _ => rfl) (fun s hs => nomatch hs) sc_NoMove ib_NoMove rfl (by decide) (by decide) (by decide) (by decide) (by decide +kernel)
    case x_NoPlan => exact xok_st X G x_NoPlan z_ArithmeticError (fun us hl => match us, hl with | [_], _ => rfl) (fun s hs => nomatch hs) sc_NoPlan ib_NoPlan rfl (by decide) (by decide) (by decide) (by decide) (by decide +kernel)
    case x_Home => exact xok_st X G x_Home z_ArithmeticError (fun us hl => match us, hl with | [_, _], _ => rfl) (AllL.mem (l := xi_Home.kws) ⟨(fun us ws h1 h2 => match us, h1, ws, h2 with | [_], _, [_], _ => rfl), trivial⟩) sc_Home ib_Home rfl (by decide) (by decide) (by decide) (by decide) (by decide +kernel)
    case x_TooLong => exact xok_st X G x_TooLong z_OverflowError (fun us hl => match us, hl with | [_, _], _ => rfl) (AllL.mem (l := xi_TooLong.kws) ⟨(fun us ws h1 h2 => match us, h1, ws, h2 with | [_], _, [_], _ => rfl), trivial⟩) sc_TooLong ib_TooLong rfl (by decide) (by decide) (by decide) (by decide) (by decide +kernel)
  · refine ⟨?v_0, ?v_1, ?v_2, ?v_3, ?v_4, ?v_5, ?v_6, trivial⟩
    case v_0 => exact ⟨_, .int 60, PySem.W.mg_of X G v_0, ⟨_, rfl⟩, fun _ _ => rfl⟩
    case v_1 => exact ⟨_, .int 120, PySem.W.mg_of X G v_1, ⟨_, rfl⟩, fun _ _ => rfl⟩
    case v_2 => exact ⟨_, .int 6, PySem.W.mg_of X G v_2, ⟨_, rfl⟩, fun _ _ => rfl⟩
    case v_3 => exact ⟨_, .int 20, PySem.W.mg_of X G v_3, ⟨_, rfl⟩, fun _ _ => rfl⟩
    case v_4 => exact ⟨_, .int 8, PySem.W.mg_of X G v_4, ⟨_, rfl⟩, fun _ _ => rfl⟩
    case v_5 => exact ⟨_, .int 6, PySem.W.mg_of X G v_5, ⟨_, rfl⟩, fun _ _ => rfl⟩
    case v_6 => exact ⟨_, .int 100, PySem.W.mg_of X G v_6, ⟨_, rfl⟩, fun _ _ => rfl⟩
  · exact non_of ⟨PySem.W.mg_none_of X G z_len, PySem.W.mg_none_of X G z_abs, PySem.W.mg_none_of X G z_min, PySem.W.mg_none_of X G z_max, PySem.W.mg_none_of X G z_isinstance, PySem.W.mg_none_of X G z_all, PySem.W.mg_none_of X G z_any, PySem.W.mg_none_of X G z_list, PySem.W.mg_none_of X G z_tuple, PySem.W.mg_none_of X G z_str, PySem.W.mg_none_of X G z_int, PySem.W.mg_none_of X G z_repr, PySem.W.mg_none_of X G z_bool, PySem.W.mg_none_of X G z_dict, PySem.W.mg_none_of X G z_ValueError, PySem.W.mg_none_of X G z_IndexError, PySem.W.mg_none_of X G z_LookupError, PySem.W.mg_none_of X G z_RuntimeError, PySem.W.mg_none_of X G z_ArithmeticError, PySem.W.mg_none_of X G z_OverflowError, PySem.W.mg_none_of X G z_KeyError⟩ hb
end Law

namespace Law
open PySem L2 Mir PyProof.Rows
instance : HasDraw prog := hasDraw fun k ds => run__law_draw k ds
instance : HasPen prog := ⟨fun k ds => run__law_pen k ds⟩
instance : HasPick prog := ⟨fun k ds => run__law_pick k ds⟩
instance : HasWorth prog := ⟨fun k ds => run__law_worth k ds⟩
section
variable {k : Nat} {M : MS} {Q : D → MS → Prop} {E : XV → MS → Prop}
/-- what is made of two values -/
def xs20 (a b : D) : List D := [.exc ⟨"NoText", .val⟩ [("row", a)], .exc ⟨"NoBatch", .val⟩ [("why", b), ("at", a)], .exc ⟨"NoQuestion", .val⟩ [("at", a)], .exc ⟨"BadName", .val⟩ [("asked", a)], .exc ⟨"NoRow", .val⟩ [("asked", a)],
    .exc ⟨"NoKnot", .key⟩ [("asked", a)], .exc ⟨"NoTie", .key⟩ [("asked", a)], .exc ⟨"NoName", .key⟩ [("name", a)], .exc ⟨"Known", .key⟩ [("name", a)], .exc ⟨"NoMoment", .index⟩ [("asked", a)], .exc ⟨"NoPlace", .index⟩ [("asked", a)], .exc ⟨"Gone", .lookup⟩ [("begin", a)],
    .exc ⟨"NoTuple", .lookup⟩ [("asked", a)], .exc ⟨"Fell", .run⟩ [("step", a)], .exc ⟨"Busy", .run⟩ [], .exc ⟨"Moving", .run⟩ [("slot", a)], .exc ⟨"NoMove", .run⟩ [], .exc ⟨"NoPlan", .arith⟩ [], .exc ⟨"Home", .arith⟩ [("number", a)], .exc ⟨"TooLong", .over⟩ [("most", a)]]
/-- those that have fields -/
def xs17 (a b : D) : List D := (xs20 a b).take 14 ++ ((xs20 a b).drop 15).take 1 ++ (xs20 a b).drop 18
def names : List Str := ["NoText", "NoBatch", "NoQuestion", "BadName", "NoRow", "NoKnot", "NoTie", "NoName", "Known", "NoMoment", "NoPlace", "Gone", "NoTuple", "Fell", "Busy", "Moving", "NoMove", "NoPlan", "Home", "TooLong"]
theorem made_ok (hk : 2 ≤ k) {a b : D} (q : Q (.lst (xs20 a b)) M) : (runI prog k "_law_made" [a, b]).run M Q E := by
  obtain ⟨k, rfl⟩ : ∃ k', k = k' + 1 := ⟨k - 1, by omega⟩
  rw [run__law_made]
  unfold F__law_made
  obtain ⟨k, rfl⟩ : ∃ k', k = k' + 1 := ⟨k - 1, by omega⟩
  simp [startE, run_NoText, run_NoBatch, run_NoQuestion, run_BadName, run_NoRow, run_NoKnot, run_NoTie, run_NoName, run_Known, run_NoMoment, run_NoPlace, run_Gone, run_NoTuple, run_Fell, run_Busy, run_Moving, run_NoMove, run_NoPlan, run_Home, run_TooLong]
  simpa [xs20, fvD, xf_NoText, xf_NoBatch, xf_NoQuestion, xf_BadName, xf_NoRow, xf_NoKnot, xf_NoTie, xf_NoName, xf_Known, xf_NoMoment, xf_NoPlace, xf_Gone, xf_NoTuple, xf_Fell, xf_Busy, xf_Moving, xf_NoMove, xf_NoPlan, xf_Home, xf_TooLong] using q
theorem called_ok (hk : 2 ≤ k) {a b : D} (q : Q (.lst (xs17 a b)) M) : (runI prog k "_law_called" [a, b]).run M Q E := by
  obtain ⟨k, rfl⟩ : ∃ k', k = k' + 1 := ⟨k - 1, by omega⟩
  rw [run__law_called]
  unfold F__law_called
  obtain ⟨k, rfl⟩ : ∃ k', k = k' + 1 := ⟨k - 1, by omega⟩
  simp [startE, kwW, gat, run_NoText, run_NoBatch, run_NoQuestion, run_BadName, run_NoRow, run_NoKnot, run_NoTie, run_NoName, run_Known, run_NoMoment, run_NoPlace, run_Gone, run_NoTuple, run_Fell, run_Busy, run_Moving, run_NoMove, run_NoPlan, run_Home, run_TooLong]
  simpa [xs17, xs20, fvD, xf_NoText, xf_NoBatch, xf_NoQuestion, xf_BadName, xf_NoRow, xf_NoKnot, xf_NoTie, xf_NoName, xf_Known, xf_NoMoment, xf_NoPlace, xf_Gone, xf_NoTuple, xf_Fell, xf_Busy, xf_Moving, xf_NoMove, xf_NoPlan, xf_Home, xf_TooLong] using q
theorem at17_0 {a b : D} : atI (xs17 a b) 0 = some (.exc ⟨"NoText", .val⟩ [("row", a)]) := rfl
theorem at17_1 {a b : D} : atI (xs17 a b) 1 = some (.exc ⟨"NoBatch", .val⟩ [("why", b), ("at", a)]) := rfl
theorem at17_2 {a b : D} : atI (xs17 a b) 2 = some (.exc ⟨"NoQuestion", .val⟩ [("at", a)]) := rfl
theorem at17_3 {a b : D} : atI (xs17 a b) 3 = some (.exc ⟨"BadName", .val⟩ [("asked", a)]) := rfl
theorem at17_4 {a b : D} : atI (xs17 a b) 4 = some (.exc ⟨"NoRow", .val⟩ [("asked", a)]) := rfl
theorem at17_5 {a b : D} : atI (xs17 a b) 5 = some (.exc ⟨"NoKnot", .key⟩ [("asked", a)]) := rfl
theorem at17_6 {a b : D} : atI (xs17 a b) 6 = some (.exc ⟨"NoTie", .key⟩ [("asked", a)]) := rfl
theorem at17_7 {a b : D} : atI (xs17 a b) 7 = some (.exc ⟨"NoName", .key⟩ [("name", a)]) := rfl
theorem at17_8 {a b : D} : atI (xs17 a b) 8 = some (.exc ⟨"Known", .key⟩ [("name", a)]) := rfl
theorem at17_9 {a b : D} : atI (xs17 a b) 9 = some (.exc ⟨"NoMoment", .index⟩ [("asked", a)]) := rfl
theorem at17_10 {a b : D} : atI (xs17 a b) 10 = some (.exc ⟨"NoPlace", .index⟩ [("asked", a)]) := rfl
theorem at17_11 {a b : D} : atI (xs17 a b) 11 = some (.exc ⟨"Gone", .lookup⟩ [("begin", a)]) := rfl
theorem at17_12 {a b : D} : atI (xs17 a b) 12 = some (.exc ⟨"NoTuple", .lookup⟩ [("asked", a)]) := rfl
theorem at17_13 {a b : D} : atI (xs17 a b) 13 = some (.exc ⟨"Fell", .run⟩ [("step", a)]) := rfl
theorem at17_14 {a b : D} : atI (xs17 a b) 14 = some (.exc ⟨"Moving", .run⟩ [("slot", a)]) := rfl
theorem at17_15 {a b : D} : atI (xs17 a b) 15 = some (.exc ⟨"Home", .arith⟩ [("number", a)]) := rfl
theorem at17_16 {a b : D} : atI (xs17 a b) 16 = some (.exc ⟨"TooLong", .over⟩ [("most", a)]) := rfl
theorem getA_one {x : Str} {a : D} : getA [(x, a)] x = some a := by simp [getA]
theorem getA_why {a b : D} : getA [(Str.ofString "why", b), (Str.ofString "at", a)] "why" = some b := by simp [getA]
theorem getA_at {a b : D} : getA [(Str.ofString "why", b), (Str.ofString "at", a)] "at" = some a := by
  have : decide (Str.ofString "why" = Str.ofString "at") = false := by decide +kernel
  simp [getA, List.find?, this]
theorem fields_ok (hk : 1 ≤ k) {a b : D} (q : Q (.lst ([a, a, b] ++ List.replicate 15 a)) M) : (runI prog k "_law_fields" [.lst (xs17 a b)]).run M Q E := by
  obtain ⟨k, rfl⟩ : ∃ k', k = k' + 1 := ⟨k - 1, by omega⟩
  rw [run__law_fields]
  unfold F__law_fields
  simp [startE, attrW, at17_0, at17_1, at17_2, at17_3, at17_4, at17_5, at17_6, at17_7, at17_8, at17_9, at17_10, at17_11, at17_12, at17_13, at17_14, at17_15, at17_16, getA_one, getA_why, getA_at]
  exact q
theorem classes_ok (hk : 1 ≤ k) {c : XN} {fs : List (Str × D)} (q : Q (.lst (names.map fun n => .bl (decide (c.n = n)))) M) : (runI prog k "_law_classes" [.exc c fs]).run M Q E := by
  obtain ⟨k, rfl⟩ : ∃ k', k = k' + 1 := ⟨k - 1, by omega⟩
  rw [run__law_classes]
  unfold F__law_classes
  simp [startE]
  simpa [names] using q
theorem above_ok (hk : 1 ≤ k) {c : XN} {fs : List (Str × D)} (q : Q (.str (Txt.join "" ([Xb.val, .lookup, .key, .index, .arith, .over, .run].map fun b => if c.b.le b then "1" else "0"))) M) : (runI prog k "_law_above" [.exc c fs]).run M Q E := by
  obtain ⟨k, rfl⟩ : ∃ k', k = k' + 1 := ⟨k - 1, by omega⟩
  rw [run__law_above]
  unfold F__law_above
  simp [startE]
  refine comp_pure (fun d => match d with | .bl b => some (.str (if b then "1" else "0")) | _ => none) ?_ (by simp [sizeLine_eq]) ?_
  · intro d hd M' Q' E' q'
    have hb : ∃ b, d = .bl b := by
      simp only [List.mem_cons, List.not_mem_nil, or_false] at hd
      rcases hd with rfl | rfl | rfl | rfl | rfl | rfl | rfl <;> exact ⟨_, rfl⟩
    obtain ⟨b, rfl⟩ := hb
    have e0 : Int.repr 0 = "0" := by decide
    have e1 : Int.repr 1 = "1" := by decide
    cases b
    · simp [bodyC, wipeE, intW, strW, e0]
      exact q'
    · simp [bodyC, wipeE, intW, strW, e1]
      exact ⟨by decide, q'⟩
  · have l1 : ∀ b : Bool, (if b = true then Str.ofString "1" else Str.ofString "0").length = 1 := by intro b; cases b <;> rfl
    simp [joinW, strsOf, seqOf, l1]
    exact ⟨by decide +kernel, q⟩
end
end Law

namespace Law
open PySem L2 Mir PyProof.Rows
section
variable {k : Nat} {M : MS} {Q : D → MS → Prop} {E : XV → MS → Prop}
theorem mulL_run {l : List D} {n : Int} : (mulW false (.lst l) (.int n)).run M Q E = ((-(2 ^ 63) ≤ n ∧ n < 2 ^ 63) ∧ (List.replicate n.toNat l).flatten.length ≤ sizeLine ∧ Q (.lst (List.replicate n.toNat l).flatten) M) := rfl
theorem addL_run {l l' : List D} : (addW false (.lst l) (.lst l')).run M Q E = ((l ++ l').length ≤ sizeLine ∧ Q (.lst (l ++ l')) M) := rfl
def under : List Str := ["1000000", "1000000", "1000000", "1000000", "1000000", "0110000", "0110000", "0110000", "0110000", "0101000", "0101000", "0100000", "0100000", "0000001", "0000001", "0000001", "0000001", "0000100", "0000100", "0000110"]
/-- what is drawn -/
def Ok (d : D) : Prop := sz d ≤ 1000 ∧ dp d ≤ 2
theorem ok_worth {d : D} (h : WorthD d) : Ok d := by
  rcases h with ⟨i, rfl, h1, h2⟩ | ⟨s, rfl, h⟩
  · refine ⟨?_, by simp [dp]⟩
    simp only [sz, szI]
    rw [if_pos (by omega)]
    omega
  · have := sz_wd h
    exact ⟨by simp only [sz]; omega, by simp [dp]⟩
theorem at20 {a b : D} {j : Nat} (hj : j < 20) : ∃ c fs, atI (xs20 a b) (j : Int) = some (.exc c fs) ∧ names.map (fun n => decide (c.n = n)) = (List.range 20).map (fun t => decide (j = t)) ∧
    some (Txt.join "" ([Xb.val, .lookup, .key, .index, .arith, .over, .run].map fun b => if c.b.le b then "1" else "0")) = under[j]? := by
  match j, hj with
  | 0, _ => exact ⟨_, _, rfl, by decide +kernel, by decide +kernel⟩
  | 1, _ => exact ⟨_, _, rfl, by decide +kernel, by decide +kernel⟩
  | 2, _ => exact ⟨_, _, rfl, by decide +kernel, by decide +kernel⟩
  | 3, _ => exact ⟨_, _, rfl, by decide +kernel, by decide +kernel⟩
  | 4, _ => exact ⟨_, _, rfl, by decide +kernel, by decide +kernel⟩
  | 5, _ => exact ⟨_, _, rfl, by decide +kernel, by decide +kernel⟩
  | 6, _ => exact ⟨_, _, rfl, by decide +kernel, by decide +kernel⟩
  | 7, _ => exact ⟨_, _, rfl, by decide +kernel, by decide +kernel⟩
  | 8, _ => exact ⟨_, _, rfl, by decide +kernel, by decide +kernel⟩
  | 9, _ => exact ⟨_, _, rfl, by decide +kernel, by decide +kernel⟩
  | 10, _ => exact ⟨_, _, rfl, by decide +kernel, by decide +kernel⟩
  | 11, _ => exact ⟨_, _, rfl, by decide +kernel, by decide +kernel⟩
  | 12, _ => exact ⟨_, _, rfl, by decide +kernel, by decide +kernel⟩
  | 13, _ => exact ⟨_, _, rfl, by decide +kernel, by decide +kernel⟩
  | 14, _ => exact ⟨_, _, rfl, by decide +kernel, by decide +kernel⟩
  | 15, _ => exact ⟨_, _, rfl, by decide +kernel, by decide +kernel⟩
  | 16, _ => exact ⟨_, _, rfl, by decide +kernel, by decide +kernel⟩
  | 17, _ => exact ⟨_, _, rfl, by decide +kernel, by decide +kernel⟩
  | 18, _ => exact ⟨_, _, rfl, by decide +kernel, by decide +kernel⟩
  | 19, _ => exact ⟨_, _, rfl, by decide +kernel, by decide +kernel⟩
  | n + 20, h => exact absurd h (by omega)
theorem at_under {j : Nat} (hj : j < 20) : atI (List.map D.str under) (j : Int) = (under[j]?).map D.str := by
  match j, hj with
  | 0, _ => rfl
  | 1, _ => rfl
  | 2, _ => rfl
  | 3, _ => rfl
  | 4, _ => rfl
  | 5, _ => rfl
  | 6, _ => rfl
  | 7, _ => rfl
  | 8, _ => rfl
  | 9, _ => rfl
  | 10, _ => rfl
  | 11, _ => rfl
  | 12, _ => rfl
  | 13, _ => rfl
  | 14, _ => rfl
  | 15, _ => rfl
  | 16, _ => rfl
  | 17, _ => rfl
  | 18, _ => rfl
  | 19, _ => rfl
  | n + 20, h => exact absurd h (by omega)
def fF (j : Nat) (d : D) : Option D := match d with
  | .int t => some (.bl (decide ((j : Int) = t)))
  | _ => none
theorem same20 {c : XN} {j : Nat} (h : names.map (fun n => decide (c.n = n)) = (List.range 20).map (fun t => decide (j = t))) : names.map (fun n => D.bl (decide (c.n = n))) = (intsD 0 20).filterMap (fF j) := by
  have e1 : names.map (fun n => D.bl (decide (c.n = n))) = (names.map (fun n => decide (c.n = n))).map D.bl := by rw [List.map_map]; rfl
  rw [e1, h, List.map_map]
  unfold intsD
  rw [List.filterMap_map, ← List.filterMap_eq_map]
  congr 1
  funext t
  have : decide ((j : Int) = 0 + (t : Int)) = decide (j = t) := by
    by_cases h : j = t
    · subst h; simp
    · have h2 : ¬ ((j : Int) = 0 + (t : Int)) := by omega
      rw [decide_eq_false h, decide_eq_false h2]
  simp only [Function.comp, fF, this]
theorem pln_bls {l : List Bool} : Pln (.lst (l.map D.bl)) = true ∧ dp (.lst (l.map D.bl)) ≤ 25 := by
  constructor
  · simp only [Pln]
    rw [PlnL_iff]
    intro d hd
    obtain ⟨b, _, rfl⟩ := List.mem_map.mp hd
    rfl
  · have : dpL (l.map D.bl) ≤ 1 := dpL_le fun d hd => by
      obtain ⟨b, _, rfl⟩ := List.mem_map.mp hd
      simp [dp]
    simp only [dp]
    omega
def depth : Nat := 20
theorem law_ok (hk : 12 ≤ k) {ns : List Int} (hl : ns.length ≤ 63) (q : ∀ M, Q (.bl true) M) : (runI prog k "law" [.scr (ns.map D.int)]).run M Q E := by
  obtain ⟨k, rfl⟩ : ∃ k', k = k' + 1 := ⟨k - 1, by omega⟩
  rw [run_law]
  unfold F_law
  simp [startE]
  refine hpen_ok (by omega) hl fun p M0 _ h0 _ => ?_
  try simp
  refine eq_same (by decide +kernel) (by decide +kernel) ?_
  simp [mulL_run, addL_run, sizeLine_eq, List.replicate]
  have hmin : ∃ b : Nat, b ≤ 4 ∧ (if (ns.length : Int) < 4 then (ns.length : Int) else 4) = b := by
    by_cases h : (ns.length : Int) < 4
    · exact ⟨ns.length, by omega, by rw [if_pos h]⟩
    · exact ⟨4, by omega, by rw [if_neg h]; rfl⟩
  obtain ⟨b, hb, eb⟩ := hmin
  rw [eb]
  refine ⟨by omega, ?_⟩
  have e8 : (2 + (b : Int)).toNat = 2 + b := by omega
  rw [e8]
  refine loopN_ok (lo := 0) (fun i env M => ∃ x y z u v w r, env = [some (.scr (ns.map D.int)), some (.ref p), some (.lst (under.map D.str)), x, y, z, u, v, w, r] ∧ Pen M p (i * 1000)) ⟨none, none, none, none, none, none, none, rfl, h0⟩ ?_ ?_
  · rintro i env M hi ⟨x, y, z, u, v, w, r, rfl, h⟩
    simp
    have el : (intsD 0 2).length = 2 := rfl
    refine comp_pen Ok 9 h ?_ (by rw [el]; decide) ?_
    · intro d hd M' j QO E hP hj q'
      simp [bodyC, wipeE]
      refine worth_ok (by omega) hP (by omega) fun d1 M1 hd1 h1 k1 => ?_
      refine hpick_ok (by omega) h1 (by omega) (by simp) (by simp) fun d2 M2 hd2 h2 k2 => ?_
      refine q' d2 M2 ?_ h2 (k1.trans k2)
      simp only [List.mem_cons, List.not_mem_nil, or_false] at hd2
      rcases hd2 with rfl | rfl | rfl | rfl | rfl | rfl | rfl
      all_goals first | exact ok_worth hd1 | exact ⟨by decide +kernel, by decide +kernel⟩
    · intro acc M8 ha hok h8 k8
      rw [el] at ha h8
      obtain ⟨a, b, rfl⟩ : ∃ a b, acc = [a, b] := by
        rcases acc with _ | ⟨a, _ | ⟨b, _ | ⟨c, r⟩⟩⟩ <;> first | (simp at ha; done) | exact ⟨a, b, rfl⟩
      have oa := hok a (.head _)
      have ob := hok b (.tail _ (.head _))
      simp [tupG, assignW]
      refine made_ok (by omega) ?_
      refine loopN_ok (lo := 0) (fun _ env M => ∃ z u v, env = [some (D.scr (List.map D.int ns)), some (D.ref p), some (D.lst (List.map D.str under)), some (D.int ↑i), some (D.lst (xs20 a b)), z, u, some a, some b, v] ∧ M = M8) ⟨_, _, _, rfl, rfl⟩ ?_ ?_
      · rintro j env M' hj ⟨z, u, v, rfl, rfl⟩
        obtain ⟨c, fs, e1, e2, e3⟩ := at20 (a := a) (b := b) hj
        have e4 := at_under hj
        simp [e1, e4, ← e3]
        refine classes_ok (by omega) ?_
        refine comp_pure (fF j) ?_ (by decide) ?_
        · intro d hd M' Q' E' q'
          obtain ⟨t, _, rfl⟩ := List.mem_map.mp hd
          simp [bodyC, wipeE]
          simpa [fF] using q'
        · rw [← same20 e2]
          have e5 : names.map (fun n => D.bl (decide (c.n = n))) = (names.map (fun n => decide (c.n = n))).map D.bl := by rw [List.map_map]; rfl
          rw [e5]
          refine eq_same pln_bls.1 pln_bls.2 ?_
          simp
          refine above_ok (by omega) ?_
          simp
      · rintro env M' ⟨z, u, v, rfl, rfl⟩
        have c1 : cutD (xs20 a b) none (some 14) = (xs20 a b).take 14 := rfl
        have c2 : cutD (xs20 a b) (some 15) (some 16) = ((xs20 a b).drop 15).take 1 := rfl
        have c3 : cutD (xs20 a b) (some 18) none = (xs20 a b).drop 18 := rfl
        have c4 : (xs20 a b).length = 20 := rfl
        have c5 : (xs20 a b).take 14 ++ (((xs20 a b).drop 15).take 1 ++ (xs20 a b).drop 18) = xs17 a b := by rw [xs17, List.append_assoc]
        simp [c1, c2, c3, c4, c5]
        refine ⟨by rw [show (xs17 a b).length = 17 from rfl]; decide, ?_⟩
        refine called_ok (by omega) ?_
        have hs : sz (.lst ([a, a, b] ++ List.replicate 15 a)) < 16777216 ∧ dp (.lst ([a, a, b] ++ List.replicate 15 a)) ≤ 25 := by
          have h1 := oa.1
          have h2 := ob.1
          have h3 := oa.2
          have h4 := ob.2
          simp only [List.replicate, List.cons_append, List.nil_append, sz, szL, dp, dpL]
          omega
        refine loop_ok (pre := []) (fun _ env M => ∃ u, env = [some (D.scr (List.map D.int ns)), some (D.ref p), some (D.lst (List.map D.str under)), some (D.int ↑i), some (D.lst (xs17 a b)), z, u, some a, some b, v] ∧ M = M') ⟨_, rfl, rfl⟩ ?_ ?_
        · rintro pre d post env M1 e ⟨u, rfl, rfl⟩
          have hd : d = .lst (xs17 a b) := by
            have : d ∈ [D.lst (xs17 a b), D.lst (xs17 a b)] := by
              rw [show [D.lst (xs17 a b), D.lst (xs17 a b)] = pre ++ d :: post from e]; simp
            simpa using this
          subst hd
          simp
          refine fields_ok (by omega) ?_
          refine repr_ok hs.1 hs.2 ?_
          simp [mulL_run, addL_run, sizeLine_eq]
          refine repr_ok hs.1 hs.2 ?_
          simp
        · rintro env M1 ⟨u, rfl, rfl⟩
          refine ⟨⟨_, _, _, _, _, _, _, rfl⟩, h8.mono (by omega)⟩
  · rintro env M ⟨x, y, z, u, v, w, r, rfl, h⟩
    simp
    exact q _
end
theorem law_true (ns : List Int) (hl : ns.length ≤ 63) : (run prog depth "law" [.scr (ns.map D.int)]).run (fun _ => none) (fun d _ => d = .bl true) (fun _ _ => False) :=
  run_to (law_ok (by decide) hl fun _ => rfl)
end Law

open PySem PySem.W PyProof.Rows
set_option maxRecDepth 100000 in
set_option maxHeartbeats 0 in
theorem PySem.Challenge.cw_websplit_k04_refusals_by_their_kinds_holds : PySem.Challenge.rw_websplit_k04_refusals_by_their_kinds.Holds := by
  w_on; o_law; k_head; (case hw => w_witness2)
  k_fill
  refine Mir.walkM (l := PySem.Challenge.rw_websplit_k04_refusals_by_their_kinds) (n := 63) (k := Law.depth) (x := "_law_script") (P := Law.prog) (df := Law.df_law) rfl (by decide) rfl ⟨rfl, by decide, by decide⟩ (by decide +kernel) (fun w h Y => PySem.W.kIn_of Y) ?S ?P rfl rfl Law.law_true
  case S => intro w; rfl
  case P =>
    intro w mg h KX G
    refine' Law.prog_ok KX G ?a__law_pen ?l__law_pen ?c__law_pen ?k__law_pen ?a__law_draw ?l__law_draw ?c__law_draw ?k__law_draw ?a__law_pick ?l__law_pick ?c__law_pick ?k__law_pick ?a__law_worth ?l__law_worth ?c__law_worth ?k__law_worth ?a__law_classes ?l__law_classes ?c__law_classes ?k__law_classes ?a__law_above ?l__law_above ?c__law_above ?k__law_above ?a__law_made ?l__law_made ?c__law_made ?k__law_made ?a__law_called ?l__law_called ?c__law_called ?k__law_called ?a__law_fields ?l__law_fields ?c__law_fields ?k__law_fields ?a_law ?l_law ?c_law ?k_law ?x_NoText ?x_NoBatch ?x_NoQuestion ?x_BadName ?x_NoRow ?x_NoKnot ?x_NoTie ?x_NoName ?x_Known ?x_NoMoment ?x_NoPlace ?x_Gone ?x_NoTuple ?x_Fell ?x_Busy ?x_Moving ?x_NoMove ?x_NoPlan ?x_Home ?x_TooLong ?v_0 ?v_1 ?v_2 ?v_3 ?v_4 ?v_5 ?v_6 ?z_len ?z_abs ?z_min ?z_max ?z_isinstance ?z_all ?z_any ?z_list ?z_tuple ?z_str ?z_int ?z_repr ?z_bool ?z_dict ?z_ValueError ?z_IndexError ?z_LookupError ?z_RuntimeError ?z_ArithmeticError ?z_OverflowError ?z_KeyError ?z_range
    (case a__law_pen => k_is)
    (case l__law_pen => k_is)
    (case c__law_pen => k_is)
    (case k__law_pen => k_is)
    (case a__law_draw => k_is)
    (case l__law_draw => k_is)
    (case c__law_draw => k_is)
    (case k__law_draw => k_is)
    (case a__law_pick => k_is)
    (case l__law_pick => k_is)
    (case c__law_pick => k_is)
    (case k__law_pick => k_is)
    (case a__law_worth => k_is)
    (case l__law_worth => k_is)
    (case c__law_worth => k_is)
    (case k__law_worth => k_is)
    (case a__law_classes => k_is)
    (case l__law_classes => k_is)
    (case c__law_classes => k_is)
    (case k__law_classes => k_is)
    (case a__law_above => k_is)
    (case l__law_above => k_is)
    (case c__law_above => k_is)
    (case k__law_above => k_is)
    (case a__law_made => k_is)
    (case l__law_made => k_is)
    (case c__law_made => k_is)
    (case k__law_made => k_is)
    (case a__law_called => k_is)
    (case l__law_called => k_is)
    (case c__law_called => k_is)
    (case k__law_called => k_is)
    (case a__law_fields => k_is)
    (case l__law_fields => k_is)
    (case c__law_fields => k_is)
    (case k__law_fields => k_is)
    (case a_law => k_is)
    (case l_law => k_is)
    (case c_law => k_is)
    (case k_law => k_is)
    (case x_NoText => (refine' Mir.XF.mk ?x_NoText_0 ?x_NoText_1 ?x_NoText_2 ?x_NoText_3 ?x_NoText_4 ?x_NoText_5 ?x_NoText_6 ?x_NoText_7 ?x_NoText_8 ?x_NoText_9 ?x_NoText_10 ?x_NoText_11 ?x_NoText_12 ?x_NoText_13 ?x_NoText_14 ?x_NoText_15 ⟨?x_NoText_f0, trivial⟩; (case x_NoText_0 => k_is); (case x_NoText_1 => k_is); (case x_NoText_2 => k_is); (case x_NoText_3 => k_is); (case x_NoText_4 => k_is); (case x_NoText_5 => k_is); (case x_NoText_6 => k_is); (case x_NoText_7 => k_is); (case x_NoText_8 => k_is); (case x_NoText_9 => k_is); (case x_NoText_10 => k_is); (case x_NoText_11 => k_is); (case x_NoText_12 => k_is); (case x_NoText_13 => k_is); (case x_NoText_14 => k_is); (case x_NoText_15 => k_is); (case x_NoText_f0 => (dsimp only; k_is))))
    (case x_NoBatch => (refine' Mir.XF.mk ?x_NoBatch_0 ?x_NoBatch_1 ?x_NoBatch_2 ?x_NoBatch_3 ?x_NoBatch_4 ?x_NoBatch_5 ?x_NoBatch_6 ?x_NoBatch_7 ?x_NoBatch_8 ?x_NoBatch_9 ?x_NoBatch_10 ?x_NoBatch_11 ?x_NoBatch_12 ?x_NoBatch_13 ?x_NoBatch_14 ?x_NoBatch_15 ⟨?x_NoBatch_f0, ?x_NoBatch_f1, trivial⟩; (case x_NoBatch_0 => k_is); (case x_NoBatch_1 => k_is); (case x_NoBatch_2 => k_is); (case x_NoBatch_3 => k_is); (case x_NoBatch_4 => k_is); (case x_NoBatch_5 => k_is); (case x_NoBatch_6 => k_is); (case x_NoBatch_7 => k_is); (case x_NoBatch_8 => k_is); (case x_NoBatch_9 => k_is); (case x_NoBatch_10 => k_is); (case x_NoBatch_11 => k_is); (case x_NoBatch_12 => k_is); (case x_NoBatch_13 => k_is); (case x_NoBatch_14 => k_is); (case x_NoBatch_15 => k_is); (case x_NoBatch_f0 => (dsimp only; k_is)); (case x_NoBatch_f1 => (dsimp only; k_is))))
    (case x_NoQuestion => (refine' Mir.XF.mk ?x_NoQuestion_0 ?x_NoQuestion_1 ?x_NoQuestion_2 ?x_NoQuestion_3 ?x_NoQuestion_4 ?x_NoQuestion_5 ?x_NoQuestion_6 ?x_NoQuestion_7 ?x_NoQuestion_8 ?x_NoQuestion_9 ?x_NoQuestion_10 ?x_NoQuestion_11 ?x_NoQuestion_12 ?x_NoQuestion_13 ?x_NoQuestion_14 ?x_NoQuestion_15 ⟨?x_NoQuestion_f0, trivial⟩; (case x_NoQuestion_0 => k_is); (case x_NoQuestion_1 => k_is); (case x_NoQuestion_2 => k_is); (case x_NoQuestion_3 => k_is); (case x_NoQuestion_4 => k_is); (case x_NoQuestion_5 => k_is); (case x_NoQuestion_6 => k_is); (case x_NoQuestion_7 => k_is); (case x_NoQuestion_8 => k_is); (case x_NoQuestion_9 => k_is); (case x_NoQuestion_10 => k_is); (case x_NoQuestion_11 => k_is); (case x_NoQuestion_12 => k_is); (case x_NoQuestion_13 => k_is); (case x_NoQuestion_14 => k_is); (case x_NoQuestion_15 => k_is); (case x_NoQuestion_f0 => (dsimp only; k_is))))
    (case x_BadName => (refine' Mir.XF.mk ?x_BadName_0 ?x_BadName_1 ?x_BadName_2 ?x_BadName_3 ?x_BadName_4 ?x_BadName_5 ?x_BadName_6 ?x_BadName_7 ?x_BadName_8 ?x_BadName_9 ?x_BadName_10 ?x_BadName_11 ?x_BadName_12 ?x_BadName_13 ?x_BadName_14 ?x_BadName_15 ⟨?x_BadName_f0, trivial⟩; (case x_BadName_0 => k_is); (case x_BadName_1 => k_is); (case x_BadName_2 => k_is); (case x_BadName_3 => k_is); (case x_BadName_4 => k_is); (case x_BadName_5 => k_is); (case x_BadName_6 => k_is); (case x_BadName_7 => k_is); (case x_BadName_8 => k_is); (case x_BadName_9 => k_is); (case x_BadName_10 => k_is); (case x_BadName_11 => k_is); (case x_BadName_12 => k_is); (case x_BadName_13 => k_is); (case x_BadName_14 => k_is); (case x_BadName_15 => k_is); (case x_BadName_f0 => (dsimp only; k_is))))
    (case x_NoRow => (refine' Mir.XF.mk ?x_NoRow_0 ?x_NoRow_1 ?x_NoRow_2 ?x_NoRow_3 ?x_NoRow_4 ?x_NoRow_5 ?x_NoRow_6 ?x_NoRow_7 ?x_NoRow_8 ?x_NoRow_9 ?x_NoRow_10 ?x_NoRow_11 ?x_NoRow_12 ?x_NoRow_13 ?x_NoRow_14 ?x_NoRow_15 ⟨?x_NoRow_f0, trivial⟩; (case x_NoRow_0 => k_is); (case x_NoRow_1 => k_is); (case x_NoRow_2 => k_is); (case x_NoRow_3 => k_is); (case x_NoRow_4 => k_is); (case x_NoRow_5 => k_is); (case x_NoRow_6 => k_is); (case x_NoRow_7 => k_is); (case x_NoRow_8 => k_is); (case x_NoRow_9 => k_is); (case x_NoRow_10 => k_is); (case x_NoRow_11 => k_is); (case x_NoRow_12 => k_is); (case x_NoRow_13 => k_is); (case x_NoRow_14 => k_is); (case x_NoRow_15 => k_is); (case x_NoRow_f0 => (dsimp only; k_is))))
    (case x_NoKnot => (refine' Mir.XF.mk ?x_NoKnot_0 ?x_NoKnot_1 ?x_NoKnot_2 ?x_NoKnot_3 ?x_NoKnot_4 ?x_NoKnot_5 ?x_NoKnot_6 ?x_NoKnot_7 ?x_NoKnot_8 ?x_NoKnot_9 ?x_NoKnot_10 ?x_NoKnot_11 ?x_NoKnot_12 ?x_NoKnot_13 ?x_NoKnot_14 ?x_NoKnot_15 ⟨?x_NoKnot_f0, trivial⟩; (case x_NoKnot_0 => k_is); (case x_NoKnot_1 => k_is); (case x_NoKnot_2 => k_is); (case x_NoKnot_3 => k_is); (case x_NoKnot_4 => k_is); (case x_NoKnot_5 => k_is); (case x_NoKnot_6 => k_is); (case x_NoKnot_7 => k_is); (case x_NoKnot_8 => k_is); (case x_NoKnot_9 => k_is); (case x_NoKnot_10 => k_is); (case x_NoKnot_11 => k_is); (case x_NoKnot_12 => k_is); (case x_NoKnot_13 => k_is); (case x_NoKnot_14 => k_is); (case x_NoKnot_15 => k_is); (case x_NoKnot_f0 => (dsimp only; k_is))))
    (case x_NoTie => (refine' Mir.XF.mk ?x_NoTie_0 ?x_NoTie_1 ?x_NoTie_2 ?x_NoTie_3 ?x_NoTie_4 ?x_NoTie_5 ?x_NoTie_6 ?x_NoTie_7 ?x_NoTie_8 ?x_NoTie_9 ?x_NoTie_10 ?x_NoTie_11 ?x_NoTie_12 ?x_NoTie_13 ?x_NoTie_14 ?x_NoTie_15 ⟨?x_NoTie_f0, trivial⟩; (case x_NoTie_0 => k_is); (case x_NoTie_1 => k_is); (case x_NoTie_2 => k_is); (case x_NoTie_3 => k_is); (case x_NoTie_4 => k_is); (case x_NoTie_5 => k_is); (case x_NoTie_6 => k_is); (case x_NoTie_7 => k_is); (case x_NoTie_8 => k_is); (case x_NoTie_9 => k_is); (case x_NoTie_10 => k_is); (case x_NoTie_11 => k_is); (case x_NoTie_12 => k_is); (case x_NoTie_13 => k_is); (case x_NoTie_14 => k_is); (case x_NoTie_15 => k_is); (case x_NoTie_f0 => (dsimp only; k_is))))
    (case x_NoName => (refine' Mir.XF.mk ?x_NoName_0 ?x_NoName_1 ?x_NoName_2 ?x_NoName_3 ?x_NoName_4 ?x_NoName_5 ?x_NoName_6 ?x_NoName_7 ?x_NoName_8 ?x_NoName_9 ?x_NoName_10 ?x_NoName_11 ?x_NoName_12 ?x_NoName_13 ?x_NoName_14 ?x_NoName_15 ⟨?x_NoName_f0, trivial⟩; (case x_NoName_0 => k_is); (case x_NoName_1 => k_is); (case x_NoName_2 => k_is); (case x_NoName_3 => k_is); (case x_NoName_4 => k_is); (case x_NoName_5 => k_is); (case x_NoName_6 => k_is); (case x_NoName_7 => k_is); (case x_NoName_8 => k_is); (case x_NoName_9 => k_is); (case x_NoName_10 => k_is); (case x_NoName_11 => k_is); (case x_NoName_12 => k_is); (case x_NoName_13 => k_is); (case x_NoName_14 => k_is); (case x_NoName_15 => k_is); (case x_NoName_f0 => (dsimp only; k_is))))
    (case x_Known => (refine' Mir.XF.mk ?x_Known_0 ?x_Known_1 ?x_Known_2 ?x_Known_3 ?x_Known_4 ?x_Known_5 ?x_Known_6 ?x_Known_7 ?x_Known_8 ?x_Known_9 ?x_Known_10 ?x_Known_11 ?x_Known_12 ?x_Known_13 ?x_Known_14 ?x_Known_15 ⟨?x_Known_f0, trivial⟩; (case x_Known_0 => k_is); (case x_Known_1 => k_is); (case x_Known_2 => k_is); (case x_Known_3 => k_is); (case x_Known_4 => k_is); (case x_Known_5 => k_is); (case x_Known_6 => k_is); (case x_Known_7 => k_is); (case x_Known_8 => k_is); (case x_Known_9 => k_is); (case x_Known_10 => k_is); (case x_Known_11 => k_is); (case x_Known_12 => k_is); (case x_Known_13 => k_is); (case x_Known_14 => k_is); (case x_Known_15 => k_is); (case x_Known_f0 => (dsimp only; k_is))))
    (case x_NoMoment => (refine' Mir.XF.mk ?x_NoMoment_0 ?x_NoMoment_1 ?x_NoMoment_2 ?x_NoMoment_3 ?x_NoMoment_4 ?x_NoMoment_5 ?x_NoMoment_6 ?x_NoMoment_7 ?x_NoMoment_8 ?x_NoMoment_9 ?x_NoMoment_10 ?x_NoMoment_11 ?x_NoMoment_12 ?x_NoMoment_13 ?x_NoMoment_14 ?x_NoMoment_15 ⟨?x_NoMoment_f0, trivial⟩; (case x_NoMoment_0 => k_is); (case x_NoMoment_1 => k_is); (case x_NoMoment_2 => k_is); (case x_NoMoment_3 => k_is); (case x_NoMoment_4 => k_is); (case x_NoMoment_5 => k_is); (case x_NoMoment_6 => k_is); (case x_NoMoment_7 => k_is); (case x_NoMoment_8 => k_is); (case x_NoMoment_9 => k_is); (case x_NoMoment_10 => k_is); (case x_NoMoment_11 => k_is); (case x_NoMoment_12 => k_is); (case x_NoMoment_13 => k_is); (case x_NoMoment_14 => k_is); (case x_NoMoment_15 => k_is); (case x_NoMoment_f0 => (dsimp only; k_is))))
    (case x_NoPlace => (refine' Mir.XF.mk ?x_NoPlace_0 ?x_NoPlace_1 ?x_NoPlace_2 ?x_NoPlace_3 ?x_NoPlace_4 ?x_NoPlace_5 ?x_NoPlace_6 ?x_NoPlace_7 ?x_NoPlace_8 ?x_NoPlace_9 ?x_NoPlace_10 ?x_NoPlace_11 ?x_NoPlace_12 ?x_NoPlace_13 ?x_NoPlace_14 ?x_NoPlace_15 ⟨?x_NoPlace_f0, trivial⟩; (case x_NoPlace_0 => k_is); (case x_NoPlace_1 => k_is); (case x_NoPlace_2 => k_is); (case x_NoPlace_3 => k_is); (case x_NoPlace_4 => k_is); (case x_NoPlace_5 => k_is); (case x_NoPlace_6 => k_is); (case x_NoPlace_7 => k_is); (case x_NoPlace_8 => k_is); (case x_NoPlace_9 => k_is); (case x_NoPlace_10 => k_is); (case x_NoPlace_11 => k_is); (case x_NoPlace_12 => k_is); (case x_NoPlace_13 => k_is); (case x_NoPlace_14 => k_is); (case x_NoPlace_15 => k_is); (case x_NoPlace_f0 => (dsimp only; k_is))))
    (case x_Gone => (refine' Mir.XF.mk ?x_Gone_0 ?x_Gone_1 ?x_Gone_2 ?x_Gone_3 ?x_Gone_4 ?x_Gone_5 ?x_Gone_6 ?x_Gone_7 ?x_Gone_8 ?x_Gone_9 ?x_Gone_10 ?x_Gone_11 ?x_Gone_12 ?x_Gone_13 ?x_Gone_14 ?x_Gone_15 ⟨?x_Gone_f0, trivial⟩; (case x_Gone_0 => k_is); (case x_Gone_1 => k_is); (case x_Gone_2 => k_is); (case x_Gone_3 => k_is); (case x_Gone_4 => k_is); (case x_Gone_5 => k_is); (case x_Gone_6 => k_is); (case x_Gone_7 => k_is); (case x_Gone_8 => k_is); (case x_Gone_9 => k_is); (case x_Gone_10 => k_is); (case x_Gone_11 => k_is); (case x_Gone_12 => k_is); (case x_Gone_13 => k_is); (case x_Gone_14 => k_is); (case x_Gone_15 => k_is); (case x_Gone_f0 => (dsimp only; k_is))))
    (case x_NoTuple => (refine' Mir.XF.mk ?x_NoTuple_0 ?x_NoTuple_1 ?x_NoTuple_2 ?x_NoTuple_3 ?x_NoTuple_4 ?x_NoTuple_5 ?x_NoTuple_6 ?x_NoTuple_7 ?x_NoTuple_8 ?x_NoTuple_9 ?x_NoTuple_10 ?x_NoTuple_11 ?x_NoTuple_12 ?x_NoTuple_13 ?x_NoTuple_14 ?x_NoTuple_15 ⟨?x_NoTuple_f0, trivial⟩; (case x_NoTuple_0 => k_is); (case x_NoTuple_1 => k_is); (case x_NoTuple_2 => k_is); (case x_NoTuple_3 => k_is); (case x_NoTuple_4 => k_is); (case x_NoTuple_5 => k_is); (case x_NoTuple_6 => k_is); (case x_NoTuple_7 => k_is); (case x_NoTuple_8 => k_is); (case x_NoTuple_9 => k_is); (case x_NoTuple_10 => k_is); (case x_NoTuple_11 => k_is); (case x_NoTuple_12 => k_is); (case x_NoTuple_13 => k_is); (case x_NoTuple_14 => k_is); (case x_NoTuple_15 => k_is); (case x_NoTuple_f0 => (dsimp only; k_is))))
    (case x_Fell => (refine' Mir.XF.mk ?x_Fell_0 ?x_Fell_1 ?x_Fell_2 ?x_Fell_3 ?x_Fell_4 ?x_Fell_5 ?x_Fell_6 ?x_Fell_7 ?x_Fell_8 ?x_Fell_9 ?x_Fell_10 ?x_Fell_11 ?x_Fell_12 ?x_Fell_13 ?x_Fell_14 ?x_Fell_15 ⟨?x_Fell_f0, trivial⟩; (case x_Fell_0 => k_is); (case x_Fell_1 => k_is); (case x_Fell_2 => k_is); (case x_Fell_3 => k_is); (case x_Fell_4 => k_is); (case x_Fell_5 => k_is); (case x_Fell_6 => k_is); (case x_Fell_7 => k_is); (case x_Fell_8 => k_is); (case x_Fell_9 => k_is); (case x_Fell_10 => k_is); (case x_Fell_11 => k_is); (case x_Fell_12 => k_is); (case x_Fell_13 => k_is); (case x_Fell_14 => k_is); (case x_Fell_15 => k_is); (case x_Fell_f0 => (dsimp only; k_is))))
    (case x_Busy => (refine' Mir.XF.mk ?x_Busy_0 ?x_Busy_1 ?x_Busy_2 ?x_Busy_3 ?x_Busy_4 ?x_Busy_5 ?x_Busy_6 ?x_Busy_7 ?x_Busy_8 ?x_Busy_9 ?x_Busy_10 ?x_Busy_11 ?x_Busy_12 ?x_Busy_13 ?x_Busy_14 ?x_Busy_15 trivial; (case x_Busy_0 => k_is); (case x_Busy_1 => k_is); (case x_Busy_2 => k_is); (case x_Busy_3 => k_is); (case x_Busy_4 => k_is); (case x_Busy_5 => k_is); (case x_Busy_6 => k_is); (case x_Busy_7 => k_is); (case x_Busy_8 => k_is); (case x_Busy_9 => k_is); (case x_Busy_10 => k_is); (case x_Busy_11 => k_is); (case x_Busy_12 => k_is); (case x_Busy_13 => k_is); (case x_Busy_14 => k_is); (case x_Busy_15 => k_is)))
    (case x_Moving => (refine' Mir.XF.mk ?x_Moving_0 ?x_Moving_1 ?x_Moving_2 ?x_Moving_3 ?x_Moving_4 ?x_Moving_5 ?x_Moving_6 ?x_Moving_7 ?x_Moving_8 ?x_Moving_9 ?x_Moving_10 ?x_Moving_11 ?x_Moving_12 ?x_Moving_13 ?x_Moving_14 ?x_Moving_15 ⟨?x_Moving_f0, trivial⟩; (case x_Moving_0 => k_is); (case x_Moving_1 => k_is); (case x_Moving_2 => k_is); (case x_Moving_3 => k_is); (case x_Moving_4 => k_is); (case x_Moving_5 => k_is); (case x_Moving_6 => k_is); (case x_Moving_7 => k_is); (case x_Moving_8 => k_is); (case x_Moving_9 => k_is); (case x_Moving_10 => k_is); (case x_Moving_11 => k_is); (case x_Moving_12 => k_is); (case x_Moving_13 => k_is); (case x_Moving_14 => k_is); (case x_Moving_15 => k_is); (case x_Moving_f0 => (dsimp only; k_is))))
    (case x_NoMove => (refine' Mir.XF.mk ?x_NoMove_0 ?x_NoMove_1 ?x_NoMove_2 ?x_NoMove_3 ?x_NoMove_4 ?x_NoMove_5 ?x_NoMove_6 ?x_NoMove_7 ?x_NoMove_8 ?x_NoMove_9 ?x_NoMove_10 ?x_NoMove_11 ?x_NoMove_12 ?x_NoMove_13 ?x_NoMove_14 ?x_NoMove_15 trivial; (case x_NoMove_0 => k_is); (case x_NoMove_1 => k_is); (case x_NoMove_2 => k_is); (case x_NoMove_3 => k_is); (case x_NoMove_4 => k_is); (case x_NoMove_5 => k_is); (case x_NoMove_6 => k_is); (case x_NoMove_7 => k_is); (case x_NoMove_8 => k_is); (case x_NoMove_9 => k_is); (case x_NoMove_10 => k_is); (case x_NoMove_11 => k_is); (case x_NoMove_12 => k_is); (case x_NoMove_13 => k_is); (case x_NoMove_14 => k_is); (case x_NoMove_15 => k_is)))
    (case x_NoPlan => (refine' Mir.XF.mk ?x_NoPlan_0 ?x_NoPlan_1 ?x_NoPlan_2 ?x_NoPlan_3 ?x_NoPlan_4 ?x_NoPlan_5 ?x_NoPlan_6 ?x_NoPlan_7 ?x_NoPlan_8 ?x_NoPlan_9 ?x_NoPlan_10 ?x_NoPlan_11 ?x_NoPlan_12 ?x_NoPlan_13 ?x_NoPlan_14 ?x_NoPlan_15 trivial; (case x_NoPlan_0 => k_is); (case x_NoPlan_1 => k_is); (case x_NoPlan_2 => k_is); (case x_NoPlan_3 => k_is); (case x_NoPlan_4 => k_is); (case x_NoPlan_5 => k_is); (case x_NoPlan_6 => k_is); (case x_NoPlan_7 => k_is); (case x_NoPlan_8 => k_is); (case x_NoPlan_9 => k_is); (case x_NoPlan_10 => k_is); (case x_NoPlan_11 => k_is); (case x_NoPlan_12 => k_is); (case x_NoPlan_13 => k_is); (case x_NoPlan_14 => k_is); (case x_NoPlan_15 => k_is)))
    (case x_Home => (refine' Mir.XF.mk ?x_Home_0 ?x_Home_1 ?x_Home_2 ?x_Home_3 ?x_Home_4 ?x_Home_5 ?x_Home_6 ?x_Home_7 ?x_Home_8 ?x_Home_9 ?x_Home_10 ?x_Home_11 ?x_Home_12 ?x_Home_13 ?x_Home_14 ?x_Home_15 ⟨?x_Home_f0, trivial⟩; (case x_Home_0 => k_is); (case x_Home_1 => k_is); (case x_Home_2 => k_is); (case x_Home_3 => k_is); (case x_Home_4 => k_is); (case x_Home_5 => k_is); (case x_Home_6 => k_is); (case x_Home_7 => k_is); (case x_Home_8 => k_is); (case x_Home_9 => k_is); (case x_Home_10 => k_is); (case x_Home_11 => k_is); (case x_Home_12 => k_is); (case x_Home_13 => k_is); (case x_Home_14 => k_is); (case x_Home_15 => k_is); (case x_Home_f0 => (dsimp only; k_is))))
    (case x_TooLong => (refine' Mir.XF.mk ?x_TooLong_0 ?x_TooLong_1 ?x_TooLong_2 ?x_TooLong_3 ?x_TooLong_4 ?x_TooLong_5 ?x_TooLong_6 ?x_TooLong_7 ?x_TooLong_8 ?x_TooLong_9 ?x_TooLong_10 ?x_TooLong_11 ?x_TooLong_12 ?x_TooLong_13 ?x_TooLong_14 ?x_TooLong_15 ⟨?x_TooLong_f0, trivial⟩; (case x_TooLong_0 => k_is); (case x_TooLong_1 => k_is); (case x_TooLong_2 => k_is); (case x_TooLong_3 => k_is); (case x_TooLong_4 => k_is); (case x_TooLong_5 => k_is); (case x_TooLong_6 => k_is); (case x_TooLong_7 => k_is); (case x_TooLong_8 => k_is); (case x_TooLong_9 => k_is); (case x_TooLong_10 => k_is); (case x_TooLong_11 => k_is); (case x_TooLong_12 => k_is); (case x_TooLong_13 => k_is); (case x_TooLong_14 => k_is); (case x_TooLong_15 => k_is); (case x_TooLong_f0 => (dsimp only; k_is))))
    (case v_0 => k_is)
    (case v_1 => k_is)
    (case v_2 => k_is)
    (case v_3 => k_is)
    (case v_4 => k_is)
    (case v_5 => k_is)
    (case v_6 => k_is)
    (case z_len => k_is)
    (case z_abs => k_is)
    (case z_min => k_is)
    (case z_max => k_is)
    (case z_isinstance => k_is)
    (case z_all => k_is)
    (case z_any => k_is)
    (case z_list => k_is)
    (case z_tuple => k_is)
    (case z_str => k_is)
    (case z_int => k_is)
    (case z_repr => k_is)
    (case z_bool => k_is)
    (case z_dict => k_is)
    (case z_ValueError => k_is)
    (case z_IndexError => k_is)
    (case z_LookupError => k_is)
    (case z_RuntimeError => k_is)
    (case z_ArithmeticError => k_is)
    (case z_OverflowError => k_is)
    (case z_KeyError => k_is)
    (case z_range => k_is)
