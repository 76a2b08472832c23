import PyProof.Rows.All
import Wide.All
import OpenK.AllK
import Wide.FinOn
import KE.KStateDown
import KE.HD4
import KE.KExcInit
import Open.SpecLaws
import KE.OsGo
import HandS.ForSpec
import HandS.TryMany
import HandS.Defaults
import HandS.HeadHook1
import HandS.HeadHook2
import HandS.Comp
import HandS.Dict
import HandS.Iter
import HandS.Zip
import HandS.Style
import HandS.TupAny
import HandS.WideMore
import HandS.SortInts
import HandS.Text
import HandS.Evl
import HandS.Steps
import HandS.ExcSuper
import HandS.ExcCtx
import HandS.Hot
import HandS.HotCalls
import HandS.Walk
import PySem.Challenge.RW_forgetfuldoor_s01_answers
set_option Elab.async false
set_option linter.all false
set_option maxRecDepth 100000
set_option maxHeartbeats 4000000
namespace Dk
open PySem PySem.Spec PyProof.Rows L2
abbrev R : PySem.W.OpenSpec := PySem.Challenge.rw_forgetfuldoor_s01_answers
def top (i : Nat) : Stmt := PySem.Challenge.pw_forgetfuldoor_s01_answers.main.body.getD i (.Pass ⟨0, 0, 0, 0⟩)
def dfd (p : Str × Option Str) (n q : Str) (s : Stmt) : He.DefD := ⟨p, n, q, defArgs s, defBody s, defScope s, [], []⟩
def faL0 : List He.Fa := [.glo "class_of", .glo "best_table", .glo "fold", .glo "mix", .glo "hidden", .glo "shown", .glo "need_kind", .glo "need_range", .glo "octets_of", .glo "text", .glo "integer", .glo "boolean", .glo "row", .glo "record", .glo "number_octets", .glo "value_octets", .glo "refusal_octets", .glo "number_in", .glo "is_list", .glo "are_numbers", .glo "numbers_of", .glo "number_for", .glo "table_of", .glo "address_of", .glo "knocker", .glo "door_of", .glo "number_or_null", .glo "numbers_record", .glo "state_of", .glo "on_tables"]
def faL1 : List He.Fa := [.glo "on_door", .glo "on_field", .glo "next_of", .glo "reply", .glo "answers", .glo "NOTHING", .glo "NULL", .free "all", .free "any", .free "enumerate", .free "len", .free "list", .free "max", .free "ord", .free "range", .free "sorted", .free "str", .free "tuple", .free "zip", .int "HALF" 16384, .int "WHOLE" 268435456, .int "ROUNDS" 4, .int "NUMBERS" 4096, .int "CLASSES" 8, .int "TICKET" 7, .int "WRONG_KIND" 1, .int "OUT_OF_RANGE" 2, .int "MOST_ARGUMENTS" 4, .int "MOST_OFFER" 65535, .int "MOST_ANSWER" 9007199254740991]
def faL2 : List He.Fa := [.glo "Knock", .cls "Knock", .mkr "Knock", .noat "Knock" "address", .noat "Knock" "number", .noat "Knock" "offer", .noat "Knock" "period", .noat "Knock" "answer", .meth "Knock" "is_by", .glo "Saying", .cls "Saying", .mkr "Saying", .noat "Saying" "period", .noat "Saying" "address", .noat "Saying" "number", .noat "Saying" "place", .glo "Door", .cls "Door", .mkr "Door", .noat "Door" "capacity", .noat "Door" "secret", .noat "Door" "table", .noat "Door" "period", .noat "Door" "remembered", .noat "Door" "connections", .noat "Door" "records", .noat "Door" "tickets", .meth "Door" "key", .meth "Door" "code", .meth "Door" "ticket"]
def faL3 : List He.Fa := [.meth "Door" "read", .meth "Door" "is_connected", .meth "Door" "has_record", .meth "Door" "knock", .meth "Door" "offer_of", .meth "Door" "back", .meth "Door" "close", .meth "Door" "go_on", .glo "Field", .cls "Field", .mkr "Field", .noat "Field" "door", .noat "Field" "letters", .meth "Field" "knock", .meth "Field" "back", .glo "Walk", .cls "Walk", .mkr "Walk", .noat "Walk" "field", .noat "Walk" "at", .noat "Walk" "has_ended", .meth "Walk" "next_letter", .glo "Refused", .noat "Refused" "kind", .noat "Refused" "message", .glo "Request", .cls "Request", .mkr "Request", .noat "Request" "octets", .noat "Request" "at"]
def faL4 : List He.Fa := [.meth "Request" "take", .meth "Request" "give_number", .meth "Request" "value", .meth "Request" "call", .glo "Desk", .cls "Desk", .mkr "Desk", .noat "Desk" "doors", .noat "Desk" "fields", .noat "Desk" "walks", .meth "Desk" "on_walk", .meth "Desk" "give_answer"]
def faL : List He.Fa := faL0 ++ faL1 ++ faL2 ++ faL3 ++ faL4
def fnL0 : List He.DefD := [dfd ("class_of", none) "class_of" "class_of" (top 1), dfd ("best_table", none) "best_table" "best_table" (top 2), dfd ("fold", none) "fold" "fold" (top 10), dfd ("mix", none) "mix" "mix" (top 11), dfd ("hidden", none) "hidden" "hidden" (top 12), dfd ("shown", none) "shown" "shown" (top 13), dfd ("need_kind", none) "need_kind" "need_kind" (top 25), dfd ("need_range", none) "need_range" "need_range" (top 26), dfd ("octets_of", none) "octets_of" "octets_of" (top 27), dfd ("text", none) "text" "text" (top 28), dfd ("integer", none) "integer" "integer" (top 29), dfd ("boolean", none) "boolean" "boolean" (top 30), dfd ("row", none) "row" "row" (top 31), dfd ("record", none) "record" "record" (top 32), dfd ("number_octets", none) "number_octets" "number_octets" (top 34), dfd ("value_octets", none) "value_octets" "value_octets" (top 35), dfd ("refusal_octets", none) "refusal_octets" "refusal_octets" (top 36), dfd ("number_in", none) "number_in" "number_in" (top 37), dfd ("is_list", none) "is_list" "is_list" (top 38), dfd ("are_numbers", none) "are_numbers" "are_numbers" (top 39), dfd ("numbers_of", none) "numbers_of" "numbers_of" (top 40), dfd ("number_for", none) "number_for" "number_for" (top 45), dfd ("table_of", none) "table_of" "table_of" (top 46), dfd ("address_of", none) "address_of" "address_of" (top 47), dfd ("knocker", none) "knocker" "knocker" (top 48), dfd ("door_of", none) "door_of" "door_of" (top 49), dfd ("number_or_null", none) "number_or_null" "number_or_null" (top 50), dfd ("numbers_record", none) "numbers_record" "numbers_record" (top 51), dfd ("state_of", none) "state_of" "state_of" (top 52), dfd ("on_tables", none) "on_tables" "on_tables" (top 53)]
def fnL1 : List He.DefD := [dfd ("on_door", none) "on_door" "on_door" (top 54), dfd ("on_field", none) "on_field" "on_field" (top 55), dfd ("next_of", none) "next_of" "next_of" (top 56), dfd ("reply", none) "reply" "reply" (top 58), dfd ("answers", none) "answers" "answers" (top 59), dfd ("Knock", some "__init__") "__init__" "Knock.__init__" (inClass (top 14) 0), dfd ("Knock", some "is_by") "is_by" "Knock.is_by" (inClass (top 14) 1), dfd ("Saying", some "__init__") "__init__" "Saying.__init__" (inClass (top 15) 0), dfd ("Door", some "__init__") "__init__" "Door.__init__" (inClass (top 16) 0), dfd ("Door", some "key") "key" "Door.key" (inClass (top 16) 1), dfd ("Door", some "code") "code" "Door.code" (inClass (top 16) 2), dfd ("Door", some "ticket") "ticket" "Door.ticket" (inClass (top 16) 3), dfd ("Door", some "read") "read" "Door.read" (inClass (top 16) 4), dfd ("Door", some "is_connected") "is_connected" "Door.is_connected" (inClass (top 16) 5), dfd ("Door", some "has_record") "has_record" "Door.has_record" (inClass (top 16) 6), dfd ("Door", some "knock") "knock" "Door.knock" (inClass (top 16) 7), dfd ("Door", some "offer_of") "offer_of" "Door.offer_of" (inClass (top 16) 8), dfd ("Door", some "back") "back" "Door.back" (inClass (top 16) 9), dfd ("Door", some "close") "close" "Door.close" (inClass (top 16) 10), dfd ("Door", some "go_on") "go_on" "Door.go_on" (inClass (top 16) 11), dfd ("Field", some "__init__") "__init__" "Field.__init__" (inClass (top 17) 0), dfd ("Field", some "knock") "knock" "Field.knock" (inClass (top 17) 1), dfd ("Field", some "back") "back" "Field.back" (inClass (top 17) 2), dfd ("Walk", some "__init__") "__init__" "Walk.__init__" (inClass (top 18) 0), dfd ("Walk", some "next_letter") "next_letter" "Walk.next_letter" (inClass (top 18) 1), dfd ("Refused", some "__init__") "__init__" "Refused.__init__" (inClass (top 24) 0), dfd ("Request", some "__init__") "__init__" "Request.__init__" (inClass (top 33) 0), dfd ("Request", some "take") "take" "Request.take" (inClass (top 33) 1), dfd ("Request", some "give_number") "give_number" "Request.give_number" (inClass (top 33) 2), dfd ("Request", some "value") "value" "Request.value" (inClass (top 33) 3)]
def fnL2 : List He.DefD := [dfd ("Request", some "call") "call" "Request.call" (inClass (top 33) 4), dfd ("Desk", some "__init__") "__init__" "Desk.__init__" (inClass (top 57) 0), dfd ("Desk", some "on_walk") "on_walk" "Desk.on_walk" (inClass (top 57) 1), dfd ("Desk", some "give_answer") "give_answer" "Desk.give_answer" (inClass (top 57) 2)]
def fnL : List He.DefD := fnL0 ++ fnL1 ++ fnL2
def looseL0 : List Str := ["class_of", "best_table", "HALF", "WHOLE", "ROUNDS", "NUMBERS", "CLASSES", "TICKET", "fold", "mix", "hidden", "shown", "Knock", "Saying", "Door", "Field", "Walk", "NOTHING", "NULL", "WRONG_KIND", "OUT_OF_RANGE", "Refused", "need_kind", "need_range", "octets_of", "text", "integer", "boolean", "row", "record"]
def looseL1 : List Str := ["Request", "number_octets", "value_octets", "refusal_octets", "number_in", "is_list", "are_numbers", "numbers_of", "MOST_ARGUMENTS", "MOST_OFFER", "MOST_ANSWER", "number_for", "table_of", "address_of", "knocker", "door_of", "number_or_null", "numbers_record", "state_of", "on_tables", "on_door", "on_field", "next_of", "Desk", "reply"]
def looseL : List Str := looseL0 ++ looseL1

/-- the error's class as the text has it: plain over Exception, with a dict -/
def rfB (K : PySem.W.Frag) (C : Addr) : Bool := match K.lookup C with
  | some ⟨.type "type", _, .cls cd, sl⟩ => (match cd.mro, sl.toList with
    | .ref A :: bm, [_, _, _, _, some (.builtin n), _] => A == C && bm == [.type "Exception", .type "BaseException", .type "object"] && n == "Exception.__new__" && !cd.hasDel && cd.hasDict
    | _, _ => false)
  | _ => false
def rfA (K : PySem.W.Frag) : Addr := He.ga K "Refused"
def rfI (K : PySem.W.Frag) : Addr := He.ma K (He.ga K "Refused") "__init__"
/-- what the text says besides: the two written tuples, the error's class -/
def exL (K : PySem.W.Frag) : List Bool :=
  [He.tupB K "NOTHING" [.str "nothing"], He.tupB K "NULL" [.str "null"], rfB K (rfA K),
   He.eqO (PySem.W.findIn K (.ref (rfA K)) "__setattr__") (some (some (.builtin "object.__setattr__"))),
   He.eqO (PySem.W.findIn K (.ref (rfA K)) "__getattribute__") (some (some (.builtin "BaseException.__getattribute__"))),
   He.eqO (PySem.W.findIn K (.ref (rfA K)) "__getattr__") (some none),
   He.eqO (PySem.W.findIn K (.ref (rfA K)) "__init__") (some (some (.ref (rfI K)))),
   decide (PySem.W.typeIn K (.ref (rfI K)) = some (.type "function")),
   PySem.W.keepIn K (.ref (rfA K)),
   decide (PySem.W.subIn K (.ref (rfA K)) (.type "BaseException") = some true),
   decide (PySem.W.typeIn K (.ref (rfA K)) = some (.type "type")),
   PySem.W.hasDictIn K (rfA K),
   decide (PySem.W.exmOne K (.ref (rfA K)) (.ref (rfA K)) = some true)]
def exB (K : PySem.W.Frag) : Bool := (exL K).all id
def obsM (K : PySem.W.Frag) : He.AlD × Bool := (He.obsD faL fnL K, exB K)
def obsMG (n : Nat) (g : Addr → Option Obj) : He.AlD × Bool := obsM (He.frG g (He.asD g n))
def hkM (n : Nat) : PySem.W.Hook where
  α := He.AlD × Bool
  obs := fun s => obsMG n s.heap.get?
  val := fun _ => (He.valD fnL, true)
  says := fun _ h => ∃ K : PySem.W.Frag, K.In h ∧ He.SaysD faL fnL K ∧ exB K = true
  of := fun _ _ e => ⟨_, He.frG_in, congrArg Prod.fst e, congrArg Prod.snd e⟩
  keeps := fun _ _ _ ⟨K, hK, c⟩ k => ⟨K, PySem.W.Frag.In.keeps hK k, c⟩
def obM (n : Nat) (s : PySem.W.SharedT) : He.AlD × Bool := obsMG n (HeadRun.getT s)
theorem obM_eq (n : Nat) (s : PySem.W.SharedT) : obM n s = (hkM n).obs s.abs := by
  have e : HeadRun.getT s = s.abs.heap.get? := funext fun a => HeadRun.getT_eq s a
  show obsMG n (HeadRun.getT s) = obsMG n s.abs.heap.get?
  rw [e]
theorem run (w : World) : HeadRun.RunEqS R (PySem.W.view R.prog [59]) (hkM 5) (obM 5) 8000 looseL w := by
  intro os
  kernel_rfl
end Dk
namespace Dk
open PySem PySem.Spec PyProof.Rows L2 Evl RZ
/-! ### what the text says -/
structure Tx (K : PySem.W.Frag) (mg : Str → Option Value) : Prop where
  h : ∃ h : Heap, K.In h ∧ h.Ns mainGlobals mg
  s : He.SaysD faL fnL K
  x : exB K = true
abbrev cA (K : PySem.W.Frag) (x : Str) : Addr := He.ga K x
section
variable {K : PySem.W.Frag} {mg : Str → Option Value}
theorem Tx.glo (T : Tx K mg) (i : Nat) {x : Str} (h : faL[i]? = some (.glo x) := by rfl) : mg x = some (.ref (cA K x)) := let ⟨_, X, G⟩ := T.h; He.glo_ok X G (T.s.fact i h)
theorem Tx.free (T : Tx K mg) (i : Nat) {x : Str} (h : faL[i]? = some (.free x) := by rfl) : mg x = none := let ⟨_, X, G⟩ := T.h; He.free_ok X G (T.s.fact i h)
theorem Tx.int (T : Tx K mg) (i : Nat) {x : Str} {n : Int} (h : faL[i]? = some (.int x n) := by rfl) : ∃ t, mg x = some (.int n t) := let ⟨_, X, G⟩ := T.h; He.int_ok X G (T.s.fact i h)
theorem Tx.cls (T : Tx K mg) (i : Nat) {x : Str} (h : faL[i]? = some (.cls x) := by rfl) : Cls K (cA K x) := He.cls_ok (T.s.fact i h)
theorem Tx.noat (T : Tx K mg) (i : Nat) {x f : Str} (h : faL[i]? = some (.noat x f) := by rfl) : NoAttr K (cA K x) f := He.noat_ok (T.s.fact i h)
theorem Tx.meth (T : Tx K mg) (i : Nat) {x m : Str} (h : faL[i]? = some (.meth x m) := by rfl) : Meth K (cA K x) m (He.ma K (cA K x) m) := He.meth_ok (T.s.fact i h)
theorem Tx.mkr (T : Tx K mg) (i : Nat) {x : Str} (h : faL[i]? = some (.mkr x) := by rfl) : Mk K (cA K x) (He.ma K (cA K x) "__init__") := He.mkr_ok (T.s.fact i h)
theorem Tx.fn (T : Tx K mg) (i : Nat) {p : Str × Option Str} {n q : Str} {st : Stmt} (h : fnL[i]? = some (dfd p n q st) := by rfl) : ∃ fd, FunD K n q (defArgs st) (defBody st) (defScope st) [] [] (He.fAd K p) fd := T.s.def_ i h
theorem Tx.ex (T : Tx K mg) (i : Nat) {b : Bool} (h : (exL K)[i]? = some b := by rfl) : b = true := List.all_eq_true.mp T.x b (List.mem_of_getElem? h)
end
/-! ### a def, a method, a class, with its promise -/
structure Pk (P : Program) (w : World) (K : PySem.W.Frag) (mg : Str → Option Value) (base : Heap) (CX : CXT) (x : Str) (ps : List Str) (k : Nat) (sp : Sp) : Prop where
  ex : ∃ (f : Addr) (fd : FuncData), mg x = some (.ref f) ∧ PySem.W.keepIn K (.ref f) = true ∧ Binds K fd ps [] ∧ FnOk P w K mg base CX k f fd ps sp
structure Mp (P : Program) (w : World) (K : PySem.W.Frag) (mg : Str → Option Value) (base : Heap) (CX : CXT) (C : Addr) (m : Str) (ps : List Str) (k : Nat) (sp : Sp) : Prop where
  ex : ∃ (f : Addr) (fd : FuncData), Meth K C m f ∧ Binds K fd ps [] ∧ FnOk P w K mg base CX k f fd ps sp
structure Cp (P : Program) (w : World) (K : PySem.W.Frag) (mg : Str → Option Value) (base : Heap) (CX : CXT) (x : Str) (C : Addr) (ps : List Str) (k : Nat) (sp : Sp) : Prop where
  ex : ∃ (f : Addr) (fd : FuncData), mg x = some (.ref C) ∧ Mk K C f ∧ Binds K fd ps [] ∧ FnOk P w K mg base CX k f fd ps sp
section
variable {X : Cx} {CX : CXT} {k : Nat} {C : Addr} {ps : List Str} {sp : Sp} {E : XK} {x m : Str} {p pos apos : Pos} {e o : Expr} {es : List Expr} {ta : TE} {t : TA}
theorem pe_pk (F : Pk X.prog X.w X.K X.mg X.base CX x ps k sp) (hr : Room k X.A) (hx : Passes CX X E) (ha : PA X (e :: es) t) (hg : Gl X x := by rfl) (hdb : (x == ("__debug__" : Str)) = false := by decide)
    (he : starEach (e :: es) X.env = (false, eval e X.env) :: starEach es X.env := by rfl) (hpl : (backTo pos (starEach es X.env)).any (·.1) = false := by rfl) : PE X (.Call (.Name x p) (e :: es) [] pos) (tCall sp [] E t) := by
  obtain ⟨f, fd, hm, hk, hb, G⟩ := F.ex
  exact pe_call G hr hg hm hk hb .nil hx ha hdb he hpl
theorem pe_mp {pl : Sem Bool} (he : PE X o ta) (c : Cls X.K C) (F : Mp X.prog X.w X.K X.mg X.base CX C m ps k sp) (hr : Room k X.A) (hx : Passes CX X E) (ha : PA X (e :: es) t)
    (hst : starEach (e :: es) X.env = (false, eval e X.env) :: starEach es X.env := by rfl) (hpl : (backTo pos (starEach es X.env)).any (·.1) = false := by rfl)
    (ht : eval (.Call (.Attribute o m apos) (e :: es) [] pos) X.env = (do
      let ov ← eval o X.env
      standAt apos.atName
      let (f, first) ← holding [ov] (getMethod ov m pl)
      callWith pos f first (backTo pos (starEach (e :: es) X.env)) (backToKw pos (keywordEach [] X.env))) := by rfl) : PE X (.Call (.Attribute o m apos) (e :: es) [] pos) (tMeth C m sp [] E ta t) := by
  obtain ⟨f, fd, hm, hb, G⟩ := F.ex
  exact pe_meth he c hm G hr hb .nil hx ha hst hpl ht
theorem pe_mp0 {pl : Sem Bool} (he : PE X o ta) (c : Cls X.K C) (F : Mp X.prog X.w X.K X.mg X.base CX C m ps k sp) (hr : Room k X.A) (hx : Passes CX X E)
    (ht : eval (.Call (.Attribute o m apos) [] [] pos) X.env = (do
      let ov ← eval o X.env
      standAt apos.atName
      let (f, first) ← holding [ov] (getMethod ov m pl)
      callWith pos f first (backTo pos (starEach [] X.env)) (backToKw pos (keywordEach [] X.env))) := by rfl) : PE X (.Call (.Attribute o m apos) [] [] pos) (tMeth C m sp [] E ta tNil) := by
  obtain ⟨f, fd, hm, hb, G⟩ := F.ex
  exact pe_meth0 he c hm G hr hb .nil hx ht
theorem pe_cp (F : Cp X.prog X.w X.K X.mg X.base CX x C ps k sp) (hr : Room (k + 1) X.A) (hx : Passes CX X E) (ha : PA X (e :: es) t) (hg : Gl X x := by rfl) (hdb : (x == ("__debug__" : Str)) = false := by decide)
    (he : starEach (e :: es) X.env = (false, eval e X.env) :: starEach es X.env := by rfl) (hpl : (backTo pos (starEach es X.env)).any (·.1) = false := by rfl) : PE X (.Call (.Name x p) (e :: es) [] pos) (tMake C sp [] E t) := by
  obtain ⟨f, fd, hm, M, hb, G⟩ := F.ex
  exact pe_make M G hr hg hm hb .nil hx ha hdb he hpl
theorem pe_cp0 (F : Cp X.prog X.w X.K X.mg X.base CX x C ps k sp) (hr : Room (k + 1) X.A) (hx : Passes CX X E) (hg : Gl X x := by rfl) (hdb : (x == ("__debug__" : Str)) = false := by decide) : PE X (.Call (.Name x p) [] [] pos) (tMake C sp [] E tNil) := by
  obtain ⟨f, fd, hm, M, hb, G⟩ := F.ex
  exact pe_make0 M G hr hg hm hb .nil hx hdb
/-- a module's whole number -/
theorem pe_gi {n : Int} (h : ∃ t, X.mg x = some (.int n t)) (hg : Gl X x := by rfl) (hd : (x == ("__debug__" : Str)) = false := by decide) : PE X (.Name x pos) (tC (.int n)) := by
  obtain ⟨t, ht⟩ := h
  exact pe_glob hg ht ⟨t, rfl⟩ hd
end
/-! ### the readings' relations by names -/
abbrev rrAdd : R2 := rI0 fun i j => .int (i + j)
abbrev rrSub : R2 := rI0 fun i j => .int (i - j)
abbrev rrMul : R2 := rI CMul fun i j => .int (i * j)
abbrev rrDiv : R2 := rI CDiv fun i j => .int (i / j)
abbrev rrDivN : R2 := rI CDivN fun i j => .int (i.fdiv j)
abbrev rrMod : R2 := rI (fun _ j => 0 < j) fun i j => .int (i % j)
abbrev rrXor : R2 := rI0 fun i j => .int (Builtin.bitXor i j)
abbrev rrShr : R2 := rI (fun _ j => 0 ≤ j) fun i j => .int (i / 2 ^ j.toNat)
abbrev rrShl : R2 := rI CPow fun i j => .int (i * 2 ^ j.toNat)
abbrev rrLt : R2 := rI0 fun i j => .bl (decide (i < j))
abbrev rrLe : R2 := rI0 fun i j => .bl (decide (i ≤ j))
abbrev rrGt : R2 := rI0 fun i j => .bl (decide (j < i))
abbrev rrGe : R2 := rI0 fun i j => .bl (decide (j ≤ i))
/-- tuple(x), str(n), ord(c) -/
def rTupS (K : PySem.W.Frag) : List V → Hp → VK → Prop := fun xs H Q => ∃ p ys, xs = [.ref p] ∧ ((SqL K H p ys ∧ ∀ l, H l = none → Q (.ref l) (upd H l (.tup ys))) ∨ (SqT K H p ys ∧ Q (.ref p) H))
def rStrI : List V → Hp → VK → Prop := fun xs H Q => ∃ i, xs = [.int i] ∧ i.natAbs.log2 < 1920 ∧ Q (.str (toString i)) H
def rOrd : List V → Hp → VK → Prop := fun xs H Q => ∃ x, xs = [.str x] ∧ x.length = 1 ∧ Q (.int (x.cps.getD 0 0 : Nat)) H
/-! ### steps -/
section
variable {σ : L2.St} {H : Hp} {Q : VK} {i : Nat} {v x y : V} {ta tb te : TE} {K : PySem.W.Frag} {f : Str} {a C dx : Addr} {fs : List (Str × V)} {D : Ends}
theorem s_var (h : σ[i]? = some (some v)) (q : Q v H) : tVar i σ H Q := ⟨v, h, q⟩
theorem s_c (q : Q v H) : tC v σ H Q := q
theorem s_op {r : R2} (h : ta σ H fun x H1 => tb σ H1 fun y H2 => r x y H2 Q) : tOp r ta tb σ H Q := h
theorem s_I0 {g : Int → Int → V} {i j : Int} (q : Q (g i j) H) : rI0 g (.int i) (.int j) H Q := ⟨i, j, rfl, rfl, q⟩
theorem s_I {c : Int → Int → Prop} {g : Int → Int → V} {i j : Int} (hc : c i j) (q : Q (g i j) H) : rI c g (.int i) (.int j) H Q := ⟨i, j, rfl, rfl, hc, q⟩
theorem s_seq {t u : TS} (h : t { D with nx := u D } σ H) : tSeq t u D σ H := h
theorem s_asg {g : TG} (h : te σ H fun x H1 => g x σ H1 D.nx) : tAsg te g D σ H := h
theorem s_name {q : L2.St → Hp → Prop} (h : q (σ.set i (some v)) H) : gName i v σ H q := h
theorem s_ret (h : te σ H D.rt) : tRet te D σ H := h
theorem s_nil {q : List V → Hp → Prop} (h : q [] H) : tNil σ H q := h
theorem s_cons {tr : TA} {q : List V → Hp → Prop} (h : te σ H fun x H1 => tr σ H1 fun xs H2 => q (x :: xs) H2) : tCons te tr σ H q := h
theorem s_call {sp : Sp} {E : XK} {t : TA} (h : t σ H fun vs H1 => sp (vs ++ []) H1 Q E) : tCall sp [] E t σ H Q := h
theorem s_par {i j : Nat} {t : TA} (h : t σ H fun vs H1 => ∃ v w, vs = [v, w] ∧ D.nx ((σ.set i (some v)).set j (some w)) H1) : tPar i j t D σ H := h
end
end Dk
/-! ### the program's own error: Refused(kind, message), over Exception -/
namespace Dk
open PySem PySem.W PySem.Calls PyProof.Rows PySem.HandSPX
abbrev s_Refused___init__ : Stmt := L2.inClass (top 24) 0
theorem rf_obj {K : PySem.W.Frag} {C : Addr} (h : rfB K C = true) : ∃ nm q N bs sn sub ab col dd k0 k1 k2 k3 k5,
    K.lookup C = some (excClassObj nm q C N bs ESX.exTail true sn sub ab col dd k0 k1 k2 k3 k5 "Exception.__new__") := by
  unfold rfB at h
  split at h
  · rename_i dd cd sl ho
    split at h
    · rename_i A bm k0 k1 k2 k3 n k5 hm hs
      simp only [Bool.and_eq_true, beq_iff_eq, Bool.not_eq_true'] at h
      obtain ⟨⟨⟨⟨rfl, rfl⟩, rfl⟩, hdel⟩, hdi⟩ := h
      obtain ⟨nm, bs, mro, ns, qn, hd, sn, sub, ab, col, del⟩ := cd
      dsimp only at hm hdel hdi
      subst hm hdel hdi
      have hsl : sl = #[k0, k1, k2, k3, some (.builtin "Exception.__new__"), k5] := by
        obtain ⟨l⟩ := sl
        simp only at hs
        rw [hs]
      subst hsl
      exact ⟨nm, qn, ns, bs, sn, sub, ab, col, dd, k0, k1, k2, k3, k5, ho⟩
    · cases h
  · cases h
/-- what __init__ leaves of a fresh exception at x -/
structure RfEnd (h h' : Heap) (x C dx t0 : Addr) (v u : Value) : Prop where
  keep : ∀ b o, b ≠ x → h.get? b = some o → h'.get? b = some o
  obj : h'.get? x = some { cls := .ref C, dict := some dx, data := .fields #[.ref t0, .none, .none, .none, .bool false, .none] }
  dbig : h.objs.size ≤ dx
  dne : dx ≠ x
  ns : h'.Ns1 dx (fun y => if y = "message" then some u else if y = "kind" then some v else none)
/-- a made one -/
structure RfMade (h h' : Heap) (e C d : Addr) (v u : Value) : Prop where
  keep : ∀ b o, h.get? b = some o → h'.get? b = some o
  new : h.objs.size ≤ e
  obj : ∃ t : Addr, h'.get? e = some { cls := .ref C, dict := some d, data := .fields #[.ref t, .none, .none, .none, .bool false, .none] }
  dbig : h.objs.size ≤ d
  dne : d ≠ e
  ns : h'.Ns1 d (fun y => if y = "message" then some u else if y = "kind" then some v else none)
theorem loadC {M : Model} {s : Shared} {name : Str} {scope : Scope} {L a : Addr} {cd : Value} {m : Str → Option Value} {x : Str} {pos : Pos} {v : Value} {Q : Value → Shared → Prop} {A : Around} {E : Value → Shared → Prop} (hn : s.heap.Ns L m) (hv : m x = some v) (h : Q v s)
    (hk : scope.kind = .function := by rfl) (hl : (envOfC name scope L a cd).kindOf x = some .local := by rfl) (hd : (x == ("__debug__" : Str)) = false := by decide) : wpAny M A (eval (.Name x pos) (envOfC name scope L a cd)) Q E s :=
  wpAny_Name (wpAny_loadName_local hk hl hn hv h) hd
section
variable {prog : Program} {w : World} {A : Around} {E : Value → Shared → Prop} {R : Result → Shared → Prop} {s : Shared} {K : Frag} {mg : Str → Option Value}
theorem rf_init (T : Tx K mg) {x t0 : Addr} {v u : Value} (X : K.In s.heap) (hlim : s.heap.NoLimit) (hx : s.heap.get? x = some (excO (rfA K) t0)) (hnx : K.lookup x = none) (hroom : A.depth < recursionLimit)
    (hq : ∀ h' tk dx, RfEnd s.heap h' x (rfA K) dx t0 v u → R (.ok (.ret .none)) { s with heap := h', toks := tk }) :
    codeAny (model prog w) A (.call (.ref (rfI K)) ⟨[.ref x, v, u], []⟩) R s := by
  obtain ⟨fd, F⟩ := T.fn 55 (p := ("Refused", some "__init__")) (n := "__init__") (q := "Refused.__init__") (st := s_Refused___init__)
  obtain ⟨oc, od, dV, kV, doc, pm, an, cdv, ct, osl, rfl, ho, hcd, hD, _⟩ := F.ex
  obtain rfl : dV = .none := by
    rcases hD with ⟨_, e⟩ | ⟨e, _⟩
    · exact e
    · exact absurd rfl e
  obtain ⟨nm, q, N, bs, sn, sub, ab, col, dd, k0, k1, k2, k3, k5, hC⟩ := rf_obj (T.ex 2)
  have sa : findIn K (.ref (rfA K)) "__setattr__" = some (some (.builtin "object.__setattr__")) := He.eqO_ok (T.ex 3)
  have n1 : findIn K (.ref (rfA K)) "kind" = some none := T.noat 113
  have n2 : findIn K (.ref (rfA K)) "message" = some none := T.noat 114
  have hcl : clsIn K (rfA K) = some { name := nm, bases := bs, mro := .ref (rfA K) :: ESX.exTail, ns := N, qualname := q, hasDict := true, slotNames := sn, subclasses := sub, abstract := ab, collection := col, hasDel := false } := by
    unfold clsIn
    rw [hC] <;> rfl
  refine Att.call_fn (binds := [("self", .ref x), ("kind", v), ("message", u)]) X hlim ho hcd hroom (BindsTo.of_eq (by first | rfl | with_unfolding_all rfl)) (by first | rfl | decide | with_unfolding_all rfl) (fun s₁ IC => ?_) rfl rfl rfl
  obtain ⟨h₁, tk₁, rfl⟩ := IC.toInCall.same
  have k : ∀ b o, s.heap.get? b = some o → h₁.get? b = some o := IC.toInCall.keep
  have hn := IC.toInCall.ns
  have hxL : s.heap.objs.size ≠ x := Nat.ne_of_gt (Heap.lt_size hx)
  have X₁ : K.In h₁ := X.keeps k
  have hx₁ := k _ _ hx
  have z : s.heap.objs.size < h₁.objs.size := hn.lt
  -- self.kind = kind
  show wpAny _ _ (execs _ _) _ _ _
  refine wpAny_execs_cons (plainObj_wpAny_Assign_Attribute ?_)
  refine loadC (v := v) hn (by first | rfl | with_unfolding_all rfl | kernel_rfl) (loadC (v := .ref x) hn (by first | rfl | with_unfolding_all rfl | kernel_rfl) ?_)
  refine set_plain X₁ (ox := excO (rfA K) t0) (od := none) ⟨hx₁, rfl, rfl, trivial⟩ sa ?_
  refine ESX.osa_new X₁ hx₁ hcl rfl rfl n1 (fun h₃ tk₃ dx k₃ dn dne hx₃ hn₃ => ?_)
  have hn2 : h₃.Ns s.heap.objs.size _ := hn.at fun o e => k₃ _ _ hxL e
  have X₃ : K.In h₃ := fun a o e => k₃ a o (fun z => by rw [z, hnx] at e; cases e) (X₁ a o e)
  -- self.message = message
  obtain ⟨oD, esD, epD, hoD, hdD, _⟩ := id hn₃
  have hw : Within (fun y => if y = ("kind" : Str) then some v else none) ["kind"] := fun y hy => by
    by_cases e : y = "kind"
    · rw [e]
      exact List.mem_cons_self
    · exact absurd (if_neg e) hy
  show wpAny _ _ (execs _ _) _ _ _
  refine wpAny_execs_cons (plainObj_wpAny_Assign_Attribute ?_)
  refine loadC (v := u) hn2 (by first | rfl | with_unfolding_all rfl | kernel_rfl) (loadC (v := .ref x) hn2 (by first | rfl | with_unfolding_all rfl | kernel_rfl) ?_)
  refine set_plain X₃ (ox := { cls := .ref (rfA K), dict := some dx, data := .fields #[.ref t0, .none, .none, .none, .bool false, .none] }) (od := some oD) ⟨hx₃, rfl, rfl, hoD⟩ sa ?_
  refine ESX.osa_old X₃ hx₃ hn₃ hw (by decide) hcl rfl rfl n2 (fun h₅ tk₅ k₅ hn₅ => ?_)
  show wpAny _ _ (execs _ _) _ _ _
  have hxd : x ≠ dx := Ne.symm dne
  refine wpAny_execs_nil (hq h₅ tk₅ dx ⟨fun b o hb e => k₅ b o (Nat.ne_of_lt (Nat.lt_of_lt_of_le (Nat.lt_of_lt_of_le (Heap.lt_size e) (Nat.le_of_lt z)) dn)) (k₃ b o hb (k b o e)), k₅ x _ hxd hx₃, Nat.le_of_lt (Nat.lt_of_lt_of_le z dn), dne, hn₅⟩)
theorem rf_made (T : Tx K mg) {v u : Value} (X : K.In s.heap) (hlim : s.heap.NoLimit) (hroom : A.depth + 1 < recursionLimit)
    (hq : ∀ h' tk e d, RfMade s.heap h' e (rfA K) d v u → R (.ok (.ret (.ref e))) { s with heap := h', toks := tk }) :
    codeAny (model prog w) A (.call (.ref (rfA K)) ⟨[v, u], []⟩) R s := by
  obtain ⟨nm, q, N, bs, sn, sub, ab, col, dd, k0, k1, k2, k3, k5, hC⟩ := rf_obj (T.ex 2)
  have iC : findIn K (.ref (rfA K)) "__init__" = some (some (.ref (rfI K))) := He.eqO_ok (T.ex 6)
  have tI : typeIn K (.ref (rfI K)) = some (.type "function") := of_decide_eq_true (T.ex 7)
  obtain ⟨hp, g, d, tk, os⟩ := s
  have k : ∀ b o, hp.get? b = some o → ((hp.push (kdv_tup [v, u])).push (excO (rfA K) hp.objs.size)).get? b = some o := fun b o e => Heap.get?_push_of_some _ (Heap.get?_push_of_some _ e)
  have hget : ((hp.push (kdv_tup [v, u])).push (excO (rfA K) hp.objs.size)).get? (hp.objs.size + 1) = some (excO (rfA K) hp.objs.size) := by heap_get
  have hnx : K.lookup (hp.objs.size + 1) = none := by
    cases e : K.lookup (hp.objs.size + 1) with
    | none => rfl
    | some o =>
      have z : hp.get? (hp.objs.size + 1) = some o := X _ _ e
      exact absurd (Nat.lt_of_succ_lt (Heap.lt_size z)) (Nat.lt_irrefl _)
  refine call_own F.excBase_Exception (fun X => rfl) (X _ _ hC) (looks_findIn X iC) (fun self => bind_fn X self tI) (by rw [sizeLine_eq]; exact (by decide : 2 ≤ 16777216)) ?_
  refine rf_init (s := ⟨(hp.push (kdv_tup [v, u])).push (excO (rfA K) hp.objs.size), g, d, tk, os⟩) T (X.keeps k) (hlim.keeps k) hget hnx ?_ fun h' tk' dx ⟨k', hx, dn, dne, hns⟩ => ?_
  · show A.depth + 1 < recursionLimit
    exact hroom
  · have old : ∀ b o, hp.get? b = some o → h'.get? b = some o := fun b o e => k' b o (Nat.ne_of_lt (Nat.lt_succ_of_lt (Heap.lt_size e))) (k b o e)
    have z : hp.objs.size + 1 + 1 ≤ dx := by
      have q := dn
      rw [Heap.size_push, Heap.size_push] at q
      exact q
    exact ⟨rfl, hq h' tk' (hp.objs.size + 1) dx ⟨old, Nat.le_succ _, ⟨_, hx⟩, Nat.le_trans (Nat.le_trans (Nat.le_succ _) (Nat.le_succ _)) z, dne, hns⟩⟩
end
end Dk
namespace Dk
open PySem PySem.Spec PyProof.Rows L2
abbrev rfF (v u : V) : List (Str × V) := [("message", u), ("kind", v)]
theorem relO_rf {v u : V} {v' u' : Value} (r : RelV v v') (q : RelV u u') (f : Str) : RelO ((rfF v u).lookup f) (if f = "message" then some u' else if f = "kind" then some v' else none) := by
  by_cases h1 : f = "message"
  · subst h1
    rw [if_pos rfl]
    have e : (rfF v u).lookup ("message" : Str) = some u := by simp [rfF, List.lookup]
    rw [e]
    exact q
  · have b1 : (f == ("message" : Str)) = false := by simpa using h1
    rw [if_neg h1]
    by_cases h2 : f = "kind"
    · subst h2
      rw [if_pos rfl]
      have e : (rfF v u).lookup ("kind" : Str) = some v := by simp [rfF, List.lookup, b1]
      rw [e]
      exact r
    · have b2 : (f == ("kind" : Str)) = false := by simpa using h2
      rw [if_neg h2]
      have e : (rfF v u).lookup f = none := by simp [rfF, List.lookup, b1, b2]
      rw [e]
      trivial
section
variable {X : Cx}
/-- Refused(k, m) -/
def tMkRf (K : PySem.W.Frag) (ta : TA) : L2.St → Hp → XK → Prop := fun σ H Q => ta σ H fun vs H1 => ∃ v u, vs = [v, u] ∧ ∀ d, H1 d = none → Q (.ref (rfA K)) (some d) (upd H1 d (.xd (rfF v u)))
theorem pmk_rf {a b : Expr} {ta : TA} {p pos : Pos} {k : Nat} (T : Tx X.K X.mg) (hr : Room k X.A) (ha : PA X [a, b] ta) (hg : Gl X "Refused" := by rfl)
    (he : starEach (a :: [b]) X.env = (false, eval a X.env) :: starEach [b] X.env := by rfl) (hpl : (backTo pos (starEach [b] X.env)).any (·.1) = false := by rfl) :
    L2N.PMk X (.Call (.Name "Refused" p) [a, b] [] pos) (tMkRf X.K ta) := by
  intro pins s σ H Q I h
  have kC : PySem.W.keepIn X.K (.ref (rfA X.K)) = true := T.ex 8
  have exC : PySem.W.subIn X.K (.ref (rfA X.K)) (.type "BaseException") = some true := of_decide_eq_true (T.ex 9)
  have tyC : PySem.W.typeIn X.K (.ref (rfA X.K)) = some (.type "type") := of_decide_eq_true (T.ex 10)
  refine wpAny_Call_Name_kw (ld_glob I hg (T.glo 112) ?_)
  refine PySem.W.callWith_K (h₀ := X.base) I.ok.mod.kin kC (thn (ha.run pos pins s σ H _ I h) fun us s1 hh => ?_) he hpl
  obtain ⟨vs, H1, I1, r1, v, u, ev, q1⟩ := hh
  subst ev
  refine ⟨I1.kIn, ?_⟩
  obtain ⟨v', u', rfl, rv, ru⟩ := vals2 r1
  show wpAny _ _ (call (.ref (rfA X.K)) [v', u']) _ _ _
  have hlim := I1.nolimit
  obtain ⟨hp, g, dr, tk, os⟩ := s1
  refine wpAny_call (rf_made T I1.kIn hlim (by have := hr.dp; omega) fun h' tk' e d M => ?_)
  show L2N.MkP X pins σ Q (.ref e) ⟨h', g, dr, tk', os⟩
  obtain ⟨t, hoe⟩ := M.obj
  have hns := M.ns
  obtain ⟨G', g1, g2⟩ := restrict h' fun b => decide (b ≠ e)
  have gk : ∀ b, b ≠ e → G'.get? b = h'.get? b := fun b hb => g1 b (decide_eq_true hb)
  have ge : G'.get? e = none := g2 e (by simp)
  have old : ∀ b o, hp.get? b = some o → G'.get? b = some o := fun b o q => (gk b (Nat.ne_of_lt (Nat.lt_of_lt_of_le (Heap.lt_size q) M.new))).trans (M.keep b o q)
  have ob : ObjOk X.prog X.w (upd H1 d (.xd (rfF v u))) G' d (.xd (rfF v u)) := ⟨_, hns.at (fun o q => (gk d M.dne).trans q), fun f => relO_rf rv ru f⟩
  have J : Inv X pins σ (upd H1 d (.xd (rfF v u))) ⟨G', g, dr, tk', os⟩ := I1.laid (t' := tk') old M.dbig ob
  refine ⟨e, _, _, ⟨G', g, dr, tk', os⟩, _, .ref (rfA X.K), some d, rfl, J, fun b o q => ?_, ge, hoe, ⟨rfl, rfl, fun vs z => by cases z; rfl⟩, rfl, rfl, ?_, rfl, I1.bare, raises_own exC tyC, q1 d (I1.hok.fresh M.dbig)⟩
  · by_cases hb : b = e
    · have q' : G'.get? b = some o := q
      rw [hb, ge] at q'
      cases q'
    · exact (gk b hb).symm.trans q
  · rw [upd_ne (Ne.symm M.dne)]
    exact I1.hok.fresh M.new
/-- raise Refused(k, m) in a def whose errors leave as E says -/
def tRaiseRf (K : PySem.W.Frag) (E : XK) (ta : TA) : TS := fun _ σ H => tMkRf K ta σ H fun cls d H' => E cls d H'
theorem ps_raiseRf {a b : Expr} {ta : TA} {E : XK} {p pos pos2 : Pos} {k : Nat} (hc : X.calm = true) (T : Tx X.K X.mg) (tk : L2N.Takes X (fun cls d _ H => E cls d H)) (hr : Room k X.A) (ha : PA X [a, b] ta) (hg : Gl X "Refused" := by rfl)
    (he : starEach (a :: [b]) X.env = (false, eval a X.env) :: starEach [b] X.env := by rfl) (hpl : (backTo pos (starEach [b] X.env)).any (·.1) = false := by rfl) :
    PS X (.Raise (some (.Call (.Name "Refused" p) [a, b] [] pos)) none pos2) (tRaiseRf X.K E ta) := L2N.ps_raise hc tk (pmk_rf T hr ha hg he hpl)
/-- err.f, err the error that the suite holds (at a; its class cls, its dict d) -/
def tByRf (K : PySem.W.Frag) (f : Str) (a : Addr) (cls : Value) (d : Option Addr) (te : TE) : TE := fun σ H Q => te σ H fun x H1 => x = .ref a ∧ cls = .ref (rfA K) ∧ ∃ (dd : Addr) (fs : List (Str × V)) (v : V), d = some dd ∧ H1 dd = some (.xd fs) ∧ fs.lookup f = some v ∧ Q v H1
theorem pe_byRf {a : Addr} {oe : Obj} {cls : Value} {d : Option Addr} {pn : List (Addr × Obj)} {e : Expr} {te : TE} {f : Str} {pos : Pos} (T : Tx X.K X.mg) (hn : NoAttr X.K (rfA X.K) f) (hz : L2N.Zn cls d oe) (hf : ∃ vs, oe.data = .fields vs) (he : PE (X.suite a ((a, oe) :: pn)) e te)
    (hb : attributeBase e f X.env (eval e X.env) = eval e X.env := by rfl) :
    PE (X.suite a ((a, oe) :: pn)) (.Attribute e f pos) (tByRf X.K f a cls d te) := by
  have ga : PySem.W.findIn X.K (.ref (rfA X.K)) "__getattribute__" = some (some (.builtin "BaseException.__getattribute__")) := He.eqO_ok (T.ex 4)
  have gg : PySem.W.findIn X.K (.ref (rfA X.K)) "__getattr__" = some none := He.eqO_ok (T.ex 5)
  have exC : PySem.W.subIn X.K (.ref (rfA X.K)) (.type "BaseException") = some true := of_decide_eq_true (T.ex 9)
  have hdC : PySem.W.hasDictIn X.K (rfA X.K) = true := T.ex 11
  refine ⟨fun pins s σ H Q I h => ?_⟩
  refine attr_of hb (thn (he.run pins s σ H _ I h) fun u s1 hh => ?_)
  obtain ⟨x, H1, I1, rx, ex, ec, dd, fs, v, ed, ea, l, q⟩ := hh
  subst ex
  obtain rfl : u = Value.ref a := rx
  subst ec
  subst ed
  obtain ⟨ha, _⟩ := I1.pin (a, oe) (List.mem_append_left _ List.mem_cons_self)
  obtain ⟨vs, hd⟩ := hf
  have hx : ObjOk X.prog X.w H1 s1.heap dd (.xd fs) := I1.hok dd _ ea
  obtain ⟨mA, hns, hr⟩ := hx
  obtain ⟨od, ho, hl⟩ := lookIn_ns hns
  obtain ⟨u, hu, ru⟩ := RelO.some_of (v := v) (o := mA f) (by rw [← l]; exact hr f)
  have J : PySem.W.InstAt s1.heap a oe (rfA X.K) (some od) := ⟨ha, hz.1, by unfold PySem.W.notCls; rw [hd] <;> rfl, by rw [hz.2.1]; exact ho⟩
  exact HandSPX.exc_get I1.kIn J ga gg exC (PySem.W.findObj_own hdC hn rfl (by rw [hl, hu])) (handed_of ru) ⟨v, H1, I1.tok _, ru, q⟩
end
end Dk
namespace Dk
open PySem PySem.Spec PyProof.Rows L2 Evl RZ
/-! ### facts of classes by their names -/
def fKey : He.Fa → Nat × Str × Str
  | .cls x => (1, x, (PySem.Str.ofString ""))
  | .noat x f => (2, x, f)
  | _ => (0, (PySem.Str.ofString ""), (PySem.Str.ofString ""))
section
variable {K : PySem.W.Frag} {mg : Str → Option Value}
theorem Tx.clsK (T : Tx K mg) {x : Str} (h : (faL.any fun a => decide (fKey a = (1, x, (PySem.Str.ofString "")))) = true) : Cls K (cA K x) := by
  obtain ⟨a, ha, e⟩ := List.any_eq_true.mp h
  have e := of_decide_eq_true e
  have q := List.all_eq_true.mp (He.ba (show ((faL.all fun f => f.ok K) && fnL.all fun d => d.ok K) = true from congrArg (fun z : He.AlD => z.1) T.s)).1 a ha
  cases a <;> simp only [fKey, Prod.mk.injEq] at e <;> first
    | (obtain ⟨_, rfl, _⟩ := e; exact He.cls_ok q)
    | (exact absurd e.1 (by decide))
theorem Tx.noatK (T : Tx K mg) {x f : Str} (h : (faL.any fun a => decide (fKey a = (2, x, f))) = true) : NoAttr K (cA K x) f := by
  obtain ⟨a, ha, e⟩ := List.any_eq_true.mp h
  have e := of_decide_eq_true e
  have q := List.all_eq_true.mp (He.ba (show ((faL.all fun f => f.ok K) && fnL.all fun d => d.ok K) = true from congrArg (fun z : He.AlD => z.1) T.s)).1 a ha
  cases a <;> simp only [fKey, Prod.mk.injEq] at e <;> first
    | (obtain ⟨_, rfl, rfl⟩ := e; exact He.noat_ok q)
    | (exact absurd e.1 (by decide))
end
/-! ### heaps -/
theorem Ex.at {H H' : Hp} {a : Addr} {o : HO} (e : Ex H H') (h : H a = some o) : H' a = some o := e a o h
theorem Ex.fr {H H' : Hp} {a : Addr} (e : Ex H H') (h : H' a = none) : H a = none := fresh_back e h
theorem ex_upd {H H' : Hp} {p : Addr} {o : HO} (e : Ex H H') (h : H' p = none) : Ex H (upd H' p o) := e.trans (Ex.new h)
abbrev natV (n : Nat) : V := .int (n : Int)
/-! ### steps: expressions -/
def XF (K : PySem.W.Frag) (f : Str) (x : V) (H : Hp) (Q : VK) : Prop := ∃ a C dx fs v, x = .ref a ∧ H a = some (.ins C dx fs) ∧ Cls K C ∧ NoAttr K C f ∧ fs.lookup f = some v ∧ Q v H
def XS (K : PySem.W.Frag) (f : Str) (y x : V) (H : Hp) (k : Hp → Prop) : Prop := ∃ a C dx fs, x = .ref a ∧ H a = some (.ins C dx fs) ∧ Cls K C ∧ NoAttr K C f ∧ fs.length < 1000 ∧ k (upd H a (.ins C dx (putF f y fs)))
def XB (x : V) (H : Hp) (Q : Bool → Hp → Prop) : Prop := ∃ k, x = .bl k ∧ Q k H
def XT (xs : List V) (H : Hp) (Q : VK) : Prop := xs.length ≤ sizeLine ∧ ∀ p, H p = none → Q (.ref p) (upd H p (.tup xs))
def XL (xs : List V) (H : Hp) (Q : VK) : Prop := xs.length ≤ sizeLine ∧ ∀ p, H p = none → Q (.ref p) (upd H p (.lst xs))
def XM (m : Str) (sp : Sp) (E : XK) (t : TA) (C : Addr) (x : V) (σ : L2.St) (H : Hp) (Q : VK) : Prop := ∃ a dx fs, x = .ref a ∧ H a = some (.ins C dx fs) ∧ fs.lookup m = none ∧ t σ H fun vs H2 => sp (x :: (vs ++ [])) H2 Q E
def XP (vs : List V) (k : V → V → Prop) : Prop := ∃ v w, vs = [v, w] ∧ k v w
section
variable {σ : L2.St} {H : Hp} {Q : VK} {i : Nat} {v x y : V} {ta tb te tv : TE} {K : PySem.W.Frag} {f m cn : Str} {a C dx : Addr} {fs : List (Str × V)} {D : Ends} {tt tu : TT} {xs vs : List V} {sp : Sp} {E : XK} {t : TA} {b : Bool} {QB : Bool → Hp → Prop}
theorem s_fld (h : ta σ H fun x H1 => XF K f x H1 Q) : tFld K ta f σ H Q := h
theorem s_xf (ho : H a = some (.ins (cA K cn) dx fs)) (hc : Cls K (cA K cn)) (hn : NoAttr K (cA K cn) f) (hl : fs.lookup f = some v) (q : Q v H) : XF K f (.ref a) H Q := ⟨a, _, dx, fs, v, rfl, ho, hc, hn, hl, q⟩
theorem s_tup (h : t σ H fun xs H1 => XT xs H1 Q) : tTup t σ H Q := h
theorem s_xt (hl : xs.length ≤ 1000) (q : ∀ p H', H p = none → Ex H H' → H' p = some (.tup xs) → Q (.ref p) H') : XT xs H Q := ⟨Nat.le_trans hl (by decide), fun p hp => q p _ hp (Ex.new hp) upd_same⟩
theorem s_lst (h : t σ H fun xs H1 => XL xs H1 Q) : tLst t σ H Q := h
theorem s_xl (hl : xs.length ≤ 1000) (q : ∀ p H', H p = none → Ex H H' → H' p = some (.lst xs) → Q (.ref p) H') : XL xs H Q := ⟨Nat.le_trans hl (by decide), fun p hp => q p _ hp (Ex.new hp) upd_same⟩
theorem s_meth (h : ta σ H fun x H1 => XM m sp E t C x σ H1 Q) : tMeth C m sp [] E ta t σ H Q := h
theorem s_xm (ho : H a = some (.ins C dx fs)) (hl : fs.lookup m = none) (q : t σ H fun vs H2 => sp (.ref a :: (vs ++ [])) H2 Q E) : XM m sp E t C (.ref a) σ H Q := ⟨a, dx, fs, rfl, ho, hl, q⟩
theorem s_cb {r : List V → Hp → VK → Prop} (h : t σ H fun vs H1 => r vs H1 Q) : tCB r t σ H Q := h
theorem s_andV (h : ta σ H fun x H1 => ∃ c, x = .bl c ∧ if c = true then tb σ H1 Q else Q (.bl false) H1) : tAndV ta tb σ H Q := h
theorem s_make (h : t σ H fun vs H1 => ∀ x dx, H1 x = none → H1 dx = none → dx ≠ x → sp (.ref x :: (vs ++ [])) (upd (upd H1 dx (.own x)) x (.ins C dx [])) (fun v H2 => v = .non ∧ Q (.ref x) H2) E) : tMake C sp [] E t σ H Q := h
theorem s_if (h : tt σ H fun c H1 => if c = true then ta σ H1 Q else tb σ H1 Q) : tIf tt ta tb σ H Q := h
theorem s_eq (hs : scal x y = true) (q : Q (.bl (decide (x = y))) H) : rEq x y H Q := ⟨hs, q⟩
theorem s_ne (hs : scal x y = true) (q : Q (.bl (!decide (x = y))) H) : rNe x y H Q := ⟨hs, q⟩
theorem s_isN (q : Q (.bl (decide (x = .non))) H) : rIsN x .non H Q := ⟨rfl, q⟩
theorem s_ixL {p : Addr} {i : Int} (h : SqL K H p xs) (ha : atI xs i = some v) (q : Q v H) : rIxL K (.ref p) (.int i) H Q := ⟨p, xs, i, v, rfl, rfl, h, ha, q⟩
theorem s_ixT {p : Addr} {i : Int} (h : SqT K H p xs) (ha : atI xs i = some v) (q : Q v H) : rIxT K (.ref p) (.int i) H Q := ⟨p, xs, i, v, rfl, rfl, h, ha, q⟩
theorem s_lenL {p : Addr} (h : SqL K H p xs) (q : Q (.int (xs.length : Int)) H) : rLenS K [.ref p] H Q := ⟨p, xs, rfl, .inl h, q⟩
theorem s_lenT {p : Addr} (h : SqT K H p xs) (q : Q (.int (xs.length : Int)) H) : rLenS K [.ref p] H Q := ⟨p, xs, rfl, .inr h, q⟩
theorem s_listT {p : Addr} (h : SqT K H p xs) (q : ∀ l H', H l = none → Ex H H' → H' l = some (.lst xs) → Q (.ref l) H') : rListS K [.ref p] H Q := ⟨p, xs, rfl, .inr h, fun l hl => q l _ hl (Ex.new hl) upd_same⟩
theorem s_listL {p : Addr} (h : SqL K H p xs) (q : ∀ l H', H l = none → Ex H H' → H' l = some (.lst xs) → Q (.ref l) H') : rListS K [.ref p] H Q := ⟨p, xs, rfl, .inl h, fun l hl => q l _ hl (Ex.new hl) upd_same⟩
theorem s_tupL {p : Addr} (h : SqL K H p xs) (q : ∀ l H', H l = none → Ex H H' → H' l = some (.tup xs) → Q (.ref l) H') : rTupS K [.ref p] H Q := ⟨p, xs, rfl, .inl ⟨h, fun l hl => q l _ hl (Ex.new hl) upd_same⟩⟩
theorem s_any {p : Addr} {bs : List Bool} (h : SqL K H p (bs.map V.bl)) (q : Q (.bl (bs.any id)) H) : rAny K [.ref p] H Q := ⟨p, bs, rfl, h, q⟩
theorem s_all {p : Addr} {bs : List Bool} (h : SqL K H p (bs.map V.bl)) (q : Q (.bl (bs.all id)) H) : rAll K [.ref p] H Q := ⟨p, bs, rfl, h, q⟩
theorem s_cat {l c : Addr} {ys : List V} (h : H l = some (.lst xs)) (h2 : H c = some (.lst ys)) (hz : xs.length + ys.length ≤ sizeLine) (q : ∀ p H', H p = none → Ex H H' → H' p = some (.lst (xs ++ ys)) → Q (.ref p) H') : rCat (.ref l) (.ref c) H Q :=
  ⟨l, c, xs, ys, rfl, rfl, h, h2, hz, fun p hp => q p _ hp (Ex.new hp) upd_same⟩
theorem s_sl {p : Addr} {lo hi : Option Int} (h : SqL K H p xs) (q : ∀ l H', H l = none → Ex H H' → H' l = some (.lst (cutV xs lo hi)) → Q (.ref l) H') : rSlL K (.ref p) lo hi H Q := ⟨p, xs, rfl, h, fun l hl => q l _ hl (Ex.new hl) upd_same⟩
/-! ### steps: tests, statements -/
theorem s_test (h : te σ H fun x H1 => XB x H1 QB) : tTest te σ H QB := h
theorem s_B (h : te σ H fun x H1 => XB x H1 QB) : tB te σ H QB := h
theorem s_xb (q : QB b H) : XB (.bl b) H QB := ⟨b, rfl, q⟩
theorem s_not (h : tt σ H fun c H1 => QB (!c) H1) : tNot tt σ H QB := h
theorem s_and (h : tt σ H fun c H1 => if c = true then tu σ H1 QB else QB false H1) : tAnd tt tu σ H QB := h
theorem s_or (h : tt σ H fun c H1 => if c = true then QB true H1 else tu σ H1 QB) : tOr tt tu σ H QB := h
theorem s_ifS {t u : TS} (h : tt σ H fun b H1 => if b = true then t D σ H1 else u D σ H1) : tIfS tt t u D σ H := h
theorem s_next (h : D.nx σ H) : tNext D σ H := h
theorem s_drop (h : te σ H fun _ H1 => D.nx σ H1) : tDrop te D σ H := h
theorem s_sfld (h : tv σ H fun y H1 => ta σ H1 fun x H2 => XS K f y x H2 (D.nx σ)) : sFld K ta tv f D σ H := h
theorem s_xs {k : Hp → Prop} {gs : List (Str × V)} (ho : H a = some (.ins (cA K cn) dx fs)) (hc : Cls K (cA K cn)) (hn : NoAttr K (cA K cn) f) (hl : fs.length < 1000) (hp : putF f y fs = gs) (q : k (upd H a (.ins (cA K cn) dx gs))) : XS K f y (.ref a) H k :=
  ⟨a, _, dx, fs, rfl, ho, hc, hn, hl, by rw [hp]; exact q⟩
theorem s_aug {ip : TIp} (hx : σ[i]? = some (some x)) (h : te σ H fun y H1 => ip x y H1 fun z H2 => D.nx (σ.set i (some z)) H2) : tAug i te ip D σ H := ⟨x, hx, h⟩
theorem s_ip {g : Int → Int → Int} {i j : Int} (q : Q (.int (g i j)) H) : ipI g (.int i) (.int j) H Q := ⟨i, j, rfl, rfl, q⟩
theorem s_bm {r : V → List V → Hp → VK → Prop} {T : String} (h : te σ H fun x H1 => tyV K T x H1 ∧ t σ H1 fun xs H2 => r x xs H2 Q) : tBM K T r te t σ H Q := h
theorem ite_b {A B : Prop} (h1 : b = true → A) (h2 : b = false → B) : if b = true then A else B := by
  cases b with
  | true => exact iteT (h1 rfl)
  | false => exact iteF (h2 rfl)
end
theorem dec_nat {a b : Nat} : decide (V.int (a : Int) = V.int (b : Int)) = (a == b) := by
  rw [Bool.eq_iff_iff]
  simp
  omega
end Dk
namespace Dk
open PySem PySem.Spec PyProof.Rows L2 Evl RZ
/-- the loop over J from H -/
def Lp (J : It) (g : TG) (tb : TS) (D : Ends) (σ : L2.St) (H : Hp) : Prop := ∃ W : Nat → Nat → L2.St → Hp → Prop, (∃ m, W 0 m σ H) ∧ ∀ i m σ H, W i m σ H →
  (J.stop i H ∧ D.nx σ H) ∨ (J.go i H ∧ ∃ N : L2.St → Hp → Prop, (∀ σ' H', N σ' H' → ∃ m', m' < m ∧ W (i + 1) m' σ' H') ∧ ∀ x H', J.yld i H x H' → g x σ H' fun σ2 H2 => tb { D with nx := N, ct := N, bk := D.nx } σ2 H2)
def XR1 (g : TG) (tb : TS) (D : Ends) (σ : L2.St) (vs : List V) (H : Hp) : Prop := ∃ j : Int, vs = [.int j] ∧ -(2 ^ 62) ≤ j ∧ j < 2 ^ 62 ∧ Lp (Itr 0 j.toNat) g tb D σ H
def XR2 (g : TG) (tb : TS) (D : Ends) (σ : L2.St) (vs : List V) (H : Hp) : Prop := ∃ i j : Int, vs = [.int i, .int j] ∧ (-(2 ^ 62) ≤ i ∧ i < 2 ^ 62 ∧ -(2 ^ 62) ≤ j ∧ j < 2 ^ 62) ∧ Lp (Itr i (j - i).toNat) g tb D σ H
def XR3 (g : TG) (tb : TS) (D : Ends) (σ : L2.St) (vs : List V) (H : Hp) : Prop := ∃ (i j c : Int) (n : Nat), vs = [.int i, .int j, .int c] ∧ RgC i j c n ∧ Lp (Itc i c n) g tb D σ H
def XFL (K : PySem.W.Frag) (g : TG) (tb : TS) (D : Ends) (σ : L2.St) (x : V) (H : Hp) : Prop := ∃ a, x = .ref a ∧ (∃ xs, SqL K H a xs) ∧ Lp (Itl K a) g tb D σ H
def XFT (K : PySem.W.Frag) (g : TG) (tb : TS) (D : Ends) (σ : L2.St) (x : V) (H : Hp) : Prop := ∃ a, x = .ref a ∧ (∃ xs, SqT K H a xs) ∧ Lp (Itt K a) g tb D σ H
section
variable {σ : L2.St} {H : Hp} {Q : VK} {i j : Nat} {v w x y : V} {ta tb te tv : TE} {K : PySem.W.Frag} {D : Ends} {t : TA} {tt : TT} {xs : List V} {g : TG} {ts : TS}
theorem s_par1 (h : ta σ H fun v H1 => tb σ H1 fun w H2 => D.nx ((σ.set i (some v)).set j (some w)) H2) : tPar i j (tCons ta (tCons tb tNil)) D σ H := by
  refine s_par ?_
  refine s_cons ?_
  have e : (fun x H1 => tCons tb tNil σ H1 fun xs H2 => ∃ v w, x :: xs = [v, w] ∧ D.nx ((σ.set i (some v)).set j (some w)) H2) = fun v H1 => tb σ H1 fun w H2 => D.nx ((σ.set i (some v)).set j (some w)) H2 := by
    funext x H1
    unfold tCons tNil
    congr 1
    funext y H2
    refine propext ⟨fun ⟨v, w, e, h⟩ => ?_, fun h => ⟨x, y, rfl, h⟩⟩
    cases e
    exact h
  rw [e]
  exact h
theorem s_un {r : V → Hp → VK → Prop} (h : ta σ H fun x H1 => r x H1 Q) : tUn r ta σ H Q := h
theorem s_uI {g : Int → V} {a : Int} (q : Q (g a) H) : rU g (.int a) H Q := ⟨a, rfl, q⟩
theorem s_for1 (h : t σ H (XR1 g ts D σ)) : tFor (iRng1 t) g ts D σ H := h
theorem s_for2 (h : t σ H (XR2 g ts D σ)) : tFor (iRng2 t) g ts D σ H := h
theorem s_for3 (h : t σ H (XR3 g ts D σ)) : tFor (iRng3 t) g ts D σ H := h
theorem s_forL (h : te σ H (XFL K g ts D σ)) : tFor (iList K te) g ts D σ H := h
theorem s_forT (h : te σ H (XFT K g ts D σ)) : tFor (iTup K te) g ts D σ H := h
theorem x_r1 {n : Nat} (hn : (n : Int) < 2 ^ 62) (Pv : Nat → L2.St → Hp → Prop) (h0 : Pv 0 σ H) (hs : ∀ i σ H, i < n → Pv i σ H → g (natV i) σ H fun σ2 H2 => ts { D with nx := Pv (i + 1), ct := Pv (i + 1), bk := D.nx } σ2 H2)
    (hd : ∀ σ H, Pv n σ H → D.nx σ H) : XR1 g ts D σ [.int (n : Int)] H := ⟨n, rfl, by omega, hn, for_range (lo := 0) (n := (n : Int).toNat) Pv h0 (fun i σ H hi p => by
      have e0 : (0 : Int) + (i : Int) = (i : Int) := Int.zero_add _
      rw [e0]
      exact hs i σ H (by omega) p) (fun σ H p => hd σ H p)⟩
theorem x_r2 {a b : Int} {n : Nat} (hn : b - a = n ∨ (b - a < 0 ∧ n = 0)) (ha : -(2 ^ 62) ≤ a ∧ a < 2 ^ 62) (hb : -(2 ^ 62) ≤ b ∧ b < 2 ^ 62) (Pv : Nat → L2.St → Hp → Prop) (h0 : Pv 0 σ H) (hs : ∀ i σ H, i < n → Pv i σ H → g (.int (a + i)) σ H fun σ2 H2 => ts { D with nx := Pv (i + 1), ct := Pv (i + 1), bk := D.nx } σ2 H2)
    (hd : ∀ σ H, Pv n σ H → D.nx σ H) : XR2 g ts D σ [.int a, .int b] H := by
  have e : (b - a).toNat = n := by omega
  refine ⟨a, b, rfl, ⟨ha.1, ha.2, hb.1, hb.2⟩, ?_⟩
  rw [e]
  exact for_range Pv h0 hs hd
theorem x_r3 {a b c : Int} {n : Nat} (hc : RgC a b c n) (Pv : Nat → L2.St → Hp → Prop) (h0 : Pv 0 σ H) (hs : ∀ i σ H, i < n → Pv i σ H → g (.int (a + (i : Nat) * c)) σ H fun σ2 H2 => ts { D with nx := Pv (i + 1), ct := Pv (i + 1), bk := D.nx } σ2 H2)
    (hd : ∀ σ H, Pv n σ H → D.nx σ H) : XR3 g ts D σ [.int a, .int b, .int c] H := ⟨a, b, c, n, rfl, hc, for_rangeC Pv h0 hs hd⟩
theorem x_fl {a : Addr} (hq : SqL K H a xs) (Pv : Nat → L2.St → Hp → Prop) (h0 : Pv 0 σ H) (hl : ∀ i σ H, i ≤ xs.length → Pv i σ H → SqL K H a xs) (hs : ∀ i x σ H, xs[i]? = some x → Pv i σ H → g x σ H fun σ2 H2 => ts { D with nx := Pv (i + 1), ct := Pv (i + 1), bk := D.nx } σ2 H2)
    (hd : ∀ σ H, Pv xs.length σ H → D.nx σ H) : XFL K g ts D σ (.ref a) H := ⟨a, rfl, ⟨xs, hq⟩, for_list Pv h0 hl hs hd⟩
theorem x_ft {a : Addr} (hq : SqT K H a xs) (Pv : Nat → L2.St → Hp → Prop) (h0 : Pv 0 σ H) (hl : ∀ i σ H, i ≤ xs.length → Pv i σ H → SqT K H a xs) (hs : ∀ i x σ H, xs[i]? = some x → Pv i σ H → g x σ H fun σ2 H2 => ts { D with nx := Pv (i + 1), ct := Pv (i + 1), bk := D.nx } σ2 H2)
    (hd : ∀ σ H, Pv xs.length σ H → D.nx σ H) : XFT K g ts D σ (.ref a) H := ⟨a, rfl, ⟨xs, hq⟩, for_tup Pv h0 hl hs hd⟩
end

/-! ### tuples stay -/
def TX (K : PySem.W.Frag) (H H' : Hp) : Prop := ∀ a xs, SqT K H a xs → SqT K H' a xs
def ntup : HO → Bool
  | .tup _ => false
  | .frz _ _ => false
  | _ => true
section
variable {K : PySem.W.Frag} {H H1 H2 : Hp} {p : Addr} {o u : HO}
theorem TX.refl (H : Hp) : TX K H H := fun _ _ h => h
theorem TX.trans (a : TX K H H1) (b : TX K H1 H2) : TX K H H2 := fun x o h => b x o (a x o h)
theorem TX.of (e : Ex H H1) : TX K H H1 := fun _ _ h => ex_t e h
theorem tx_upd (h : H p = some o) (ho : ntup o = true) : TX K H (upd H p u) := fun a xs q => by
  rcases q with (q | ⟨z, q⟩) | q
  · refine .inl (.inl ?_)
    rw [upd_ne (fun e => ?_)]
    · exact q
    · rw [e, h] at q
      cases q
      cases ho
  · refine .inl (.inr ⟨z, ?_⟩)
    rw [upd_ne (fun e => ?_)]
    · exact q
    · rw [e, h] at q
      cases q
      cases ho
  · exact .inr q
end
/-! ### two lists, one beside the other -/
def All2 {α β : Type} (P : α → β → Prop) : List α → List β → Prop
  | [], [] => True
  | a :: l, b :: m => P a b ∧ All2 P l m
  | _, _ => False
section
variable {α β : Type} {P P' : α → β → Prop}
theorem All2.len : ∀ {l : List α} {m : List β}, All2 P l m → l.length = m.length
  | [], [], _ => rfl
  | _ :: _, _ :: _, h => by rw [List.length_cons, List.length_cons, All2.len h.2]
theorem All2.snoc {a : α} {b : β} : ∀ {l : List α} {m : List β}, All2 P l m → P a b → All2 P (l ++ [a]) (m ++ [b])
  | [], [], _, q => ⟨q, trivial⟩
  | _ :: _, _ :: _, h, q => ⟨h.1, All2.snoc h.2 q⟩
theorem All2.mono (f : ∀ a b, P a b → P' a b) : ∀ {l : List α} {m : List β}, All2 P l m → All2 P' l m
  | [], [], _ => trivial
  | _ :: _, _ :: _, h => ⟨f _ _ h.1, All2.mono f h.2⟩
theorem All2.get {b : β} : ∀ {i : Nat} {l : List α} {m : List β}, All2 P l m → m[i]? = some b → ∃ a, l[i]? = some a ∧ P a b
  | 0, _ :: _, _ :: _, h, e => by cases e; exact ⟨_, rfl, h.1⟩
  | i + 1, x :: l, y :: m, h, e => All2.get (i := i) (l := l) (m := m) h.2 e
  | _, [], [], _, e => by cases e
theorem All2.get' {a : α} : ∀ {i : Nat} {l : List α} {m : List β}, All2 P l m → l[i]? = some a → ∃ b, m[i]? = some b ∧ P a b
  | 0, _ :: _, _ :: _, h, e => by cases e; exact ⟨_, rfl, h.1⟩
  | i + 1, x :: l, y :: m, h, e => All2.get' (i := i) (l := l) (m := m) h.2 e
  | _, [], [], _, e => by cases e
theorem all2_map {f : α → β} : ∀ {l : List α} {m : List β}, All2 (fun a b => b = f a) l m → m = l.map f
  | [], [], _ => rfl
  | _ :: _, _ :: _, h => by rw [h.1, all2_map h.2]; rfl
theorem all2_of {f : α → β} : ∀ {l : List α}, (∀ a ∈ l, P a (f a)) → All2 P l (l.map f)
  | [], _ => trivial
  | _ :: _, h => ⟨h _ List.mem_cons_self, all2_of fun a ha => h a (List.mem_cons_of_mem _ ha)⟩
end
theorem take_snoc {α : Type} {l : List α} {i : Nat} {a : α} (h : l[i]? = some a) : l.take (i + 1) = l.take i ++ [a] := by
  rw [List.take_add_one, h]
  rfl
/-- what a comprehension over J asks -/
def XLc (J : It) (g : TG) (tt : TT) (te : TE) (vs : List Nat) (σ : L2.St) (Q : VK) (H1 : Hp) : Prop := ∀ D, H1 D = none → ∃ W : Nat → Nat → Hp → Prop, (∃ m, W 0 m (upd H1 D (.lst []))) ∧ ∀ i m H, W i m H →
  (J.stop i H ∧ Q (.ref D) H) ∨ (J.go i H ∧ ∃ Nx : Hp → Prop, (∀ H', Nx H' → ∃ m', m' < m ∧ W (i + 1) m' H') ∧ ∀ x H', J.yld i H x H' → g x (wipe σ vs) H' fun σ2 H2 => wipe σ2 vs = wipe σ vs ∧ tt σ2 H2 fun b H3 =>
    if b = true then te σ2 H3 fun y H4 => ∃ acc, H4 D = some (.lst acc) ∧ acc.length < sizeLine ∧ Nx (upd H4 D (.lst (acc ++ [y]))) else Nx H3)
theorem lc_all {α : Type} {K : PySem.W.Frag} {J : It} {G : Hp → Prop} {Y : Nat → Hp → V → Hp → Prop} {g : TG} {tt : TT} {te : TE} {vs : List Nat} {σ : L2.St} {Q : VK} {H1 : Hp} {n : Nat} (l : List α) (w : L2.Walk J n G Y) (hl : n = l.length) (hn : n ≤ 1000000) (p : α → Bool) (P : α → V → Hp → Prop)
    (hG : ∀ H, Ex H1 H → G H) (hP : ∀ a y H H', P a y H → TX K H H' → P a y H')
    (hs : ∀ i a x H H' (k1 : V → Hp → Prop) (k2 : Hp → Prop), l[i]? = some a → Ex H1 H → Y i H x H' → (p a = true → ∀ y H4, Ex H H4 → P a y H4 → k1 y H4) → (p a = false → ∀ H3, Ex H H3 → k2 H3) →
      g x (wipe σ vs) H' fun σ2 H2 => wipe σ2 vs = wipe σ vs ∧ tt σ2 H2 fun b H3 => if b = true then te σ2 H3 k1 else k2 H3)
    (hq : ∀ D H' acc, H1 D = none → Ex H1 H' → H' D = some (.lst acc) → All2 (fun a y => P a y H') (l.filter p) acc → Q (.ref D) H') : XLc J g tt te vs σ Q H1 := by
  subst hl
  intro D hD
  refine lc_it w (fun i H => Ex H1 H ∧ ∃ acc, H D = some (.lst acc) ∧ acc.length ≤ i ∧ All2 (fun a y => P a y H) ((l.take i).filter p) acc) ⟨Ex.new hD, [], upd_same, Nat.le_refl _, trivial⟩ (fun i H _ q => hG H q.1) (fun i x H H' hi q y => ?_) (fun H q => ?_)
  · obtain ⟨e, acc, ha, hl, hr⟩ := q
    have hla : l[i]? = some l[i] := by simp [hi]
    refine hs i l[i] x H H' _ _ hla e y (fun hp z H4 e4 hz => ?_) (fun hp H3 e3 => ?_)
    · have h4 := e4 D _ ha
      have sz : acc.length < sizeLine := Nat.lt_of_le_of_lt (Nat.le_trans hl (Nat.le_trans (Nat.le_of_lt hi) hn)) (by decide)
      refine ⟨acc, h4, sz, Ex.mut (e.trans e4) hD, _, upd_same, by rw [List.length_append, List.length_singleton]; omega, ?_⟩
      rw [take_snoc hla, List.filter_append, List.filter_cons, if_pos hp]
      have t4 : TX K H4 (upd H4 D (.lst (acc ++ [z]))) := tx_upd h4 rfl
      exact All2.snoc (hr.mono fun a y h => hP a y _ _ (hP a y _ _ h (TX.of e4)) t4) (hP _ _ _ _ hz t4)
    · refine ⟨e.trans e3, acc, e3 D _ ha, by omega, ?_⟩
      rw [take_snoc hla, List.filter_append, List.filter_cons, if_neg (by rw [hp]; decide)]
      show All2 _ (_ ++ []) acc
      rw [List.append_nil]
      exact hr.mono fun a y h => hP a y _ _ h (TX.of e3)
  · obtain ⟨e, acc, ha, _, hr⟩ := q
    rw [List.take_length] at hr
    exact hq D H acc hD e ha hr
section
variable {σ : L2.St} {H : Hp} {Q : VK} {te tl : TE} {K : PySem.W.Frag} {t : TA} {tt : TT} {g : TG} {ws : List Nat}
def YL (K : PySem.W.Frag) (g : TG) (tt : TT) (te : TE) (ws : List Nat) (σ : L2.St) (Q : VK) (x : V) (H : Hp) : Prop := ∃ a, x = .ref a ∧ (∃ xs, SqL K H a xs) ∧ XLc (Itl K a) g tt te ws σ Q H
def YT (K : PySem.W.Frag) (g : TG) (tt : TT) (te : TE) (ws : List Nat) (σ : L2.St) (Q : VK) (x : V) (H : Hp) : Prop := ∃ a, x = .ref a ∧ (∃ xs, SqT K H a xs) ∧ XLc (Itt K a) g tt te ws σ Q H
def YS (g : TG) (tt : TT) (te : TE) (ws : List Nat) (σ : L2.St) (Q : VK) (v : V) (H : Hp) : Prop := ∃ x, v = .str x ∧ XLc (Its x) g tt te ws σ Q H
def YE (K : PySem.W.Frag) (g : TG) (tt : TT) (te : TE) (ws : List Nat) (σ : L2.St) (Q : VK) (vs : List V) (H : Hp) : Prop := ∃ a xs, vs = [.ref a] ∧ SqL K H a xs ∧ XLc (Ite K a) g tt te ws σ Q H
def YZ (K : PySem.W.Frag) (g : TG) (tt : TT) (te : TE) (ws : List Nat) (σ : L2.St) (Q : VK) (vs : List V) (H : Hp) : Prop := ∃ a b xs ys, vs = [.ref a, .ref b] ∧ SqL K H a xs ∧ SqL K H b ys ∧ XLc (Itz K a b) g tt te ws σ Q H
def YZA (K : PySem.W.Frag) (g : TG) (tt : TT) (te : TE) (ws : List Nat) (σ : L2.St) (Q : VK) (vs : List V) (H : Hp) : Prop := ∃ a b xs ys, vs = [.ref a, .ref b] ∧ ((SqL K H a xs ∧ SqL K H b ys ∧ XLc (Itz K a b) g tt te ws σ Q H) ∨ (SqT K H a xs ∧ SqT K H b ys ∧ XLc (ItzT K a b) g tt te ws σ Q H))
def YR (g : TG) (tt : TT) (te : TE) (ws : List Nat) (σ : L2.St) (Q : VK) (vs : List V) (H : Hp) : Prop := ∃ j : Int, vs = [.int j] ∧ -(2 ^ 62) ≤ j ∧ j < 2 ^ 62 ∧ XLc (Itr 0 j.toNat) g tt te ws σ Q H
theorem s_lcL (h : tl σ H (YL K g tt te ws σ Q)) : tLc (iList K tl) g tt te ws σ H Q := h
theorem s_lcT (h : tl σ H (YT K g tt te ws σ Q)) : tLc (iTup K tl) g tt te ws σ H Q := h
theorem s_lcS (h : tl σ H (YS g tt te ws σ Q)) : tLc (iStr tl) g tt te ws σ H Q := h
theorem s_lcE (h : t σ H (YE K g tt te ws σ Q)) : tLc (iEnum K t) g tt te ws σ H Q := h
theorem s_lcZ (h : t σ H (YZ K g tt te ws σ Q)) : tLc (iZip K t) g tt te ws σ H Q := h
theorem s_lcZA (h : t σ H (YZA K g tt te ws σ Q)) : tLc (iZipA K t) g tt te ws σ H Q := h
theorem s_lcR (h : t σ H (YR g tt te ws σ Q)) : tLc (iRng1 t) g tt te ws σ H Q := h
end
def AtS (z : Str) (i : Nat) (H : Hp) (v : V) (H' : Hp) : Prop := H' = H ∧ ∃ c, z.cps[i]? = some c ∧ v = .str ⟨#[c]⟩
theorem walk_zipT {K : PySem.W.Frag} {a b : Addr} {xs ys : List V} {n : Nat} (hn : n = min xs.length ys.length) : L2.Walk (ItzT K a b) n (fun H => SqT K H a xs ∧ SqT K H b ys) (YPair (fun i => xs[i]?) (fun i => ys[i]?)) := by
  subst hn
  refine ⟨fun i _ hi q => ?_, fun _ q => ⟨xs, ys, q.1, q.2, by omega⟩, fun i H v H' _ q y => ?_⟩
  · have h1 : i < xs.length := by omega
    have h2 : i < ys.length := by omega
    exact ⟨xs, ys, xs[i], ys[i], q.1, q.2, by simp [h1], by simp [h2]⟩
  · obtain ⟨T, x, z, h1, h2, h3, h4, h5⟩ := y
    exact ⟨T, x, z, h1, h2, h3, h4 xs q.1, h5 ys q.2⟩
end Dk
namespace Dk
open PySem PySem.Spec PyProof.Rows L2 Evl RZ
section
variable {σ : L2.St} {H : Hp} {Q : VK} {K : PySem.W.Frag} {i j k : Nat} {T : Addr} {x y z : V} {q : L2.St → Hp → Prop}
theorem s_pair (hT : SqT K H T [x, y]) (h : q ((σ.set i (some x)).set j (some y)) H) : gTup K 2 (gCons (gName i) (gCons (gName j) gNil)) (.ref T) σ H q := ⟨T, _, rfl, hT, rfl, _, _, rfl, _, _, rfl, rfl, h⟩
end
theorem lc_enum {xs : List V} {i : Nat} {H H' : Hp} {v : V} (h : YPair (fun i => some (.int (i : Nat))) (fun i => xs[i]?) i H v H') : ∃ T x, v = .ref T ∧ H T = none ∧ H' = upd H T (.tup [natV i, x]) ∧ xs[i]? = some x := by
  obtain ⟨T, x, y, h1, h2, h3, h4, h5⟩ := h
  cases h4
  exact ⟨T, y, h1, h2, h3, h5⟩
theorem map_get {α : Type} {f : α → V} {l : List α} {i : Nat} {x : V} (h : (l.map f)[i]? = some x) : ∃ a, l[i]? = some a ∧ x = f a := by
  rw [List.getElem?_map] at h
  cases e : l[i]? with
  | none => rw [e] at h; cases h
  | some a => rw [e] at h; cases h; exact ⟨a, rfl, rfl⟩
/-! ### refusals -/
/-- who leaves with an error of this kind and message -/
def RefE (K : PySem.W.Frag) (E : XK) (H : Hp) (k : Int) (m : Str) : Prop := ∀ d H', Ex H H' → H' d = some (.xd (rfF (.int k) (.str m))) → E (.ref (rfA K)) (some d) H'
theorem RefE.mono {K : PySem.W.Frag} {E : XK} {H H' : Hp} {k : Int} {m : Str} (h : RefE K E H k m) (e : Ex H H') : RefE K E H' k m := fun d H2 e2 hd => h d H2 (e.trans e2) hd
/-- kind and message of an error -/
def ErrM (e : R7293g.Spec.Err) (k : Int) (m : Str) : Prop := k = (Rust.classOf e.cls : Nat) ∧ m.cps.toList = ((e.msg.map Rust.octetOf).map fun o => o.toNat) ∧ m.cps.all (· < 128) = true ∧ m.cps.size ≤ 1000
/-- the two ends of a call -/
def Out {α : Type} (K : PySem.W.Frag) (E : XK) (H : Hp) (r : R7293g.Spec.Res α) (ok : α → Prop) : Prop := match r with
  | .ok a => ok a
  | .error e => ∀ k m, ErrM e k m → RefE K E H k m
section
variable {K : PySem.W.Frag} {E : XK} {H : Hp} {σ : L2.St} {D : Ends} {ta : TA}
theorem s_raise (h : ta σ H fun vs H1 => ∃ v u, vs = [v, u] ∧ ∀ d, H1 d = none → E (.ref (rfA K)) (some d) (upd H1 d (.xd (rfF v u)))) : tRaiseRf K E ta D σ H := h
theorem s_rf {k : Int} {m : Str} (h : RefE K E H k m) : (fun vs H1 => ∃ v u, vs = [v, u] ∧ ∀ d, H1 d = none → E (.ref (rfA K)) (some d) (upd H1 d (.xd (rfF v u)))) [.int k, .str m] H := ⟨_, _, rfl, fun d hd => h d _ (Ex.new hd) upd_same⟩
end
section
variable {σ : L2.St} {H : Hp} {Q : VK} {i j : Nat} {v w x y z : V} {ta tb tc te : TE} {K : PySem.W.Frag} {D : Ends} {t : TA} {tt : TT} {xs : List V} {r r' : R2} {T : String} {rm : V → List V → Hp → VK → Prop} {k : Bool} {p l : Addr}
def XC (r' : R2) (tc : TE) (σ : L2.St) (y : V) (Q : VK) (z : V) (H : Hp) : Prop := ∃ k, z = .bl k ∧ (if k = true then tc σ H fun w H4 => r' y w H4 Q else Q (.bl false) H)
def XA (tb : TE) (σ : L2.St) (Q : VK) (x : V) (H : Hp) : Prop := ∃ c, x = .bl c ∧ if c = true then tb σ H Q else Q (.bl false) H
def XO (tb : TE) (σ : L2.St) (Q : VK) (x : V) (H : Hp) : Prop := ∃ c, x = .bl c ∧ if c = true then Q (.bl true) H else tb σ H Q
def XBM (K : PySem.W.Frag) (T : String) (rm : V → List V → Hp → VK → Prop) (t : TA) (σ : L2.St) (Q : VK) (x : V) (H : Hp) : Prop := tyV K T x H ∧ t σ H fun xs H2 => rm x xs H2 Q
theorem s_chain (h : ta σ H fun x H1 => tb σ H1 fun y H2 => r x y H2 (XC r' tc σ y Q)) : tChain r r' ta tb tc σ H Q := h
theorem x_c (h1 : k = true → tc σ H fun w H4 => r' y w H4 Q) (h2 : k = false → Q (.bl false) H) : XC r' tc σ y Q (.bl k) H := ⟨k, rfl, ite_b h1 h2⟩
theorem s_av (h : ta σ H (XA tb σ Q)) : tAndV ta tb σ H Q := h
theorem x_a (h1 : k = true → tb σ H Q) (h2 : k = false → Q (.bl false) H) : XA tb σ Q (.bl k) H := ⟨k, rfl, ite_b h1 h2⟩
theorem s_ov (h : ta σ H (XO tb σ Q)) : tOrV ta tb σ H Q := h
theorem x_o (h1 : k = true → Q (.bl true) H) (h2 : k = false → tb σ H Q) : XO tb σ Q (.bl k) H := ⟨k, rfl, ite_b h1 h2⟩
theorem s_yes {QB : Bool → Hp → Prop} (h : QB true H) : tYes σ H QB := h
theorem s_tbm (h : te σ H (XBM K T rm t σ Q)) : tBM K T rm te t σ H Q := h
theorem x_bm (hl : SqL K H p xs) (h : t σ H fun xs H2 => rm (.ref p) xs H2 Q) : XBM K "list" rm t σ Q (.ref p) H := ⟨Or.inl ⟨rfl, xs, hl⟩, h⟩
theorem s_app (hl : H l = some (.lst xs)) (hz : xs.length ≤ 10000000) (q : Q .non (upd H l (.lst (xs ++ [y])))) : rAppend (.ref l) [y] H Q := ⟨l, xs, y, rfl, rfl, hl, Nat.lt_of_le_of_lt hz (by decide), q⟩
theorem s_ext {b : Addr} {zs : List V} (hl : H l = some (.lst xs)) (hb : H b = some (.lst zs)) (hz : xs.length + zs.length ≤ 16000000) (q : Q .non (upd H l (.lst (xs ++ zs)))) : rExtend (.ref l) [.ref b] H Q := ⟨l, b, xs, zs, rfl, rfl, hl, hb, Nat.le_trans hz (by decide), q⟩
theorem s_ord {c : Nat} (q : Q (natV c) H) : rOrd [.str ⟨#[c]⟩] H Q := ⟨_, rfl, rfl, q⟩
end
end Dk
namespace Dk
open PySem PySem.Spec PyProof.Rows L2 Evl RZ
theorem atI_nat {α : Type} {l : List α} {j : Nat} {v : α} (h : l[j]? = some v) : atI l (j : Int) = some v := by
  have hj : j < l.length := (List.getElem?_eq_some_iff.mp h).1
  unfold atI
  rw [ixN_nat hj]
  exact h
theorem atI_0 {α : Type} {l : List α} {x : α} : atI (x :: l) 0 = some x := atI_nat (j := 0) rfl
theorem atI_1 {α : Type} {l : List α} {x y : α} : atI (x :: y :: l) 1 = some y := atI_nat (j := 1) rfl
theorem if_t {A B : Prop} (h : A) : if true = true then A else B := iteT h
theorem if_f {A B : Prop} (h : B) : if false = true then A else B := iteF h
end Dk
namespace Dk
open PySem PySem.Spec PyProof.Rows L2 Evl RZ
section
variable {H : Hp} {Q : VK}
theorem s_addS {a b : Str} (h : a.length + b.length ≤ sizeLine) (q : Q (.str (a ++ b)) H) : L2.rAddS (.str a) (.str b) H Q := ⟨a, b, rfl, rfl, h, q⟩
theorem s_strI {i : Int} (h : i.natAbs.log2 < 1920) (q : Q (.str (toString i)) H) : rStrI [.int i] H Q := ⟨i, rfl, h, q⟩
end
end Dk
namespace Dk
open PySem PySem.Spec PyProof.Rows L2 Evl RZ
section
variable {σ : L2.St} {H : Hp} {Q : VK} {te : TE} {tl th : TO} {r : V → Option Int → Option Int → Hp → VK → Prop} {i : Int} {QO : Option Int → Hp → Prop}
def XP1 (Q : Option Int → Hp → Prop) (x : V) (H : Hp) : Prop := ∃ i, x = .int i ∧ Q (some i) H
theorem s_slc (h : te σ H fun x H1 => tl σ H1 fun l H2 => th σ H2 fun u H3 => r x l u H3 Q) : tSl r te tl th σ H Q := h
theorem s_part (h : te σ H (XP1 QO)) : tPart te σ H QO := h
theorem x_p1 (q : QO (some i) H) : XP1 QO (.int i) H := ⟨i, rfl, q⟩
theorem s_nopart (q : QO none H) : tNoPart σ H QO := q
end
end Dk
namespace Dk
open PySem PySem.Spec PyProof.Rows L2 Evl RZ
section
variable {σ : L2.St} {H : Hp} {Q : VK} {te ta tv : TE} {K : PySem.W.Frag} {f : Str} {a C dx : Addr} {fs gs : List (Str × V)} {D : Ends} {x v z : V} {rd : V → V → Hp → VK → Prop} {i j : Int}
/-- the end of a += on an attribute -/
def XFA (f : Str) (a C : Addr) (D : Ends) (σ : L2.St) (z : V) (H : Hp) : Prop := ∃ dx' fs', H a = some (.ins C dx' fs') ∧ fs'.length < 1000 ∧ D.nx σ (upd H a (.ins C dx' (putF f z fs')))
def XFB (K : PySem.W.Frag) (f : Str) (tv : TE) (rd : V → V → Hp → VK → Prop) (D : Ends) (σ : L2.St) (x : V) (H : Hp) : Prop := ∃ a C dx fs v, x = .ref a ∧ H a = some (.ins C dx fs) ∧ Cls K C ∧ NoAttr K C f ∧ fs.lookup f = some v ∧ tv σ H fun y H2 => rd v y H2 (XFA f a C D σ)
theorem s_fldaug (h : ta σ H (XFB K f tv rd D σ)) : sFldAug K ta tv rd f D σ H := h
theorem s_fa (ho : H a = some (.ins C dx fs)) (hc : Cls K C) (hn : NoAttr K C f) (hl : fs.lookup f = some v) (h : tv σ H fun y H2 => rd v y H2 (XFA f a C D σ)) : XFB K f tv rd D σ (.ref a) H := ⟨a, C, dx, fs, v, rfl, ho, hc, hn, hl, h⟩
theorem s_xfa (ho : H a = some (.ins C dx fs)) (hl : fs.length < 1000) (hp : putF f z fs = gs) (q : D.nx σ (upd H a (.ins C dx gs))) : XFA f a C D σ z H := ⟨dx, fs, ho, hl, by rw [hp]; exact q⟩
theorem s_add (q : Q (.int (i + j)) H) : rAdd (.int i) (.int j) H Q := ⟨i, j, rfl, rfl, q⟩
end
end Dk
theorem Dk.lt_ble {n m : Nat} (h : Nat.ble (n + 1) m = true) : n < m := Nat.le_of_ble_eq_true h
namespace Dk
open PySem PySem.Spec PyProof.Rows L2 Evl RZ
theorem s_nin {H : Hp} {Q : VK} {K : PySem.W.Frag} {x : V} {t : Addr} {xs : List V} (h : SqT K H t xs) (h1 : flatV x = true) (h2 : xs.all flatV = true) (q : Q (.bl (!inV x xs)) H) : rIn K true x (.ref t) H Q := ⟨t, xs, rfl, .inr h, h1, h2, q⟩
end Dk
namespace Dk
open PySem PySem.Spec PyProof.Rows L2 Evl RZ
section
variable {σ : L2.St} {H : Hp} {K : PySem.W.Frag} {te : TE} {QB : Bool → Hp → Prop} {p : Addr} {xs : List V}
def XTr (K : PySem.W.Frag) (QB : Bool → Hp → Prop) (x : V) (H : Hp) : Prop := ∃ k, TruV K x H k ∧ QB k H
theorem s_tru (h : te σ H (XTr K QB)) : tTru K te σ H QB := h
theorem x_trL (h : SqL K H p xs) (q : QB (!xs.isEmpty) H) : XTr K QB (.ref p) H := ⟨_, .inl ⟨xs, h, rfl⟩, q⟩
end
theorem dec_bne {a b : Nat} : (!decide (V.int (a : Int) = V.int (b : Int))) = (a != b) := by
  rw [dec_nat]
  rfl
theorem fil_yes' {α : Type} (l : List α) : l.filter (fun _ => true) = l := List.filter_eq_self.mpr (fun _ _ => rfl)
end Dk
namespace Dk
open PySem PySem.Spec PyProof.Rows L2 Evl RZ
/-- only x was written -/
structure Kx (x : Addr) (H H' : Hp) : Prop where
  k : ∀ b u, b ≠ x → H b = some u → H' b = some u
  n : ∀ b, H' b = none → H b = none
theorem Kx.refl {x : Addr} (H : Hp) : Kx x H H := ⟨fun _ _ _ h => h, fun _ h => h⟩
theorem Kx.ex {x : Addr} {H H' H2 : Hp} (a : Kx x H H') (e : Ex H' H2) : Kx x H H2 := ⟨fun b u hb h => e _ _ (a.k b u hb h), fun b h => a.n b (Ex.fr e h)⟩
theorem Kx.trans {x : Addr} {H H' H2 : Hp} (a : Kx x H H') (e : Kx x H' H2) : Kx x H H2 := ⟨fun b u hb h => e.k b u hb (a.k b u hb h), fun b h => a.n b (e.n b h)⟩
theorem Kx.upd {x : Addr} {H H' : Hp} {o o' : HO} (a : Kx x H H') (h : H' x = some o) : Kx x H (upd H' x o') := ⟨fun b u hb q => by rw [upd_ne hb]; exact a.k b u hb q, fun b q => by
  by_cases e : b = x
  · rw [e, upd_same] at q
    cases q
  · rw [upd_ne e] at q
    exact a.n b q⟩
end Dk
namespace Dk
open PySem PySem.Spec PyProof.Rows L2 Evl RZ
theorem ite_num {n k : Nat} {A B : Prop} (h1 : n = k → A) (h2 : n ≠ k → B) : if decide (natV n = natV k) = true then A else B := by
  refine ite_b (fun e => h1 ?_) (fun e => h2 ?_)
  · have := V.int.inj (of_decide_eq_true e)
    omega
  · intro z
    exact of_decide_eq_false e (by rw [z])
theorem ite_le {n k : Nat} {A B : Prop} (h1 : n ≤ k → A) (h2 : k < n → B) : if decide ((n : Int) ≤ ((k : Nat) : Int)) = true then A else B := by
  refine ite_b (fun e => h1 ?_) (fun e => h2 ?_)
  · have := of_decide_eq_true e
    omega
  · have := of_decide_eq_false e
    omega
end Dk
namespace Dk
open R7293g.Spec
/-! ### the calls of a list -/
/-- what a list of calls holds: the rows, one a call -/
def rowsOf (cs : List (List (List Int))) : List (List Int) := cs.map fun c => (PyZn64.whole c).headD []
/-- the answers from a state, one behind another, each with how many numbers it has -/
def runs : Rust.St → List (List Int) → List Int
  | _, [] => []
  | s, x :: r => (((Zn64Neutral.step s x).2.length : Int) :: (Zn64Neutral.step s x).2) ++ runs (Zn64Neutral.step s x).1 r
/-- a list of rows, written as calls -/
def flat : List (List Int) → List Int
  | [] => []
  | x :: r => 0 :: (x.length : Int) :: (x ++ flat r)
theorem calls_flat : ∀ (f : Nat) (l : List Int) (cs : List (List (List Int))), PyFlat.calls PyZn64.shape f l = some cs →
    l = flat (rowsOf cs) ∧ ∀ c ∈ cs, ∃ x, c = [[0], x]
  | f, [], cs, h => by
    cases f <;> (simp only [PyFlat.calls, Option.some.injEq] at h; subst h; exact ⟨rfl, by simp⟩)
  | 0, _ :: _, cs, h => by simp [PyFlat.calls] at h
  | f + 1, p :: r, cs, h => by
    unfold PyFlat.calls at h
    cases hc : PyFlat.call PyZn64.shape (p :: r) with
    | none => rw [hc] at h; cases h
    | some ct =>
      obtain ⟨c, t⟩ := ct
      rw [hc] at h
      simp only at h
      cases hr : PyFlat.calls PyZn64.shape f t with
      | none => rw [hr] at h; cases h
      | some cs' =>
        rw [hr] at h
        simp only [Option.some.injEq] at h
        subst h
        obtain ⟨ih, ih2⟩ := calls_flat f t cs' hr
        unfold PyFlat.call PyZn64.shape at hc
        by_cases hp : p = 0
        · subst hp
          simp only [if_true] at hc
          rw [if_neg (by omega)] at hc
          simp only [List.drop_zero, List.take_zero] at hc
          unfold PyFlat.rows at hc
          cases hw : PyFlat.row r with
          | none => rw [hw] at hc; simp at hc
          | some xs =>
            obtain ⟨x, s⟩ := xs
            rw [hw] at hc
            simp only [PyFlat.rows, Option.some.injEq, Prod.mk.injEq] at hc
            obtain ⟨rfl, rfl⟩ := hc
            cases r with
            | nil => simp [PyFlat.row] at hw
            | cons n r' =>
              simp only [PyFlat.row] at hw
              by_cases hn : 0 ≤ n ∧ n.toNat ≤ r'.length
              · rw [if_pos hn] at hw
                simp only [Option.some.injEq, Prod.mk.injEq] at hw
                obtain ⟨rfl, rfl⟩ := hw
                refine ⟨?_, fun c hc => ?_⟩
                · have e : rowsOf ([[0], List.take n.toNat r'] :: cs') = r'.take n.toNat :: rowsOf cs' := rfl
                  rw [e]
                  show _ = 0 :: ((r'.take n.toNat).length : Int) :: (r'.take n.toNat ++ flat (rowsOf cs'))
                  rw [← ih, List.take_append_drop, List.length_take, Nat.min_eq_left hn.2]
                  congr 2
                  omega
                · rcases List.mem_cons.mp hc with e | e
                  · exact ⟨_, e⟩
                  · exact ih2 c e
              · rw [if_neg hn] at hw; cases hw
        · simp only [if_neg hp] at hc
          cases hc
theorem told_played (s : Rust.St) : ∀ (cs : List (List (List Int))), PyFlat.told (PyFlat.played (fun s c => Zn64Neutral.step s (c.headD [])) s (cs.map PyZn64.whole)) = runs s (rowsOf cs) := by
  intro cs
  induction cs generalizing s with
  | nil => rfl
  | cons c r ih =>
    show PyFlat.told (_ :: PyFlat.played _ _ _) = (_ :: _) ++ runs _ _
    unfold PyFlat.told
    rw [List.flatMap_cons]
    congr 1
    exact ih _
/-- what is asked, laid open -/
theorem asked_open (l : List Int) (h : PyZn64.answers_asked l = true) : ∃ xs : List (List Int), l = flat xs ∧ PyZn64.answers l = runs Rust.start xs ∧ xs.length ≤ 200 ∧
    (∀ x ∈ xs, NeutralIO.bytes x = true) ∧ Rust.fits (xs.map Zn64Neutral.bytesOf) = true ∧ (PyZn64.answers l).length ≤ 10000000 := by
  unfold PyZn64.answers_asked at h
  cases hc : PyZn64.calls l with
  | none => rw [hc] at h; cases h
  | some cs =>
    rw [hc] at h
    simp only [Bool.and_eq_true, PyFlat.atMost, PyFlat.short, decide_eq_true_eq, Zn64Neutral.asked] at h
    obtain ⟨⟨h1, h2, h3, h4⟩, h5⟩ := h
    unfold PyZn64.calls at hc
    cases hd : PyFlat.calls PyZn64.shape l.length l with
    | none => rw [hd] at hc; cases hc
    | some ds =>
      rw [hd] at hc
      simp only [Option.some.injEq] at hc
      subst hc
      obtain ⟨e1, e2⟩ := calls_flat _ _ _ hd
      have em : (ds.map PyZn64.whole).map (fun c => c.headD []) = rowsOf ds := by
        unfold rowsOf
        rw [List.map_map]
        rfl
      rw [em] at h2 h4
      have ea : PyZn64.answers l = runs Rust.start (rowsOf ds) := by
        unfold PyZn64.answers PyZn64.calls
        rw [hd]
        exact told_played Rust.start ds
      refine ⟨rowsOf ds, e1, ea, ?_, ?_, h4, h5⟩
      · simpa [rowsOf] using h1
      · exact List.all_eq_true.mp h2
end Dk
namespace Dk
open PySem PySem.Spec PyProof.Rows L2 Evl RZ
local macro_rules | `(tactic| walk_at "hp") => `(tactic| first | assumption | exact L2.upd_same | (apply Dk.Ex.at (by assumption); walk_at "hp"))
local macro_rules | `(tactic| walk_at "hq") => `(tactic| first | assumption | (apply Evl.sq_of; walk_at "hp") | (apply Evl.st_of; walk_at "hp") | (apply Evl.ex_l (by assumption); walk_at "hq") | (apply Evl.ex_t (by assumption); walk_at "hq"))
local macro_rules | `(tactic| walk_at "ex") => `(tactic| first | exact Evl.Ex.refl _ | assumption | (refine Evl.Ex.trans ?_ (by assumption); walk_at "ex"))
local macro_rules | `(tactic| walk_at "e1") => `(tactic| first
  | (with_reducible refine if_t ?_) | (with_reducible refine if_f ?_) | (with_reducible refine s_seq ?_) | (with_reducible refine s_asg ?_) | (with_reducible refine s_name ?_) | (with_reducible refine s_drop ?_) | (with_reducible refine s_ret ?_) | (with_reducible refine s_nil ?_) | (with_reducible refine s_cons ?_)
  | (with_reducible refine s_c ?_)
  | ((with_reducible refine' s_var ?h1 ?_); (case h1 => rfl))
  | (with_reducible refine s_op ?_) | (with_reducible refine s_call ?_) | (with_reducible refine s_cb ?_) | (with_reducible refine s_fld ?_) | (with_reducible refine s_tup ?_) | (with_reducible refine s_lst ?_) | (with_reducible refine s_meth ?_) | (with_reducible refine s_test ?_) | (with_reducible refine s_B ?_)
  | (with_reducible refine s_not ?_) | (with_reducible refine s_xb ?_) | (with_reducible refine s_if ?_) | (with_reducible refine s_ifS ?_) | (with_reducible refine s_next ?_) | (with_reducible refine s_sfld ?_)
  | (with_reducible refine s_I0 ?_) | ((with_reducible refine' s_I ?h1 ?_); (case h1 => first | exact ⟨by decide, by decide⟩ | exact .inr ⟨by decide, by decide⟩ | (show (0 : Int) < _; decide) | (show (0 : Int) ≤ _; first | decide | omega) | exact ⟨by omega, by omega⟩))
  | ((with_reducible refine' s_xf ?h1 ?h2 ?h3 ?h4 ?_); (case h1 => walk_at "hp"); (case h2 => exact Tx.clsK (by assumption) (by decide +kernel)); (case h3 => exact Tx.noatK (by assumption) (by decide +kernel)); (case h4 => rfl))
  | ((with_reducible refine' s_xs ?h1 ?h2 ?h3 ?h4 ?h5 ?_); (case h1 => walk_at "hp"); (case h2 => exact Tx.clsK (by assumption) (by decide +kernel)); (case h3 => exact Tx.noatK (by assumption) (by decide +kernel)); (case h4 => exact Dk.lt_ble rfl); (case h5 => rfl))
  | ((with_reducible refine' s_eq ?h1 ?_); (case h1 => rfl)) | ((with_reducible refine' s_ne ?h1 ?_); (case h1 => rfl)) | (with_reducible refine s_isN ?_)
  | ((with_reducible refine' s_xt ?h1 ?_); (case h1 => exact Nat.le_of_ble_eq_true rfl); intro _ _ _ _ _)
  | ((with_reducible refine' s_xl ?h1 ?_); (case h1 => exact Nat.le_of_ble_eq_true rfl); intro _ _ _ _ _)
  | ((with_reducible refine' s_lenL ?h1 ?_); (case h1 => walk_at "hq")) | ((with_reducible refine' s_lenT ?h1 ?_); (case h1 => walk_at "hq"))
  | ((with_reducible refine' s_ixL ?h1 ?h2 ?_); (case h1 => walk_at "hq"); (case h2 => first | assumption | exact atI_0 | exact atI_1 | rfl))
  | ((with_reducible refine' s_ixT ?h1 ?h2 ?_); (case h1 => walk_at "hq"); (case h2 => first | assumption | exact atI_0 | exact atI_1 | rfl))
  | (with_reducible refine s_or ?_) | (with_reducible refine s_and ?_)
  | ((with_reducible refine' s_nin ?h1 ?h2 ?h3 ?_); (case h1 => walk_at "hq"); (case h2 => rfl); (case h3 => rfl))
  | (with_reducible refine s_tru ?_)
  | (with_reducible refine s_ip ?_) | (with_reducible refine s_for1 ?_) | (with_reducible refine s_for2 ?_) | (with_reducible refine s_for3 ?_) | (with_reducible refine s_forL ?_) | (with_reducible refine s_forT ?_) | (with_reducible refine s_lcL ?_) | (with_reducible refine s_lcT ?_) | (with_reducible refine s_lcS ?_) | (with_reducible refine s_lcE ?_) | (with_reducible refine s_lcZ ?_) | (with_reducible refine s_lcZA ?_) | (with_reducible refine s_lcR ?_) | (with_reducible refine s_chain ?_) | (with_reducible refine s_av ?_) | (with_reducible refine s_ov ?_) | (with_reducible refine s_yes ?_) | (with_reducible refine s_tbm ?_) | (with_reducible refine s_ord ?_) | (with_reducible refine s_raise ?_) | (with_reducible refine s_fldaug ?_) | (with_reducible refine s_add ?_) | (with_reducible refine s_slc ?_) | (with_reducible refine s_part ?_) | (with_reducible refine x_p1 ?_) | (with_reducible refine s_nopart ?_)
  | ((with_reducible refine' x_bm ?h1 ?_); (case h1 => walk_at "hq")) | (with_reducible refine s_par1 ?_) | (with_reducible refine s_un ?_) | (with_reducible refine s_uI ?_))
local macro_rules | `(tactic| walk_at "ev") => `(tactic| repeat walk_at "e1")
/-! ### fold -/
abbrev s_fold : Stmt := top 10
theorem sc_fold : FnScope ["places", "number"] ["places", "number"] (defScope s_fold) := ⟨rfl, rfl, rfl, by decide +kernel, rfl, by decide +kernel, by decide +kernel⟩
def sp_fold (K : PySem.W.Frag) : Sp := fun vs H Q _ => vs.length = 2 ∧ ∃ n a : Nat, vs = [natV n, natV a] ∧ Q (natV (R7293g.Spec.fold n a)) H
def t_fold (K : PySem.W.Frag) : TS :=
  (tRet (tOp rrXor (tVar 1) (tOp rrShr (tVar 1) (tVar 0))))
section
variable {P : Program} {w : World} {K : PySem.W.Frag} {mg : Str → Option Value} {base : Heap}
theorem pure_fold (T : Tx K mg) (vs : List V) (H : Hp) (Q : VK) (E : XK) (h : sp_fold K vs H Q E) : t_fold K { nx := fun _ H' => Q .non H', rt := Q } (start ["places", "number"] vs) H := by
  obtain ⟨_, n, a, rfl, k⟩ := h
  unfold t_fold
  walk_at "ev"
  have e : (a : Int) / 2 ^ (n : Int).toNat = ((a >>> n : Nat) : Int) := by
    rw [Nat.shiftRight_eq_div_pow, Int.toNat_natCast]
    norm_cast
  have e2 : Builtin.bitXor (a : Int) ((a : Int) / 2 ^ (n : Int).toNat) = (R7293g.Spec.fold n a : Nat) := by
    rw [e, Bits.bitXor_pp (Int.natCast_nonneg _) (Int.natCast_nonneg _)]
    rfl
  show Q (.int (Builtin.bitXor (a : Int) ((a : Int) / 2 ^ (n : Int).toNat))) H
  rw [e2]
  exact k
theorem ok_fold (T : Tx K mg) : Pk P w K mg base CX0 "fold" ["places", "number"] 1 (sp_fold K) := by
  obtain ⟨fd, F⟩ := T.fn 2 (p := ("fold", none)) (n := "fold") (q := "fold") (st := s_fold)
  refine ⟨⟨_, fd, T.glo 2, F.kp, F.bindsN fun _ _ _ _ _ _ us hl => match us, hl with | [_, _], _ => rfl, F.ok sc_fold (fun _ _ _ _ h => h.1) fun cdv A outer s H vs Q E hr h => ⟨t_fold K, PSs.nox ?_, pure_fold T vs H Q E h⟩⟩⟩
  exact (pss_one (ps_ret (pe_op op_xor (pv 1) (pe_op op_shr (pv 1) (pv 0)))))
end
/-! ### mix -/
abbrev s_mix : Stmt := top 11
theorem sc_mix : FnScope ["key", "turn", "half", "first"] ["key", "turn", "half"] (defScope s_mix) := ⟨rfl, rfl, rfl, by decide +kernel, rfl, by decide +kernel, by decide +kernel⟩
def sp_mix (K : PySem.W.Frag) : Sp := fun vs H Q _ => vs.length = 3 ∧ ∃ k i r : Nat, vs = [natV k, natV i, natV r] ∧ i ≤ 100 ∧ Q (natV (R7293g.Spec.mix k i r)) H
def t_mix (K : PySem.W.Frag) : TS :=
  (tSeq (tAsg (tCall (sp_fold K) [] E0 (tCons (tC (.int 5)) (tCons (tOp rrMod (tOp rrAdd (tOp rrAdd (tOp rrMul (tVar 2) (tC (.int 9377))) (tOp rrDivN (tVar 0) (tOp rrAdd (tVar 1) (tC (.int 1))))) (tOp rrMul (tVar 1) (tC (.int 7919)))) (tC (.int 16384))) tNil))) (gName 3))
  (tRet (tOp rrMod (tCall (sp_fold K) [] E0 (tCons (tC (.int 7)) (tCons (tOp rrMod (tOp rrMul (tVar 3) (tC (.int 10973))) (tC (.int 16384))) tNil))) (tC (.int 16384)))))
section
variable {P : Program} {w : World} {K : PySem.W.Frag} {mg : Str → Option Value} {base : Heap}
theorem pure_mix (T : Tx K mg) (vs : List V) (H : Hp) (Q : VK) (E : XK) (h : sp_mix K vs H Q E) : t_mix K { nx := fun _ H' => Q .non H', rt := Q } (start ["key", "turn", "half", "first"] vs) H := by
  obtain ⟨_, k, i, r, rfl, hi, q⟩ := h
  unfold t_mix
  walk_at "ev"
  have e1 : ((r : Int) * 9377 + (k : Int).fdiv ((i : Int) + 1) + (i : Int) * 7919) % 16384 = (((r * 9377 + k / (i + 1) + i * 7919) % 16384 : Nat) : Int) := by
    rw [Int.fdiv_eq_ediv_of_nonneg _ (by omega)]
    norm_cast
  refine ⟨rfl, 5, (r * 9377 + k / (i + 1) + i * 7919) % 16384, ?_, ?_⟩
  · show [V.int 5, V.int _] = _
    rw [e1]
    rfl
  walk_at "ev"
  refine ⟨rfl, 7, R7293g.Spec.fold 5 ((r * 9377 + k / (i + 1) + i * 7919) % 16384) * 10973 % 16384, ?_, ?_⟩
  · show [V.int 7, V.int _] = [V.int 7, V.int _]
    norm_cast
  walk_at "ev"
  exact q
theorem ok_mix (T : Tx K mg) : Pk P w K mg base CX0 "mix" ["key", "turn", "half"] 2 (sp_mix K) := by
  obtain ⟨fd, F⟩ := T.fn 3 (p := ("mix", none)) (n := "mix") (q := "mix") (st := s_mix)
  refine ⟨⟨_, fd, T.glo 3, F.kp, F.bindsN fun _ _ _ _ _ _ us hl => match us, hl with | [_, _, _], _ => rfl, F.ok sc_mix (fun _ _ _ _ h => h.1) fun cdv A outer s H vs Q E hr h => ⟨t_mix K, PSs.nox ?_, pure_mix T vs H Q E h⟩⟩⟩
  exact (pss_cons (ps_set (i := 3) sc_mix.nd rfl (Or.inl rfl) (pe_pk (ok_fold T) (hr.mono (by decide)) pass0 (pa_cons pe_int (pa_cons (pe_op op_mod (pe_op op_add (pe_op op_add (pe_op op_mul (pv 2) pe_int) (pe_op op_fdivN (pv 0) (pe_op op_add (pv 1) pe_int))) (pe_op op_mul (pv 1) pe_int)) (pe_gi (T.int 49))) pa_nil))))
    (pss_one (ps_ret (pe_op op_mod (pe_pk (ok_fold T) (hr.mono (by decide)) pass0 (pa_cons pe_int (pa_cons (pe_op op_mod (pe_op op_mul (pv 3) pe_int) (pe_gi (T.int 49))) pa_nil))) (pe_gi (T.int 49))))))
end
/-! ### hidden -/
abbrev s_hidden : Stmt := top 12
theorem sc_hidden : FnScope ["key", "number", "turn", "left", "right"] ["key", "number"] (defScope s_hidden) := ⟨rfl, rfl, rfl, by decide +kernel, rfl, by decide +kernel, by decide +kernel⟩
def sp_hidden (K : PySem.W.Frag) : Sp := fun vs H Q _ => vs.length = 2 ∧ ∃ k n : Nat, vs = [natV k, natV n] ∧ Q (natV (R7293g.Spec.join (R7293g.Spec.hide k (R7293g.Spec.split n)))) H
/-- the first i rounds -/
def hideN (k : Nat) (x : Nat × Nat) : Nat → Nat × Nat
  | 0 => x
  | i + 1 => R7293g.Spec.turn k i (hideN k x i)
theorem xor_nat (a b : Nat) : Builtin.bitXor (a : Int) (b : Int) = ((a ^^^ b : Nat) : Int) := by
  rw [Bits.bitXor_pp (Int.natCast_nonneg _) (Int.natCast_nonneg _)]
  rfl
def t_hidden (K : PySem.W.Frag) : TS :=
  (tSeq (tPar 3 4 (tCons (tOp rrDiv (tVar 1) (tC (.int 16384))) (tCons (tOp rrMod (tVar 1) (tC (.int 16384))) tNil)))
  (tSeq (tFor (iRng1 (tCons (tC (.int 4)) tNil)) (gName 2) (tPar 3 4 (tCons (tVar 4) (tCons (tOp rrXor (tVar 3) (tCall (sp_mix K) [] E0 (tCons (tVar 0) (tCons (tVar 2) (tCons (tVar 4) tNil))))) tNil))))
  (tRet (tOp rrAdd (tOp rrMul (tVar 3) (tC (.int 16384))) (tVar 4)))))
section
variable {P : Program} {w : World} {K : PySem.W.Frag} {mg : Str → Option Value} {base : Heap}
theorem pure_hidden (T : Tx K mg) (vs : List V) (H : Hp) (Q : VK) (E : XK) (h : sp_hidden K vs H Q E) : t_hidden K { nx := fun _ H' => Q .non H', rt := Q } (start ["key", "number", "turn", "left", "right"] vs) H := by
  obtain ⟨_, k, n, rfl, q⟩ := h
  unfold t_hidden
  walk_at "ev"
  refine x_r1 (n := 4) (by decide) (fun i σ H' => H' = H ∧ ∃ x, σ = [some (natV k), some (natV n), x, some (natV (hideN k (R7293g.Spec.split n) i).1), some (natV (hideN k (R7293g.Spec.split n) i).2)]) ⟨rfl, _, rfl⟩ (fun i σ H' hi p => ?_) (fun σ H' p => ?_)
  · obtain ⟨rfl, x, rfl⟩ := p
    walk_at "ev"
    refine ⟨rfl, k, i, _, rfl, by omega, ?_⟩
    walk_at "ev"
    rw [xor_nat]
    exact ⟨rfl, _, rfl⟩
  · obtain ⟨rfl, x, rfl⟩ := p
    walk_at "ev"
    exact q
theorem ok_hidden (T : Tx K mg) : Pk P w K mg base CX0 "hidden" ["key", "number"] 3 (sp_hidden K) := by
  obtain ⟨fd, F⟩ := T.fn 4 (p := ("hidden", none)) (n := "hidden") (q := "hidden") (st := s_hidden)
  refine ⟨⟨_, fd, T.glo 4, F.kp, F.bindsN fun _ _ _ _ _ _ us hl => match us, hl with | [_, _], _ => rfl, F.ok sc_hidden (fun _ _ _ _ h => h.1) fun cdv A outer s H vs Q E hr h => ⟨t_hidden K, PSs.nox ?_, pure_hidden T vs H Q E h⟩⟩⟩
  exact (pss_cons (ps_par (by rfl) sc_hidden.nd rfl rfl (by decide) rfl rfl (pa_cons (pe_op op_fdiv (pv 1) (pe_gi (T.int 49))) (pa_cons (pe_op op_mod (pv 1) (pe_gi (T.int 49))) pa_nil)) (by rfl))
    (pss_cons (ps_for PassesOwn.never rfl (pi_range1 (by rfl) (T.free 44) (pa_cons (pe_gi (T.int 51)) pa_nil)) (pg_name (i := 2) sc_hidden.nd rfl (Or.inl rfl)) (pss_one (ps_par (by rfl) sc_hidden.nd rfl rfl (by decide) rfl rfl (pa_cons (pv 4) (pa_cons (pe_op op_xor (pv 3) (pe_pk (ok_mix T) (hr.mono (by decide)) pass0 (pa_cons (pv 0) (pa_cons (pv 2) (pa_cons (pv 4) pa_nil))))) pa_nil)) (by rfl))))
    (pss_one (ps_ret (pe_op op_add (pe_op op_mul (pv 3) (pe_gi (T.int 49))) (pv 4))))))
end
/-! ### shown -/
abbrev s_shown : Stmt := top 13
theorem sc_shown : FnScope ["key", "number", "turn", "left", "right"] ["key", "number"] (defScope s_shown) := ⟨rfl, rfl, rfl, by decide +kernel, rfl, by decide +kernel, by decide +kernel⟩
def sp_shown (K : PySem.W.Frag) : Sp := fun vs H Q _ => vs.length = 2 ∧ ∃ k n : Nat, vs = [natV k, natV n] ∧ Q (natV (R7293g.Spec.join (R7293g.Spec.show_ k (R7293g.Spec.split n)))) H
/-- the first i rounds back -/
def showN (k : Nat) (x : Nat × Nat) : Nat → Nat × Nat
  | 0 => x
  | i + 1 => R7293g.Spec.unturn k (3 - i) (showN k x i)
def t_shown (K : PySem.W.Frag) : TS :=
  (tSeq (tPar 3 4 (tCons (tOp rrDiv (tVar 1) (tC (.int 16384))) (tCons (tOp rrMod (tVar 1) (tC (.int 16384))) tNil)))
  (tSeq (tFor (iRng3 (tCons (tOp rrSub (tC (.int 4)) (tC (.int 1))) (tCons (tUn (rU fun i => .int (-i)) (tC (.int 1))) (tCons (tUn (rU fun i => .int (-i)) (tC (.int 1))) tNil)))) (gName 2) (tPar 3 4 (tCons (tOp rrXor (tVar 4) (tCall (sp_mix K) [] E0 (tCons (tVar 0) (tCons (tVar 2) (tCons (tVar 3) tNil))))) (tCons (tVar 3) tNil))))
  (tRet (tOp rrAdd (tOp rrMul (tVar 3) (tC (.int 16384))) (tVar 4)))))
section
variable {P : Program} {w : World} {K : PySem.W.Frag} {mg : Str → Option Value} {base : Heap}
theorem pure_shown (T : Tx K mg) (vs : List V) (H : Hp) (Q : VK) (E : XK) (h : sp_shown K vs H Q E) : t_shown K { nx := fun _ H' => Q .non H', rt := Q } (start ["key", "number", "turn", "left", "right"] vs) H := by
  obtain ⟨_, k, n, rfl, q⟩ := h
  unfold t_shown
  walk_at "ev"
  refine x_r3 (n := 4) (RgC.neg (i := 4 - 1) (j := -1) (by decide) (by decide) (by decide) (by decide)) (fun i σ H' => H' = H ∧ ∃ x, σ = [some (natV k), some (natV n), x, some (natV (showN k (R7293g.Spec.split n) i).1), some (natV (showN k (R7293g.Spec.split n) i).2)]) ⟨rfl, _, rfl⟩ (fun i σ H' hi p => ?_) (fun σ H' p => ?_)
  · obtain ⟨rfl, x, rfl⟩ := p
    walk_at "ev"
    have e : ((4 : Int) - 1 + (i : Nat) * -1) = ((3 - i : Nat) : Int) := by omega
    refine ⟨rfl, k, 3 - i, (showN k (R7293g.Spec.split n) i).1, ?_, by omega, ?_⟩
    · show [natV k, V.int (4 - 1 + (i : Nat) * -1), _] = [natV k, V.int ((3 - i : Nat) : Int), _]
      rw [e]
    walk_at "ev"
    rw [xor_nat]
    exact ⟨rfl, _, rfl⟩
  · obtain ⟨rfl, x, rfl⟩ := p
    walk_at "ev"
    exact q
theorem ok_shown (T : Tx K mg) : Pk P w K mg base CX0 "shown" ["key", "number"] 3 (sp_shown K) := by
  obtain ⟨fd, F⟩ := T.fn 5 (p := ("shown", none)) (n := "shown") (q := "shown") (st := s_shown)
  refine ⟨⟨_, fd, T.glo 5, F.kp, F.bindsN fun _ _ _ _ _ _ us hl => match us, hl with | [_, _], _ => rfl, F.ok sc_shown (fun _ _ _ _ h => h.1) fun cdv A outer s H vs Q E hr h => ⟨t_shown K, PSs.nox ?_, pure_shown T vs H Q E h⟩⟩⟩
  exact (pss_cons (ps_par (by rfl) sc_shown.nd rfl rfl (by decide) rfl rfl (pa_cons (pe_op op_fdiv (pv 1) (pe_gi (T.int 49))) (pa_cons (pe_op op_mod (pv 1) (pe_gi (T.int 49))) pa_nil)) (by rfl))
    (pss_cons (ps_for PassesOwn.never rfl (pi_range3 (by rfl) (T.free 44) (pa_cons (pe_op op_sub (pe_gi (T.int 51)) pe_int) (pa_cons (pe_un un_neg pe_int) (pa_cons (pe_un un_neg pe_int) pa_nil)))) (pg_name (i := 2) sc_shown.nd rfl (Or.inl rfl)) (pss_one (ps_par (by rfl) sc_shown.nd rfl rfl (by decide) rfl rfl (pa_cons (pe_op op_xor (pv 4) (pe_pk (ok_mix T) (hr.mono (by decide)) pass0 (pa_cons (pv 0) (pa_cons (pv 2) (pa_cons (pv 3) pa_nil))))) (pa_cons (pv 3) pa_nil)) (by rfl))))
    (pss_one (ps_ret (pe_op op_add (pe_op op_mul (pv 3) (pe_gi (T.int 49))) (pv 4))))))
end
end Dk
namespace Dk
open PySem PySem.Spec PyProof.Rows L2 Evl RZ
local macro_rules | `(tactic| walk_at "hp") => `(tactic| first | assumption | exact L2.upd_same | (apply Dk.Ex.at (by assumption); walk_at "hp"))
local macro_rules | `(tactic| walk_at "hq") => `(tactic| first | assumption | (apply Evl.sq_of; walk_at "hp") | (apply Evl.st_of; walk_at "hp") | (apply Evl.ex_l (by assumption); walk_at "hq") | (apply Evl.ex_t (by assumption); walk_at "hq"))
local macro_rules | `(tactic| walk_at "ex") => `(tactic| first | exact Evl.Ex.refl _ | assumption | (refine Evl.Ex.trans ?_ (by assumption); walk_at "ex"))
local macro_rules | `(tactic| walk_at "e1") => `(tactic| first
  | (with_reducible refine if_t ?_) | (with_reducible refine if_f ?_) | (with_reducible refine s_seq ?_) | (with_reducible refine s_asg ?_) | (with_reducible refine s_name ?_) | (with_reducible refine s_drop ?_) | (with_reducible refine s_ret ?_) | (with_reducible refine s_nil ?_) | (with_reducible refine s_cons ?_)
  | (with_reducible refine s_c ?_)
  | ((with_reducible refine' s_var ?h1 ?_); (case h1 => rfl))
  | (with_reducible refine s_op ?_) | (with_reducible refine s_call ?_) | (with_reducible refine s_cb ?_) | (with_reducible refine s_fld ?_) | (with_reducible refine s_tup ?_) | (with_reducible refine s_lst ?_) | (with_reducible refine s_meth ?_) | (with_reducible refine s_test ?_) | (with_reducible refine s_B ?_)
  | (with_reducible refine s_not ?_) | (with_reducible refine s_xb ?_) | (with_reducible refine s_if ?_) | (with_reducible refine s_ifS ?_) | (with_reducible refine s_next ?_) | (with_reducible refine s_sfld ?_)
  | (with_reducible refine s_I0 ?_) | ((with_reducible refine' s_I ?h1 ?_); (case h1 => first | exact ⟨by decide, by decide⟩ | exact .inr ⟨by decide, by decide⟩ | (show (0 : Int) < _; decide) | (show (0 : Int) ≤ _; first | decide | omega) | exact ⟨by omega, by omega⟩))
  | ((with_reducible refine' s_xf ?h1 ?h2 ?h3 ?h4 ?_); (case h1 => walk_at "hp"); (case h2 => exact Tx.clsK (by assumption) (by decide +kernel)); (case h3 => exact Tx.noatK (by assumption) (by decide +kernel)); (case h4 => rfl))
  | ((with_reducible refine' s_xs ?h1 ?h2 ?h3 ?h4 ?h5 ?_); (case h1 => walk_at "hp"); (case h2 => exact Tx.clsK (by assumption) (by decide +kernel)); (case h3 => exact Tx.noatK (by assumption) (by decide +kernel)); (case h4 => exact Dk.lt_ble rfl); (case h5 => rfl))
  | ((with_reducible refine' s_eq ?h1 ?_); (case h1 => rfl)) | ((with_reducible refine' s_ne ?h1 ?_); (case h1 => rfl)) | (with_reducible refine s_isN ?_)
  | ((with_reducible refine' s_xt ?h1 ?_); (case h1 => exact Nat.le_of_ble_eq_true rfl); intro _ _ _ _ _)
  | ((with_reducible refine' s_xl ?h1 ?_); (case h1 => exact Nat.le_of_ble_eq_true rfl); intro _ _ _ _ _)
  | ((with_reducible refine' s_lenL ?h1 ?_); (case h1 => walk_at "hq")) | ((with_reducible refine' s_lenT ?h1 ?_); (case h1 => walk_at "hq"))
  | ((with_reducible refine' s_ixL ?h1 ?h2 ?_); (case h1 => walk_at "hq"); (case h2 => first | assumption | exact atI_0 | exact atI_1 | rfl))
  | ((with_reducible refine' s_ixT ?h1 ?h2 ?_); (case h1 => walk_at "hq"); (case h2 => first | assumption | exact atI_0 | exact atI_1 | rfl))
  | (with_reducible refine s_or ?_) | (with_reducible refine s_and ?_)
  | ((with_reducible refine' s_nin ?h1 ?h2 ?h3 ?_); (case h1 => walk_at "hq"); (case h2 => rfl); (case h3 => rfl))
  | (with_reducible refine s_tru ?_)
  | (with_reducible refine s_ip ?_) | (with_reducible refine s_for1 ?_) | (with_reducible refine s_for2 ?_) | (with_reducible refine s_for3 ?_) | (with_reducible refine s_forL ?_) | (with_reducible refine s_forT ?_) | (with_reducible refine s_lcL ?_) | (with_reducible refine s_lcT ?_) | (with_reducible refine s_lcS ?_) | (with_reducible refine s_lcE ?_) | (with_reducible refine s_lcZ ?_) | (with_reducible refine s_lcZA ?_) | (with_reducible refine s_lcR ?_) | (with_reducible refine s_chain ?_) | (with_reducible refine s_av ?_) | (with_reducible refine s_ov ?_) | (with_reducible refine s_yes ?_) | (with_reducible refine s_tbm ?_) | (with_reducible refine s_ord ?_) | (with_reducible refine s_raise ?_) | (with_reducible refine s_fldaug ?_) | (with_reducible refine s_add ?_) | (with_reducible refine s_slc ?_) | (with_reducible refine s_part ?_) | (with_reducible refine x_p1 ?_) | (with_reducible refine s_nopart ?_)
  | ((with_reducible refine' x_bm ?h1 ?_); (case h1 => walk_at "hq")) | (with_reducible refine s_par1 ?_) | (with_reducible refine s_un ?_) | (with_reducible refine s_uI ?_))
local macro_rules | `(tactic| walk_at "ev") => `(tactic| repeat walk_at "e1")
-- plain
/-! ### values -/
abbrev octV (o : UInt8) : V := .int ((o.toNat : Nat) : Int)
mutual
def VAt (K : PySem.W.Frag) (H : Hp) : RWire.Value → Addr → Prop
  | .nothing, a => SqT K H a [.str "nothing"]
  | .null, a => SqT K H a [.str "null"]
  | .bool b, a => SqT K H a [.str "boolean", .bl b]
  | .int i, a => SqT K H a [.str "integer", .int i]
  | .text u, a => ∃ p, SqT K H a [.str "text", .ref p] ∧ SqT K H p (u.map octV)
  | .list l, a => ∃ p xs, SqT K H a [.str "list", .ref p] ∧ SqT K H p (xs.map V.ref) ∧ VAll K H l xs
  | .record l, a => ∃ p xs, SqT K H a [.str "record", .ref p] ∧ SqT K H p (xs.map V.ref) ∧ VEnts K H l xs
  | .big _, _ => False
  | .octets _, _ => False
  | .wide _, _ => False
def VAll (K : PySem.W.Frag) (H : Hp) : List RWire.Value → List Addr → Prop
  | [], [] => True
  | v :: r, a :: s => VAt K H v a ∧ VAll K H r s
  | [], _ :: _ => False
  | _ :: _, [] => False
def VEnts (K : PySem.W.Frag) (H : Hp) : List (RWire.Text × RWire.Value) → List Addr → Prop
  | [], [] => True
  | e :: r, a :: s => (∃ n v, SqT K H a [.ref n, .ref v] ∧ SqT K H n (e.1.map octV) ∧ VAt K H e.2 v) ∧ VEnts K H r s
  | [], _ :: _ => False
  | _ :: _, [] => False
end
mutual
theorem VAt.mono {K : PySem.W.Frag} {H H' : Hp} (t : TX K H H') : ∀ (v : RWire.Value) (a : Addr), VAt K H v a → VAt K H' v a
  | .nothing, a, h => by unfold VAt at h ⊢; exact t _ _ h
  | .null, a, h => by unfold VAt at h ⊢; exact t _ _ h
  | .bool b, a, h => by unfold VAt at h ⊢; exact t _ _ h
  | .int i, a, h => by unfold VAt at h ⊢; exact t _ _ h
  | .text u, a, h => by
    unfold VAt at h ⊢
    obtain ⟨p, h1, h2⟩ := h
    exact ⟨p, t _ _ h1, t _ _ h2⟩
  | .list l, a, h => by
    unfold VAt at h ⊢
    obtain ⟨p, xs, h1, h2, h3⟩ := h
    exact ⟨p, xs, t _ _ h1, t _ _ h2, VAll.mono t l xs h3⟩
  | .record l, a, h => by
    unfold VAt at h ⊢
    obtain ⟨p, xs, h1, h2, h3⟩ := h
    exact ⟨p, xs, t _ _ h1, t _ _ h2, VEnts.mono t l xs h3⟩
  | .big _, _, h => by unfold VAt at h; exact h.elim
  | .octets _, _, h => by unfold VAt at h; exact h.elim
  | .wide _, _, h => by unfold VAt at h; exact h.elim
theorem VAll.mono {K : PySem.W.Frag} {H H' : Hp} (t : TX K H H') : ∀ (l : List RWire.Value) (xs : List Addr), VAll K H l xs → VAll K H' l xs
  | [], [], _ => by unfold VAll; trivial
  | v :: r, a :: s, h => by
    unfold VAll at h ⊢
    exact ⟨VAt.mono t v a h.1, VAll.mono t r s h.2⟩
  | [], _ :: _, h => by unfold VAll at h; exact h.elim
  | _ :: _, [], h => by unfold VAll at h; exact h.elim
theorem VEnts.mono {K : PySem.W.Frag} {H H' : Hp} (t : TX K H H') : ∀ (l : List (RWire.Text × RWire.Value)) (xs : List Addr), VEnts K H l xs → VEnts K H' l xs
  | [], [], _ => by unfold VEnts; trivial
  | e :: r, a :: s, h => by
    unfold VEnts at h ⊢
    obtain ⟨⟨n, v, h1, h2, h3⟩, h4⟩ := h
    exact ⟨⟨n, v, t _ _ h1, t _ _ h2, VAt.mono t e.2 v h3⟩, VEnts.mono t r s h4⟩
  | [], _ :: _, h => by unfold VEnts at h; exact h.elim
  | _ :: _, [], h => by unfold VEnts at h; exact h.elim
end
section
variable {K : PySem.W.Frag} {H H' : Hp}
theorem vall_iff : ∀ {l : List RWire.Value} {xs : List Addr}, VAll K H l xs ↔ All2 (VAt K H) l xs
  | [], [] => by unfold VAll; exact Iff.rfl
  | v :: r, a :: s => by
    unfold VAll
    rw [vall_iff]
    exact Iff.rfl
  | [], _ :: _ => by unfold VAll; exact Iff.rfl
  | _ :: _, [] => by unfold VAll; exact Iff.rfl
/-- a pair of a name and a value -/
def EAt (K : PySem.W.Frag) (H : Hp) (e : RWire.Text × RWire.Value) (a : Addr) : Prop := ∃ n v, SqT K H a [.ref n, .ref v] ∧ SqT K H n (e.1.map octV) ∧ VAt K H e.2 v
theorem vents_iff : ∀ {l : List (RWire.Text × RWire.Value)} {xs : List Addr}, VEnts K H l xs ↔ All2 (EAt K H) l xs
  | [], [] => by unfold VEnts; exact Iff.rfl
  | v :: r, a :: s => by
    unfold VEnts
    rw [vents_iff]
    exact Iff.rfl
  | [], _ :: _ => by unfold VEnts; exact Iff.rfl
  | _ :: _, [] => by unfold VEnts; exact Iff.rfl
theorem VAt.ex (e : Ex H H') {v : RWire.Value} {a : Addr} (h : VAt K H v a) : VAt K H' v a := VAt.mono (TX.of e) v a h
theorem EAt.mono (t : TX K H H') {v : RWire.Text × RWire.Value} {a : Addr} (h : EAt K H v a) : EAt K H' v a := by
  obtain ⟨n, u, h1, h2, h3⟩ := h
  exact ⟨n, u, t _ _ h1, t _ _ h2, VAt.mono t _ _ h3⟩
/-- the first of a value's tuple -/
def vtag : RWire.Value → Str
  | .nothing => "nothing"
  | .null => "null"
  | .bool _ => "boolean"
  | .int _ => "integer"
  | .text _ => "text"
  | .list _ => "list"
  | .record _ => "record"
  | _ => "?"
theorem VAt.tag {v : RWire.Value} {a : Addr} (h : VAt K H v a) : ∃ r, SqT K H a (.str (vtag v) :: r) := by
  cases v <;> unfold VAt at h
  case text => exact ⟨_, h.choose_spec.1⟩
  case list =>
    obtain ⟨p, xs, h1, _⟩ := h
    exact ⟨_, h1⟩
  case record =>
    obtain ⟨p, xs, h1, _⟩ := h
    exact ⟨_, h1⟩
  all_goals first | exact ⟨_, h⟩ | exact h.elim
end
def numIn (lo hi : Int) : RWire.Value → Bool
  | .int i => decide (lo ≤ i) && decide (i ≤ hi)
  | _ => false
def isListV (lo hi : Int) : RWire.Value → Bool
  | .list l => decide (lo ≤ (l.length : Nat)) && decide (((l.length : Nat) : Int) ≤ hi)
  | _ => false
def areNums (least most lo hi : Int) : RWire.Value → Bool
  | .list l => isListV least most (.list l) && l.all (numIn lo hi)
  | _ => false

theorem tag_int {v : RWire.Value} (h : decide (V.str (vtag v) = V.str "integer") = true) : ∃ i, v = .int i := by
  have h : vtag v = "integer" := V.str.inj (of_decide_eq_true h)
  cases v <;> simp only [vtag] at h <;> first
    | exact ⟨_, rfl⟩
    | exact absurd h (by decide)
theorem tag_list {v : RWire.Value} (h : decide (V.str (vtag v) = V.str "list") = true) : ∃ l, v = .list l := by
  have h : vtag v = "list" := V.str.inj (of_decide_eq_true h)
  cases v <;> simp only [vtag] at h <;> first
    | exact ⟨_, rfl⟩
    | exact absurd h (by decide)
theorem numIn_no {lo hi : Int} {v : RWire.Value} (h : decide (V.str (vtag v) = V.str "integer") = false) : numIn lo hi v = false := by
  have h := of_decide_eq_false h
  cases v
  case int i => exact absurd rfl h
  all_goals rfl
theorem isListV_no {lo hi : Int} {v : RWire.Value} (h : decide (V.str (vtag v) = V.str "list") = false) : isListV lo hi v = false := by
  have h := of_decide_eq_false h
  cases v
  case list i => exact absurd rfl h
  all_goals rfl

/-! ### number_in -/
abbrev s_number_in : Stmt := top 37
theorem sc_number_in : FnScope ["value", "low", "high"] ["value", "low", "high"] (defScope s_number_in) := ⟨rfl, rfl, rfl, by decide +kernel, rfl, by decide +kernel, by decide +kernel⟩
def sp_number_in (K : PySem.W.Frag) : Sp := fun vs H Q _ => vs.length = 3 ∧ ∃ a v lo hi, vs = [.ref a, .int lo, .int hi] ∧ VAt K H v a ∧ Q (.bl (numIn lo hi v)) H
def t_number_in (K : PySem.W.Frag) : TS :=
  (tRet (tAndV (tOp rEq (tOp (rIxT K) (tVar 0) (tC (.int 0))) (tC (.str "integer"))) (tChain rrLe rrLe (tVar 1) (tOp (rIxT K) (tVar 0) (tC (.int 1))) (tVar 2))))
section
variable {P : Program} {w : World} {K : PySem.W.Frag} {mg : Str → Option Value} {base : Heap}
theorem pure_number_in (T : Tx K mg) (vs : List V) (H : Hp) (Q : VK) (E : XK) (h : sp_number_in K vs H Q E) : t_number_in K { nx := fun _ H' => Q .non H', rt := Q } (start ["value", "low", "high"] vs) H := by
  obtain ⟨_, a, v, lo, hi, rfl, hv, q⟩ := h
  unfold t_number_in
  obtain ⟨r, hr⟩ := hv.tag
  walk_at "ev"
  refine x_a (fun e => ?_) (fun e => ?_)
  · obtain ⟨i, rfl⟩ := tag_int e
    have hv : SqT K H a [.str "integer", .int i] := by unfold VAt at hv; exact hv
    walk_at "ev"
    refine x_c (fun e => ?_) (fun e => ?_)
    · walk_at "ev"
      have z : numIn lo hi (.int i) = decide (i ≤ hi) := by
        show (decide (lo ≤ i) && decide (i ≤ hi)) = _
        rw [e, Bool.true_and]
      rw [z] at q
      exact q
    · have z : numIn lo hi (.int i) = false := by
        show (decide (lo ≤ i) && decide (i ≤ hi)) = _
        rw [e, Bool.false_and]
      rw [z] at q
      exact q
  · rw [numIn_no e] at q
    exact q
theorem ok_number_in (T : Tx K mg) : Pk P w K mg base CX0 "number_in" ["value", "low", "high"] 1 (sp_number_in K) := by
  obtain ⟨fd, F⟩ := T.fn 17 (p := ("number_in", none)) (n := "number_in") (q := "number_in") (st := s_number_in)
  refine ⟨⟨_, fd, T.glo 17, F.kp, F.bindsN fun _ _ _ _ _ _ us hl => match us, hl with | [_, _, _], _ => rfl, F.ok sc_number_in (fun _ _ _ _ h => h.1) fun cdv A outer s H vs Q E hr h => ⟨t_number_in K, PSs.nox ?_, pure_number_in T vs H Q E h⟩⟩⟩
  exact (pss_one (ps_ret (pe_and (pe_cmpR op_eq (pe_ix ix_tup (pv 0) pe_int (fun _ _ => rfl)) pe_str (nomark _)) (pe_one (pe_chain op_le op_le (pv 1) (pe_ix ix_tup (pv 0) pe_int (fun _ _ => rfl)) (pv 2))))))
end
/-! ### is_list -/
abbrev s_is_list : Stmt := top 38
theorem sc_is_list : FnScope ["value", "least", "most"] ["value", "least", "most"] (defScope s_is_list) := ⟨rfl, rfl, rfl, by decide +kernel, rfl, by decide +kernel, by decide +kernel⟩
def sp_is_list (K : PySem.W.Frag) : Sp := fun vs H Q _ => vs.length = 3 ∧ ∃ a v lo hi, vs = [.ref a, .int lo, .int hi] ∧ VAt K H v a ∧ Q (.bl (isListV lo hi v)) H
def t_is_list (K : PySem.W.Frag) : TS :=
  (tRet (tAndV (tOp rEq (tOp (rIxT K) (tVar 0) (tC (.int 0))) (tC (.str "list"))) (tChain rrLe rrLe (tVar 1) (tCB (rLenS K) (tCons (tOp (rIxT K) (tVar 0) (tC (.int 1))) tNil)) (tVar 2))))
section
variable {P : Program} {w : World} {K : PySem.W.Frag} {mg : Str → Option Value} {base : Heap}
theorem pure_is_list (T : Tx K mg) (vs : List V) (H : Hp) (Q : VK) (E : XK) (h : sp_is_list K vs H Q E) : t_is_list K { nx := fun _ H' => Q .non H', rt := Q } (start ["value", "least", "most"] vs) H := by
  obtain ⟨_, a, v, lo, hi, rfl, hv, q⟩ := h
  unfold t_is_list
  obtain ⟨r, hr⟩ := hv.tag
  walk_at "ev"
  refine x_a (fun e => ?_) (fun e => ?_)
  · obtain ⟨l, rfl⟩ := tag_list e
    have hv : ∃ p xs, SqT K H a [.str "list", .ref p] ∧ SqT K H p (xs.map V.ref) ∧ VAll K H l xs := by unfold VAt at hv; exact hv
    obtain ⟨p, xs, h1, h2, h3⟩ := hv
    have hl : (xs.map V.ref).length = l.length := by rw [List.length_map, (vall_iff.mp h3).len]
    walk_at "ev"
    rw [hl]
    refine x_c (fun e => ?_) (fun e => ?_)
    · walk_at "ev"
      have z : isListV lo hi (.list l) = decide (((l.length : Nat) : Int) ≤ hi) := by
        show (decide (lo ≤ (l.length : Nat)) && decide (((l.length : Nat) : Int) ≤ hi)) = _
        rw [e, Bool.true_and]
      rw [z] at q
      exact q
    · have z : isListV lo hi (.list l) = false := by
        show (decide (lo ≤ (l.length : Nat)) && decide (((l.length : Nat) : Int) ≤ hi)) = _
        rw [e, Bool.false_and]
      rw [z] at q
      exact q
  · rw [isListV_no e] at q
    exact q
theorem ok_is_list (T : Tx K mg) : Pk P w K mg base CX0 "is_list" ["value", "least", "most"] 1 (sp_is_list K) := by
  obtain ⟨fd, F⟩ := T.fn 18 (p := ("is_list", none)) (n := "is_list") (q := "is_list") (st := s_is_list)
  refine ⟨⟨_, fd, T.glo 18, F.kp, F.bindsN fun _ _ _ _ _ _ us hl => match us, hl with | [_, _, _], _ => rfl, F.ok sc_is_list (fun _ _ _ _ h => h.1) fun cdv A outer s H vs Q E hr h => ⟨t_is_list K, PSs.nox ?_, pure_is_list T vs H Q E h⟩⟩⟩
  exact (pss_one (ps_ret (pe_and (pe_cmpR op_eq (pe_ix ix_tup (pv 0) pe_int (fun _ _ => rfl)) pe_str (nomark _)) (pe_one (pe_chain op_le op_le (pv 1) (pe_callB call_len_seq (by rfl) (T.free 40) PySem.boot_len (pa_cons (pe_ix ix_tup (pv 0) pe_int (fun _ _ => rfl)) pa_nil)) (pv 2))))))
end
/-! ### need_kind -/
abbrev s_need_kind : Stmt := top 25
theorem sc_need_kind : FnScope ["test", "message"] ["test", "message"] (defScope s_need_kind) := ⟨rfl, rfl, rfl, by decide +kernel, rfl, by decide +kernel, by decide +kernel⟩
def sp_need_kind (K : PySem.W.Frag) : Sp := fun vs H Q E => vs.length = 2 ∧ ∃ b m, vs = [.bl b, .str m] ∧ (b = true → Q .non H) ∧ (b = false → RefE K E H 1 m)
def t_need_kind (K : PySem.W.Frag) (E : XK) : TS :=
  (tIfS (tNot (tB (tVar 0))) (tRaiseRf K E (tCons (tC (.int 1)) (tCons (tVar 1) tNil))) tNext)
section
variable {P : Program} {w : World} {K : PySem.W.Frag} {mg : Str → Option Value} {base : Heap}
theorem pure_need_kind (T : Tx K mg) (vs : List V) (H : Hp) (Q : VK) (E : XK) (h : sp_need_kind K vs H Q E) : t_need_kind K E { nx := fun _ H' => Q .non H', rt := Q } (start ["test", "message"] vs) H := by
  obtain ⟨_, b, m, rfl, h1, h2⟩ := h
  unfold t_need_kind
  walk_at "ev"
  cases b with
  | true => exact h1 rfl
  | false =>
    refine if_t ?_
    walk_at "ev"
    exact s_rf (h2 rfl)
theorem ok_need_kind (T : Tx K mg) : Pk P w K mg base (L2N.CX P w) "need_kind" ["test", "message"] 1 (sp_need_kind K) := by
  obtain ⟨fd, F⟩ := T.fn 6 (p := ("need_kind", none)) (n := "need_kind") (q := "need_kind") (st := s_need_kind)
  refine ⟨⟨_, fd, T.glo 6, F.kp, F.bindsN fun _ _ _ _ _ _ us hl => match us, hl with | [_, _], _ => rfl, F.ok sc_need_kind (fun _ _ _ _ h => h.1) fun cdv A outer s H vs Q E hr h => ⟨t_need_kind K E, ?_, pure_need_kind T vs H Q E h⟩⟩⟩
  exact (pss_one (ps_if (pt_not (pt_val (pv 0))) (pss_one (ps_raiseRf rfl T (L2N.takes_of rfl rfl rfl rfl) hr (pa_cons (pe_gi (T.int 55)) (pa_cons (pv 1) pa_nil)))) pss_nil))
end
/-! ### need_range -/
abbrev s_need_range : Stmt := top 26
theorem sc_need_range : FnScope ["test", "message"] ["test", "message"] (defScope s_need_range) := ⟨rfl, rfl, rfl, by decide +kernel, rfl, by decide +kernel, by decide +kernel⟩
def sp_need_range (K : PySem.W.Frag) : Sp := fun vs H Q E => vs.length = 2 ∧ ∃ b m, vs = [.bl b, .str m] ∧ (b = true → Q .non H) ∧ (b = false → RefE K E H 2 m)
def t_need_range (K : PySem.W.Frag) (E : XK) : TS :=
  (tIfS (tNot (tB (tVar 0))) (tRaiseRf K E (tCons (tC (.int 2)) (tCons (tVar 1) tNil))) tNext)
section
variable {P : Program} {w : World} {K : PySem.W.Frag} {mg : Str → Option Value} {base : Heap}
theorem pure_need_range (T : Tx K mg) (vs : List V) (H : Hp) (Q : VK) (E : XK) (h : sp_need_range K vs H Q E) : t_need_range K E { nx := fun _ H' => Q .non H', rt := Q } (start ["test", "message"] vs) H := by
  obtain ⟨_, b, m, rfl, h1, h2⟩ := h
  unfold t_need_range
  walk_at "ev"
  cases b with
  | true => exact h1 rfl
  | false =>
    refine if_t ?_
    walk_at "ev"
    exact s_rf (h2 rfl)
theorem ok_need_range (T : Tx K mg) : Pk P w K mg base (L2N.CX P w) "need_range" ["test", "message"] 1 (sp_need_range K) := by
  obtain ⟨fd, F⟩ := T.fn 7 (p := ("need_range", none)) (n := "need_range") (q := "need_range") (st := s_need_range)
  refine ⟨⟨_, fd, T.glo 7, F.kp, F.bindsN fun _ _ _ _ _ _ us hl => match us, hl with | [_, _], _ => rfl, F.ok sc_need_range (fun _ _ _ _ h => h.1) fun cdv A outer s H vs Q E hr h => ⟨t_need_range K E, ?_, pure_need_range T vs H Q E h⟩⟩⟩
  exact (pss_one (ps_if (pt_not (pt_val (pv 0))) (pss_one (ps_raiseRf rfl T (L2N.takes_of rfl rfl rfl rfl) hr (pa_cons (pe_gi (T.int 56)) (pa_cons (pv 1) pa_nil)))) pss_nil))
end
/-! ### octets_of -/
abbrev s_octets_of : Stmt := top 27
theorem sc_octets_of : FnScope ["letters", "letter"] ["letters"] (defScope s_octets_of) := ⟨rfl, rfl, rfl, by decide +kernel, rfl, by decide +kernel, by decide +kernel⟩
/-- the numbers of a text's signs -/
def codes (m : Str) : List V := m.cps.toList.map natV
def sp_octets_of (K : PySem.W.Frag) : Sp := fun vs H Q _ => vs.length = 1 ∧ ∃ m, vs = [.str m] ∧ m.cps.size ≤ 1000 ∧ ∀ p H', H p = none → Ex H H' → SqT K H' p (codes m) → Q (.ref p) H'
def t_octets_of (K : PySem.W.Frag) : TS :=
  (tRet (tCB (rTupS K) (tCons (tLc (iStr (tVar 0)) (gName 1) tYes (tCB rOrd (tCons (tVar 1) tNil)) [1]) tNil)))
section
variable {P : Program} {w : World} {K : PySem.W.Frag} {mg : Str → Option Value} {base : Heap}
theorem pure_octets_of (T : Tx K mg) (vs : List V) (H : Hp) (Q : VK) (E : XK) (h : sp_octets_of K vs H Q E) : t_octets_of K { nx := fun _ H' => Q .non H', rt := Q } (start ["letters", "letter"] vs) H := by
  obtain ⟨_, m, rfl, hm, q⟩ := h
  unfold t_octets_of
  walk_at "ev"
  refine ⟨m, rfl, lc_all (K := K) m.cps.toList walk_str rfl (by omega) (fun _ => true) (fun c y _ => y = natV c) (fun _ _ => trivial) (fun _ _ _ _ h _ => h) (fun i a x H1 H2 k1 k2 hi e hy f1 f2 => ?_) (fun D H1 acc hD e hx ha => ?_)⟩
  · obtain ⟨rfl, c, hc, rfl⟩ := hy
    have ec : a = c := by
      rw [← Array.getElem?_toList, hi] at hc
      exact Option.some.inj hc
    subst ec
    refine ⟨rfl, ?_⟩
    walk_at "ev"
    exact f1 rfl _ _ (Ex.refl _) rfl
  · rw [all2_map ha] at hx
    walk_at "ev"
    refine s_tupL (sq_of hx) (fun p H2 hp e2 h2 => ?_)
    refine q p H2 (Ex.fr e hp) (Ex.trans e e2) (st_of ?_)
    rw [h2]
    unfold codes
    rw [List.filter_eq_self.mpr (fun _ _ => rfl)]
theorem ok_octets_of (T : Tx K mg) : Pk P w K mg base CX0 "octets_of" ["letters"] 1 (sp_octets_of K) := by
  obtain ⟨fd, F⟩ := T.fn 8 (p := ("octets_of", none)) (n := "octets_of") (q := "octets_of") (st := s_octets_of)
  refine ⟨⟨_, fd, T.glo 8, F.kp, F.bindsN fun _ _ _ _ _ _ us hl => match us, hl with | [_], _ => rfl, F.ok sc_octets_of (fun _ _ _ _ h => h.1) fun cdv A outer s H vs Q E hr h => ⟨t_octets_of K, PSs.nox ?_, pure_octets_of T vs H Q E h⟩⟩⟩
  exact (pss_one (ps_ret (pe_callTy call_tuple_of (by rfl) (T.free 47) (by decide +kernel) (pa_cons (pe_lc (own := [("letter", 1)]) (g := (gName 1)) (tt := tYes) rfl sc_octets_of.nd (pi_str (pv 0)) (blkOk_by (own := [("letter", 1)]) (N := ["letters", "letter"]) (sc := defScope s_octets_of) (by decide +kernel)) (fun _ _ _ _ _ => (pg_name (i := 1) sc_octets_of.nd rfl (Or.inl rfl))) (fun _ _ _ _ _ => pts_nil) (fun _ _ _ _ _ => (pe_callB call_ord (by rfl) (T.free 43) (by decide +kernel) (pa_cons (pv 1) pa_nil)))) pa_nil))))
end
/-! ### text -/
abbrev s_text : Stmt := top 28
theorem sc_text : FnScope ["letters"] ["letters"] (defScope s_text) := ⟨rfl, rfl, rfl, by decide +kernel, rfl, by decide +kernel, by decide +kernel⟩
def sp_text (K : PySem.W.Frag) : Sp := fun vs H Q _ => vs.length = 1 ∧ ∃ m, vs = [.str m] ∧ m.cps.size ≤ 1000 ∧ ∀ a p H', H a = none → Ex H H' → SqT K H' a [.str "text", .ref p] → SqT K H' p (codes m) → Q (.ref a) H'
def t_text (K : PySem.W.Frag) : TS :=
  (tRet (tTup (tCons (tC (.str "text")) (tCons (tCall (sp_octets_of K) [] E0 (tCons (tVar 0) tNil)) tNil))))
section
variable {P : Program} {w : World} {K : PySem.W.Frag} {mg : Str → Option Value} {base : Heap}
theorem pure_text (T : Tx K mg) (vs : List V) (H : Hp) (Q : VK) (E : XK) (h : sp_text K vs H Q E) : t_text K { nx := fun _ H' => Q .non H', rt := Q } (start ["letters"] vs) H := by
  obtain ⟨_, m, rfl, hm, q⟩ := h
  unfold t_text
  walk_at "ev"
  refine ⟨rfl, m, rfl, hm, fun p H1 hp e1 h1 => ?_⟩
  walk_at "ev"
  rename_i a H2 ha e2 h2
  exact q a p H2 (Ex.fr e1 ha) (e1.trans e2) (st_of h2) (ex_t e2 h1)
theorem ok_text (T : Tx K mg) : Pk P w K mg base CX0 "text" ["letters"] 2 (sp_text K) := by
  obtain ⟨fd, F⟩ := T.fn 9 (p := ("text", none)) (n := "text") (q := "text") (st := s_text)
  refine ⟨⟨_, fd, T.glo 9, F.kp, F.bindsN fun _ _ _ _ _ _ us hl => match us, hl with | [_], _ => rfl, F.ok sc_text (fun _ _ _ _ h => h.1) fun cdv A outer s H vs Q E hr h => ⟨t_text K, PSs.nox ?_, pure_text T vs H Q E h⟩⟩⟩
  exact (pss_one (ps_ret (pe_tup (pa_cons pe_str (pa_cons (pe_pk (ok_octets_of T) (hr.mono (by decide)) pass0 (pa_cons (pv 0) pa_nil)) pa_nil)))))
end
/-! ### integer -/
abbrev s_integer : Stmt := top 29
theorem sc_integer : FnScope ["number"] ["number"] (defScope s_integer) := ⟨rfl, rfl, rfl, by decide +kernel, rfl, by decide +kernel, by decide +kernel⟩
def sp_integer (K : PySem.W.Frag) : Sp := fun vs H Q _ => vs.length = 1 ∧ ∃ i, vs = [.int i] ∧ ∀ a H', H a = none → Ex H H' → VAt K H' (.int i) a → Q (.ref a) H'
def t_integer (K : PySem.W.Frag) : TS :=
  (tRet (tTup (tCons (tC (.str "integer")) (tCons (tVar 0) tNil))))
section
variable {P : Program} {w : World} {K : PySem.W.Frag} {mg : Str → Option Value} {base : Heap}
theorem pure_integer (T : Tx K mg) (vs : List V) (H : Hp) (Q : VK) (E : XK) (h : sp_integer K vs H Q E) : t_integer K { nx := fun _ H' => Q .non H', rt := Q } (start ["number"] vs) H := by
  obtain ⟨_, i, rfl, q⟩ := h
  unfold t_integer
  walk_at "ev"
  rename_i a H2 ha e2 h2
  refine q a H2 ha e2 ?_
  unfold VAt
  exact st_of h2
theorem ok_integer (T : Tx K mg) : Pk P w K mg base CX0 "integer" ["number"] 1 (sp_integer K) := by
  obtain ⟨fd, F⟩ := T.fn 10 (p := ("integer", none)) (n := "integer") (q := "integer") (st := s_integer)
  refine ⟨⟨_, fd, T.glo 10, F.kp, F.bindsN fun _ _ _ _ _ _ us hl => match us, hl with | [_], _ => rfl, F.ok sc_integer (fun _ _ _ _ h => h.1) fun cdv A outer s H vs Q E hr h => ⟨t_integer K, PSs.nox ?_, pure_integer T vs H Q E h⟩⟩⟩
  exact (pss_one (ps_ret (pe_tup (pa_cons pe_str (pa_cons (pv 0) pa_nil)))))
end
/-! ### boolean -/
abbrev s_boolean : Stmt := top 30
theorem sc_boolean : FnScope ["truth"] ["truth"] (defScope s_boolean) := ⟨rfl, rfl, rfl, by decide +kernel, rfl, by decide +kernel, by decide +kernel⟩
def sp_boolean (K : PySem.W.Frag) : Sp := fun vs H Q _ => vs.length = 1 ∧ ∃ b, vs = [.bl b] ∧ ∀ a H', H a = none → Ex H H' → VAt K H' (.bool b) a → Q (.ref a) H'
def t_boolean (K : PySem.W.Frag) : TS :=
  (tRet (tTup (tCons (tC (.str "boolean")) (tCons (tVar 0) tNil))))
section
variable {P : Program} {w : World} {K : PySem.W.Frag} {mg : Str → Option Value} {base : Heap}
theorem pure_boolean (T : Tx K mg) (vs : List V) (H : Hp) (Q : VK) (E : XK) (h : sp_boolean K vs H Q E) : t_boolean K { nx := fun _ H' => Q .non H', rt := Q } (start ["truth"] vs) H := by
  obtain ⟨_, b, rfl, q⟩ := h
  unfold t_boolean
  walk_at "ev"
  rename_i a H2 ha e2 h2
  refine q a H2 ha e2 ?_
  unfold VAt
  exact st_of h2
theorem ok_boolean (T : Tx K mg) : Pk P w K mg base CX0 "boolean" ["truth"] 1 (sp_boolean K) := by
  obtain ⟨fd, F⟩ := T.fn 11 (p := ("boolean", none)) (n := "boolean") (q := "boolean") (st := s_boolean)
  refine ⟨⟨_, fd, T.glo 11, F.kp, F.bindsN fun _ _ _ _ _ _ us hl => match us, hl with | [_], _ => rfl, F.ok sc_boolean (fun _ _ _ _ h => h.1) fun cdv A outer s H vs Q E hr h => ⟨t_boolean K, PSs.nox ?_, pure_boolean T vs H Q E h⟩⟩⟩
  exact (pss_one (ps_ret (pe_tup (pa_cons pe_str (pa_cons (pv 0) pa_nil)))))
end
/-! ### row -/
abbrev s_row : Stmt := top 31
theorem sc_row : FnScope ["values"] ["values"] (defScope s_row) := ⟨rfl, rfl, rfl, by decide +kernel, rfl, by decide +kernel, by decide +kernel⟩
def sp_row (K : PySem.W.Frag) : Sp := fun vs H Q _ => vs.length = 1 ∧ ∃ p l xs, vs = [.ref p] ∧ SqL K H p (xs.map V.ref) ∧ VAll K H l xs ∧ ∀ a H', H a = none → Ex H H' → VAt K H' (.list l) a → Q (.ref a) H'
def t_row (K : PySem.W.Frag) : TS :=
  (tRet (tTup (tCons (tC (.str "list")) (tCons (tCB (rTupS K) (tCons (tVar 0) tNil)) tNil))))
section
variable {P : Program} {w : World} {K : PySem.W.Frag} {mg : Str → Option Value} {base : Heap}
theorem pure_row (T : Tx K mg) (vs : List V) (H : Hp) (Q : VK) (E : XK) (h : sp_row K vs H Q E) : t_row K { nx := fun _ H' => Q .non H', rt := Q } (start ["values"] vs) H := by
  obtain ⟨_, p, l, xs, rfl, hp, hl, q⟩ := h
  unfold t_row
  walk_at "ev"
  refine s_tupL hp (fun t H1 ht e1 h1 => ?_)
  walk_at "ev"
  rename_i a H2 ha e2 h2
  refine q a H2 (Ex.fr e1 ha) (e1.trans e2) ?_
  unfold VAt
  exact ⟨t, xs, st_of h2, st_of (e2 _ _ h1), VAll.mono (TX.of (e1.trans e2)) _ _ hl⟩
theorem ok_row (T : Tx K mg) : Pk P w K mg base CX0 "row" ["values"] 1 (sp_row K) := by
  obtain ⟨fd, F⟩ := T.fn 12 (p := ("row", none)) (n := "row") (q := "row") (st := s_row)
  refine ⟨⟨_, fd, T.glo 12, F.kp, F.bindsN fun _ _ _ _ _ _ us hl => match us, hl with | [_], _ => rfl, F.ok sc_row (fun _ _ _ _ h => h.1) fun cdv A outer s H vs Q E hr h => ⟨t_row K, PSs.nox ?_, pure_row T vs H Q E h⟩⟩⟩
  exact (pss_one (ps_ret (pe_tup (pa_cons pe_str (pa_cons (pe_callTy call_tuple_of (by rfl) (T.free 47) (by decide +kernel) (pa_cons (pv 0) pa_nil)) pa_nil)))))
end
/-! ### record -/
abbrev s_record : Stmt := top 32
theorem sc_record : FnScope ["pairs", "name", "value"] ["pairs"] (defScope s_record) := ⟨rfl, rfl, rfl, by decide +kernel, rfl, by decide +kernel, by decide +kernel⟩
/-- pairs of a text and a value -/
def PAt (K : PySem.W.Frag) (H : Hp) (e : Str × RWire.Value) (x : V) : Prop := ∃ t v, x = .ref t ∧ SqT K H t [.str e.1, .ref v] ∧ VAt K H e.2 v ∧ e.1.cps.size ≤ 1000
theorem PAt.mono {K : PySem.W.Frag} {H H' : Hp} {e : Str × RWire.Value} {x : V} (h : PAt K H e x) (t : TX K H H') : PAt K H' e x := by
  obtain ⟨a, v, h0, h1, h2, h3⟩ := h
  exact ⟨a, v, h0, t _ _ h1, VAt.mono t _ _ h2, h3⟩
/-- a text's octets, where all of its signs are octets -/
def octs (m : Str) : RWire.Text := m.cps.toList.map fun c => UInt8.ofNat c
def fineS (m : Str) : Bool := m.cps.toList.all fun c => decide (c < 256)
theorem codes_octs {m : Str} (h : fineS m = true) : codes m = (octs m).map octV := by
  unfold codes octs
  rw [List.map_map]
  refine List.map_congr_left fun c hc => ?_
  have := of_decide_eq_true (List.all_eq_true.mp h c hc)
  show natV c = V.int (((UInt8.ofNat c).toNat : Nat) : Int)
  have e : (UInt8.ofNat c).toNat = c := by
    rw [UInt8.toNat_ofNat']
    omega
  rw [e]
def sp_record (K : PySem.W.Frag) : Sp := fun vs H Q _ => vs.length = 1 ∧ ∃ p l xs, vs = [.ref p] ∧ SqL K H p xs ∧ All2 (PAt K H) l xs ∧ (l.all fun e => fineS e.1) = true ∧ l.length ≤ 1000 ∧
  ∀ a H', H a = none → Ex H H' → VAt K H' (.record (l.map fun e => (octs e.1, e.2))) a → Q (.ref a) H'
def t_record (K : PySem.W.Frag) : TS :=
  (tRet (tTup (tCons (tC (.str "record")) (tCons (tCB (rTupS K) (tCons (tLc (iList K (tVar 0)) (gTup K 2 (gCons (gName 1) (gCons (gName 2) gNil))) tYes (tTup (tCons (tCall (sp_octets_of K) [] E0 (tCons (tVar 1) tNil)) (tCons (tVar 2) tNil))) [1, 2]) tNil)) tNil))))
section
variable {P : Program} {w : World} {K : PySem.W.Frag} {mg : Str → Option Value} {base : Heap}
theorem pure_record (T : Tx K mg) (vs : List V) (H : Hp) (Q : VK) (E : XK) (h : sp_record K vs H Q E) : t_record K { nx := fun _ H' => Q .non H', rt := Q } (start ["pairs", "name", "value"] vs) H := by
  obtain ⟨_, p, l, xs, rfl, hp, hl, hf, hn, q⟩ := h
  unfold t_record
  walk_at "ev"
  refine ⟨p, rfl, ⟨xs, hp⟩, lc_all (K := K) l walk_list hl.len.symm (by rw [← hl.len]; omega) (fun _ => true) (fun e y H => ∃ t, y = .ref t ∧ EAt K H (octs e.1, e.2) t) (fun H1 e => ex_l e hp) (fun e y H1 H2 h t => ?_) (fun i a x H1 H2 k1 k2 hi e hy f1 f2 => ?_) (fun D H1 acc hD e hx ha => ?_)⟩
  · obtain ⟨z, rfl, h⟩ := h
    exact ⟨z, rfl, h.mono t⟩
  · obtain ⟨rfl, hx⟩ := hy
    obtain ⟨b, hb, pb⟩ := hl.get hx
    rw [hi] at hb
    cases hb
    obtain ⟨t, v, rfl, h1, h2, h3⟩ := pb
    refine s_pair (ex_t e h1) ?_
    refine ⟨rfl, ?_⟩
    walk_at "ev"
    refine ⟨rfl, a.1, rfl, h3, fun n H3 hn e3 hN => ?_⟩
    walk_at "ev"
    rename_i c H4 hc e4 h4
    refine f1 rfl _ _ (e3.trans e4) ⟨c, rfl, n, v, st_of h4, ?_, h2.ex ((Ex.trans e e3).trans e4)⟩
    rw [← codes_octs (List.all_eq_true.mp hf a (List.mem_of_getElem? hi))]
    exact ex_t e4 hN
  · rw [List.filter_eq_self.mpr (fun _ _ => rfl)] at ha
    obtain ⟨zs, rfl, hz⟩ : ∃ zs, acc = zs.map V.ref ∧ All2 (EAt K H1) (l.map fun e => (octs e.1, e.2)) zs := by
      clear hx q hf hn hl hp
      induction l generalizing acc with
      | nil =>
        cases acc with
        | nil => exact ⟨[], rfl, trivial⟩
        | cons _ _ => exact ha.elim
      | cons x r ih =>
        cases acc with
        | nil => exact ha.elim
        | cons y s =>
          obtain ⟨⟨t, rfl, ht⟩, hr⟩ := ha
          obtain ⟨zs, rfl, hz⟩ := ih s hr
          exact ⟨t :: zs, rfl, ht, hz⟩
    walk_at "ev"
    refine s_tupL (sq_of hx) (fun t H2 ht e2 h2 => ?_)
    walk_at "ev"
    rename_i a H3 ha3 e3 h3
    refine q a H3 (Ex.fr e (Ex.fr e2 ha3)) ((Ex.trans e e2).trans e3) ?_
    unfold VAt
    exact ⟨t, zs, st_of h3, st_of (e3 _ _ h2), VEnts.mono (TX.of (e2.trans e3)) _ _ (vents_iff.mpr hz)⟩
theorem ok_record (T : Tx K mg) : Pk P w K mg base CX0 "record" ["pairs"] 2 (sp_record K) := by
  obtain ⟨fd, F⟩ := T.fn 13 (p := ("record", none)) (n := "record") (q := "record") (st := s_record)
  refine ⟨⟨_, fd, T.glo 13, F.kp, F.bindsN fun _ _ _ _ _ _ us hl => match us, hl with | [_], _ => rfl, F.ok sc_record (fun _ _ _ _ h => h.1) fun cdv A outer s H vs Q E hr h => ⟨t_record K, PSs.nox ?_, pure_record T vs H Q E h⟩⟩⟩
  exact (pss_one (ps_ret (pe_tup (pa_cons pe_str (pa_cons (pe_callTy call_tuple_of (by rfl) (T.free 47) (by decide +kernel) (pa_cons (pe_lc (own := [("name", 1), ("value", 2)]) (g := (gTup K 2 (gCons (gName 1) (gCons (gName 2) gNil)))) (tt := tYes) rfl sc_record.nd (pi_list (pv 0)) (blkOk_by (own := [("name", 1), ("value", 2)]) (N := ["pairs", "name", "value"]) (sc := defScope s_record) (by decide +kernel)) (fun _ _ _ _ _ => (pg_tup rfl (pgs_cons (pg_name (i := 1) sc_record.nd rfl (Or.inl rfl)) (pgs_cons (pg_name (i := 2) sc_record.nd rfl (Or.inl rfl)) pgs_nil)))) (fun _ _ _ _ _ => pts_nil) (fun _ _ _ _ _ => (pe_tup (pa_cons (pe_pk (ok_octets_of T) (hr.mono (by decide)) pass0 (pa_cons (pv 1) pa_nil)) (pa_cons (pv 2) pa_nil))))) pa_nil)) pa_nil)))))
end
end Dk
namespace Dk
open PySem PySem.Spec PyProof.Rows L2 Evl RZ
local macro_rules | `(tactic| walk_at "hp") => `(tactic| first | assumption | exact L2.upd_same | (apply Dk.Ex.at (by assumption); walk_at "hp"))
local macro_rules | `(tactic| walk_at "hq") => `(tactic| first | assumption | (apply Evl.sq_of; walk_at "hp") | (apply Evl.st_of; walk_at "hp") | (apply Evl.ex_l (by assumption); walk_at "hq") | (apply Evl.ex_t (by assumption); walk_at "hq"))
local macro_rules | `(tactic| walk_at "ex") => `(tactic| first | exact Evl.Ex.refl _ | assumption | (refine Evl.Ex.trans ?_ (by assumption); walk_at "ex"))
local macro_rules | `(tactic| walk_at "e1") => `(tactic| first
  | (with_reducible refine if_t ?_) | (with_reducible refine if_f ?_) | (with_reducible refine s_seq ?_) | (with_reducible refine s_asg ?_) | (with_reducible refine s_name ?_) | (with_reducible refine s_drop ?_) | (with_reducible refine s_ret ?_) | (with_reducible refine s_nil ?_) | (with_reducible refine s_cons ?_)
  | (with_reducible refine s_c ?_)
  | ((with_reducible refine' s_var ?h1 ?_); (case h1 => rfl))
  | (with_reducible refine s_op ?_) | (with_reducible refine s_call ?_) | (with_reducible refine s_cb ?_) | (with_reducible refine s_fld ?_) | (with_reducible refine s_tup ?_) | (with_reducible refine s_lst ?_) | (with_reducible refine s_meth ?_) | (with_reducible refine s_test ?_) | (with_reducible refine s_B ?_)
  | (with_reducible refine s_not ?_) | (with_reducible refine s_xb ?_) | (with_reducible refine s_if ?_) | (with_reducible refine s_ifS ?_) | (with_reducible refine s_next ?_) | (with_reducible refine s_sfld ?_)
  | (with_reducible refine s_I0 ?_) | ((with_reducible refine' s_I ?h1 ?_); (case h1 => first | exact ⟨by decide, by decide⟩ | exact .inr ⟨by decide, by decide⟩ | (show (0 : Int) < _; decide) | (show (0 : Int) ≤ _; first | decide | omega) | exact ⟨by omega, by omega⟩))
  | ((with_reducible refine' s_xf ?h1 ?h2 ?h3 ?h4 ?_); (case h1 => walk_at "hp"); (case h2 => exact Tx.clsK (by assumption) (by decide +kernel)); (case h3 => exact Tx.noatK (by assumption) (by decide +kernel)); (case h4 => rfl))
  | ((with_reducible refine' s_xs ?h1 ?h2 ?h3 ?h4 ?h5 ?_); (case h1 => walk_at "hp"); (case h2 => exact Tx.clsK (by assumption) (by decide +kernel)); (case h3 => exact Tx.noatK (by assumption) (by decide +kernel)); (case h4 => exact Dk.lt_ble rfl); (case h5 => rfl))
  | ((with_reducible refine' s_eq ?h1 ?_); (case h1 => rfl)) | ((with_reducible refine' s_ne ?h1 ?_); (case h1 => rfl)) | (with_reducible refine s_isN ?_)
  | ((with_reducible refine' s_xt ?h1 ?_); (case h1 => exact Nat.le_of_ble_eq_true rfl); intro _ _ _ _ _)
  | ((with_reducible refine' s_xl ?h1 ?_); (case h1 => exact Nat.le_of_ble_eq_true rfl); intro _ _ _ _ _)
  | ((with_reducible refine' s_lenL ?h1 ?_); (case h1 => walk_at "hq")) | ((with_reducible refine' s_lenT ?h1 ?_); (case h1 => walk_at "hq"))
  | ((with_reducible refine' s_ixL ?h1 ?h2 ?_); (case h1 => walk_at "hq"); (case h2 => first | assumption | exact atI_0 | exact atI_1 | rfl))
  | ((with_reducible refine' s_ixT ?h1 ?h2 ?_); (case h1 => walk_at "hq"); (case h2 => first | assumption | exact atI_0 | exact atI_1 | rfl))
  | (with_reducible refine s_or ?_) | (with_reducible refine s_and ?_)
  | ((with_reducible refine' s_nin ?h1 ?h2 ?h3 ?_); (case h1 => walk_at "hq"); (case h2 => rfl); (case h3 => rfl))
  | (with_reducible refine s_tru ?_)
  | (with_reducible refine s_ip ?_) | (with_reducible refine s_for1 ?_) | (with_reducible refine s_for2 ?_) | (with_reducible refine s_for3 ?_) | (with_reducible refine s_forL ?_) | (with_reducible refine s_forT ?_) | (with_reducible refine s_lcL ?_) | (with_reducible refine s_lcT ?_) | (with_reducible refine s_lcS ?_) | (with_reducible refine s_lcE ?_) | (with_reducible refine s_lcZ ?_) | (with_reducible refine s_lcZA ?_) | (with_reducible refine s_lcR ?_) | (with_reducible refine s_chain ?_) | (with_reducible refine s_av ?_) | (with_reducible refine s_ov ?_) | (with_reducible refine s_yes ?_) | (with_reducible refine s_tbm ?_) | (with_reducible refine s_ord ?_) | (with_reducible refine s_raise ?_) | (with_reducible refine s_fldaug ?_) | (with_reducible refine s_add ?_) | (with_reducible refine s_slc ?_) | (with_reducible refine s_part ?_) | (with_reducible refine x_p1 ?_) | (with_reducible refine s_nopart ?_)
  | ((with_reducible refine' x_bm ?h1 ?_); (case h1 => walk_at "hq")) | (with_reducible refine s_par1 ?_) | (with_reducible refine s_un ?_) | (with_reducible refine s_uI ?_))
local macro_rules | `(tactic| walk_at "ev") => `(tactic| repeat walk_at "e1")
/-! ### number_octets -/
abbrev s_number_octets : Stmt := top 34
theorem sc_number_octets : FnScope ["number", "many", "found", "turn"] ["number", "many"] (defScope s_number_octets) := ⟨rfl, rfl, rfl, by decide +kernel, rfl, by decide +kernel, by decide +kernel⟩
theorem low_snoc : ∀ (k n : Nat), RWire.low (k + 1) n = RWire.low k n ++ [UInt8.ofNat (n / 256 ^ k)]
  | 0, n => by simp [RWire.low]
  | k + 1, n => by
    have h := low_snoc k (n / 256)
    rw [Nat.div_div_eq_div_mul] at h
    rw [show RWire.low (k + 1 + 1) n = UInt8.ofNat n :: RWire.low (k + 1) (n / 256) from rfl, h, Nat.pow_succ', show RWire.low (k + 1) n = UInt8.ofNat n :: RWire.low k (n / 256) from rfl]
    rfl
theorem oct_mod (n : Nat) : octV (UInt8.ofNat n) = natV (n % 256) := by
  show V.int (((UInt8.ofNat n).toNat : Nat) : Int) = _
  rw [UInt8.toNat_ofNat']
def sp_number_octets (K : PySem.W.Frag) : Sp := fun vs H Q _ => vs.length = 2 ∧ ∃ n k : Nat, vs = [natV n, natV k] ∧ k ≤ 100 ∧ ∀ p H', H p = none → Ex H H' → H' p = some (.lst ((RWire.low k n).map octV)) → Q (.ref p) H'
def t_number_octets (K : PySem.W.Frag) : TS :=
  (tSeq (tAsg (tLst tNil) (gName 2))
  (tSeq (tFor (iRng1 (tCons (tVar 1) tNil)) (gName 3) (tSeq (tDrop (tBM K "list" rAppend (tVar 2) (tCons (tOp rrMod (tVar 0) (tC (.int 256))) tNil)))
  (tAug 0 (tC (.int 256)) rrDiv)))
  (tRet (tVar 2))))
section
variable {P : Program} {w : World} {K : PySem.W.Frag} {mg : Str → Option Value} {base : Heap}
theorem pure_number_octets (T : Tx K mg) (vs : List V) (H : Hp) (Q : VK) (E : XK) (h : sp_number_octets K vs H Q E) : t_number_octets K { nx := fun _ H' => Q .non H', rt := Q } (start ["number", "many", "found", "turn"] vs) H := by
  obtain ⟨_, n, k, rfl, hk, q⟩ := h
  unfold t_number_octets
  walk_at "ev"
  rename_i p H0 hp e0 h0
  refine x_r1 (n := k) (by omega) (fun i σ H' => Ex H H' ∧ H' p = some (.lst ((RWire.low i n).map octV)) ∧ ∃ x, σ = [some (natV (n / 256 ^ i)), some (natV k), some (.ref p), x]) ⟨e0, h0, none, by rw [Nat.pow_zero, Nat.div_one]; rfl⟩ (fun i σ H' hi P => ?_) (fun σ H' P => ?_)
  · obtain ⟨e, ha, x, rfl⟩ := P
    walk_at "ev"
    have hl : ((RWire.low i n).map octV).length ≤ 10000000 := by
      have : ∀ i n, (RWire.low i n).length = i := fun i => by
        induction i with
        | zero => intro _; rfl
        | succ i ih => intro n; show (RWire.low i (n / 256)).length + 1 = _; rw [ih]
      rw [List.length_map, this]
      omega
    refine s_app ha hl ?_
    refine s_aug rfl ?_
    walk_at "ev"
    refine ⟨Ex.mut e hp, ?_, some (natV i), ?_⟩
    · rw [upd_same, low_snoc, List.map_append, List.map_singleton, oct_mod, show ((n / 256 ^ i : Nat) : Int) % 256 = ((n / 256 ^ i % 256 : Nat) : Int) by omega]
    · rw [Nat.pow_succ, ← Nat.div_div_eq_div_mul]
      rfl
  · obtain ⟨e, ha, x, rfl⟩ := P
    walk_at "ev"
    exact q p H' hp e ha
theorem ok_number_octets (T : Tx K mg) : Pk P w K mg base CX0 "number_octets" ["number", "many"] 1 (sp_number_octets K) := by
  obtain ⟨fd, F⟩ := T.fn 14 (p := ("number_octets", none)) (n := "number_octets") (q := "number_octets") (st := s_number_octets)
  refine ⟨⟨_, fd, T.glo 14, F.kp, F.bindsN fun _ _ _ _ _ _ us hl => match us, hl with | [_, _], _ => rfl, F.ok sc_number_octets (fun _ _ _ _ h => h.1) fun cdv A outer s H vs Q E hr h => ⟨t_number_octets K, PSs.nox ?_, pure_number_octets T vs H Q E h⟩⟩⟩
  exact (pss_cons (ps_set (i := 2) sc_number_octets.nd rfl (Or.inl rfl) (pe_lst pa_nil))
    (pss_cons (ps_for PassesOwn.never rfl (pi_range1 (by rfl) (T.free 44) (pa_cons (pv 1) pa_nil)) (pg_name (i := 3) sc_number_octets.nd rfl (Or.inl rfl)) (pss_cons (ps_expr (pe_bm PySem.F.plainAttrs_list PySem.F.slot_list_append PySem.F.type_list_append mt_append (pv 2) (pa_cons (pe_op op_mod (pv 0) pe_int) pa_nil)))
    (pss_one (ps_aug (i := 0) sc_number_octets.nd rfl (Or.inl rfl) pe_int iop_fdiv))))
    (pss_one (ps_ret (pv 2)))))
end
/-! ### are_numbers -/
abbrev s_are_numbers : Stmt := top 39
theorem sc_are_numbers : FnScope ["value", "least", "most", "low", "high", "one"] ["value", "least", "most", "low", "high"] (defScope s_are_numbers) := ⟨rfl, rfl, rfl, by decide +kernel, rfl, by decide +kernel, by decide +kernel⟩
theorem all_map {α : Type} {f : α → Bool} : ∀ l : List α, (l.map f).all id = l.all f
  | [] => rfl
  | a :: l => by rw [List.map_cons, List.all_cons, List.all_cons, all_map l]; rfl
theorem any_map {α : Type} {f : α → Bool} : ∀ l : List α, (l.map f).any id = l.any f
  | [] => rfl
  | a :: l => by rw [List.map_cons, List.any_cons, List.any_cons, any_map l]; rfl
theorem fil_yes {α : Type} (l : List α) : l.filter (fun _ => true) = l := List.filter_eq_self.mpr (fun _ _ => rfl)
theorem all2_bl {α : Type} {f : α → Bool} {l : List α} {acc : List V} (h : All2 (fun a y => y = V.bl (f a)) l acc) : acc = (l.map f).map V.bl := by
  rw [all2_map (f := fun a => V.bl (f a)) h, List.map_map]
  rfl
def sp_are_numbers (K : PySem.W.Frag) : Sp := fun vs H Q _ => vs.length = 5 ∧ ∃ a v least most lo hi, vs = [.ref a, .int least, .int most, .int lo, .int hi] ∧ VAt K H v a ∧ most ≤ 1000 ∧ ∀ H', Ex H H' → Q (.bl (areNums least most lo hi v)) H'
def t_are_numbers (K : PySem.W.Frag) : TS :=
  (tRet (tAndV (tCall (sp_is_list K) [] E0 (tCons (tVar 0) (tCons (tVar 1) (tCons (tVar 2) tNil)))) (tCB (rAll K) (tCons (tLc (iTup K (tOp (rIxT K) (tVar 0) (tC (.int 1)))) (gName 5) tYes (tCall (sp_number_in K) [] E0 (tCons (tVar 5) (tCons (tVar 3) (tCons (tVar 4) tNil)))) [5]) tNil))))
section
variable {P : Program} {w : World} {K : PySem.W.Frag} {mg : Str → Option Value} {base : Heap}
theorem pure_are_numbers (T : Tx K mg) (vs : List V) (H : Hp) (Q : VK) (E : XK) (h : sp_are_numbers K vs H Q E) : t_are_numbers K { nx := fun _ H' => Q .non H', rt := Q } (start ["value", "least", "most", "low", "high", "one"] vs) H := by
  obtain ⟨_, a, v, least, most, lo, hi, rfl, hv, hm, q⟩ := h
  unfold t_are_numbers
  walk_at "ev"
  refine ⟨rfl, a, v, least, most, rfl, hv, ?_⟩
  refine x_a (fun e => ?_) (fun e => ?_)
  · obtain ⟨l, rfl⟩ : ∃ l, v = .list l := by
      cases v
      case list l => exact ⟨l, rfl⟩
      all_goals (cases e)
    have hv : ∃ p xs, SqT K H a [.str "list", .ref p] ∧ SqT K H p (xs.map V.ref) ∧ VAll K H l xs := by unfold VAt at hv; exact hv
    obtain ⟨p, xs, h1, h2, h3⟩ := hv
    have h3 := vall_iff.mp h3
    have hl : l.length ≤ 1000 := by
      have e : (decide (least ≤ (l.length : Nat)) && decide (((l.length : Nat) : Int) ≤ most)) = true := e
      rw [Bool.and_eq_true] at e
      have := of_decide_eq_true e.2
      omega
    walk_at "ev"
    refine ⟨p, rfl, ⟨_, h2⟩, lc_all (K := K) l walk_tup (by rw [List.length_map, h3.len]) (by rw [List.length_map, ← h3.len]; omega) (fun _ => true) (fun u y _ => y = .bl (numIn lo hi u)) (fun H1 e => ex_t e h2) (fun _ _ _ _ h _ => h) (fun i u x H1 H2 k1 k2 hi e hy f1 f2 => ?_) (fun D H1 acc hD e hx ha => ?_)⟩
    · obtain ⟨rfl, hx⟩ := hy
      obtain ⟨b, hb, rfl⟩ := map_get hx
      obtain ⟨u', hu, pu⟩ := h3.get hb
      rw [hi] at hu
      cases hu
      refine ⟨rfl, ?_⟩
      walk_at "ev"
      refine ⟨rfl, b, u, lo, _, rfl, pu.ex e, ?_⟩
      exact f1 rfl _ _ (Ex.refl _) rfl
    · rw [fil_yes] at ha
      rw [all2_bl ha] at hx
      walk_at "ev"
      refine s_all (sq_of hx) ?_
      rw [all_map]
      have z : areNums least most lo hi (.list l) = l.all (numIn lo hi) := by
        show (isListV least most (.list l) && l.all (numIn lo hi)) = _
        rw [show isListV least most (.list l) = true from ‹_›, Bool.true_and]
      rw [z] at q
      exact q H1 e
  · have z : areNums least most lo hi v = false := by
      cases v
      case list l =>
        show (isListV least most (.list l) && l.all (numIn lo hi)) = _
        rw [e, Bool.false_and]
      all_goals rfl
    rw [z] at q
    exact q H (Ex.refl H)
theorem ok_are_numbers (T : Tx K mg) : Pk P w K mg base CX0 "are_numbers" ["value", "least", "most", "low", "high"] 2 (sp_are_numbers K) := by
  obtain ⟨fd, F⟩ := T.fn 19 (p := ("are_numbers", none)) (n := "are_numbers") (q := "are_numbers") (st := s_are_numbers)
  refine ⟨⟨_, fd, T.glo 19, F.kp, F.bindsN fun _ _ _ _ _ _ us hl => match us, hl with | [_, _, _, _, _], _ => rfl, F.ok sc_are_numbers (fun _ _ _ _ h => h.1) fun cdv A outer s H vs Q E hr h => ⟨t_are_numbers K, PSs.nox ?_, pure_are_numbers T vs H Q E h⟩⟩⟩
  exact (pss_one (ps_ret (pe_and (pe_pk (ok_is_list T) (hr.mono (by decide)) pass0 (pa_cons (pv 0) (pa_cons (pv 1) (pa_cons (pv 2) pa_nil)))) (pe_one (pe_callB (cr_all rfl) (by rfl) (T.free 37) (by decide +kernel) (pa_cons (pe_lc (own := [("one", 5)]) (g := (gName 5)) (tt := tYes) rfl sc_are_numbers.nd (pi_tup (pe_ix ix_tup (pv 0) pe_int (fun _ _ => rfl))) (blkOk_by (own := [("one", 5)]) (N := ["value", "least", "most", "low", "high", "one"]) (sc := defScope s_are_numbers) (by decide +kernel)) (fun _ _ _ _ _ => (pg_name (i := 5) sc_are_numbers.nd rfl (Or.inl rfl))) (fun _ _ _ _ _ => pts_nil) (fun _ _ _ _ _ => (pe_pk (ok_number_in T) (hr.mono (by decide)) pass0 (pa_cons (pv 5) (pa_cons (pv 3) (pa_cons (pv 4) pa_nil)))))) pa_nil))))))
end
/-! ### numbers_of -/
abbrev s_numbers_of : Stmt := top 40
theorem sc_numbers_of : FnScope ["value", "one"] ["value"] (defScope s_numbers_of) := ⟨rfl, rfl, rfl, by decide +kernel, rfl, by decide +kernel, by decide +kernel⟩
def sp_numbers_of (K : PySem.W.Frag) : Sp := fun vs H Q _ => vs.length = 1 ∧ ∃ (a : Addr) (ns : List Int), vs = [.ref a] ∧ VAt K H (.list (ns.map RWire.Value.int)) a ∧ ns.length ≤ 1000 ∧ ∀ p H', H p = none → Ex H H' → H' p = some (.lst (ns.map V.int)) → Q (.ref p) H'
def t_numbers_of (K : PySem.W.Frag) : TS :=
  (tRet (tLc (iTup K (tOp (rIxT K) (tVar 0) (tC (.int 1)))) (gName 1) tYes (tOp (rIxT K) (tVar 1) (tC (.int 1))) [1]))
section
variable {P : Program} {w : World} {K : PySem.W.Frag} {mg : Str → Option Value} {base : Heap}
theorem pure_numbers_of (T : Tx K mg) (vs : List V) (H : Hp) (Q : VK) (E : XK) (h : sp_numbers_of K vs H Q E) : t_numbers_of K { nx := fun _ H' => Q .non H', rt := Q } (start ["value", "one"] vs) H := by
  obtain ⟨_, a, ns, rfl, hv, hn, q⟩ := h
  unfold t_numbers_of
  have hv : ∃ p xs, SqT K H a [.str "list", .ref p] ∧ SqT K H p (xs.map V.ref) ∧ VAll K H (ns.map RWire.Value.int) xs := by unfold VAt at hv; exact hv
  obtain ⟨p, xs, h1, h2, h3⟩ := hv
  have h3 := vall_iff.mp h3
  have hl : xs.length = ns.length := by
    rw [← h3.len, List.length_map]
  walk_at "ev"
  refine ⟨p, rfl, ⟨_, h2⟩, lc_all (K := K) ns walk_tup (by rw [List.length_map, hl]) (by rw [List.length_map, hl]; omega) (fun _ => true) (fun u y _ => y = .int u) (fun H1 e => ex_t e h2) (fun _ _ _ _ h _ => h) (fun i u x H1 H2 k1 k2 hi e hy f1 f2 => ?_) (fun D H1 acc hD e hx ha => ?_)⟩
  · obtain ⟨rfl, hx⟩ := hy
    obtain ⟨b, hb, rfl⟩ := map_get hx
    obtain ⟨u', hu, pu⟩ := h3.get hb
    rw [List.getElem?_map, hi] at hu
    cases hu
    have pu : SqT K H b [.str "integer", .int u] := by unfold VAt at pu; exact pu
    refine ⟨rfl, ?_⟩
    have pu := ex_t e pu
    walk_at "ev"
    exact f1 rfl _ _ (Ex.refl _) rfl
  · rw [fil_yes] at ha
    rw [all2_map ha] at hx
    exact q D H1 hD e hx
theorem ok_numbers_of (T : Tx K mg) : Pk P w K mg base CX0 "numbers_of" ["value"] 1 (sp_numbers_of K) := by
  obtain ⟨fd, F⟩ := T.fn 20 (p := ("numbers_of", none)) (n := "numbers_of") (q := "numbers_of") (st := s_numbers_of)
  refine ⟨⟨_, fd, T.glo 20, F.kp, F.bindsN fun _ _ _ _ _ _ us hl => match us, hl with | [_], _ => rfl, F.ok sc_numbers_of (fun _ _ _ _ h => h.1) fun cdv A outer s H vs Q E hr h => ⟨t_numbers_of K, PSs.nox ?_, pure_numbers_of T vs H Q E h⟩⟩⟩
  exact (pss_one (ps_ret (pe_lc (own := [("one", 1)]) (g := (gName 1)) (tt := tYes) rfl sc_numbers_of.nd (pi_tup (pe_ix ix_tup (pv 0) pe_int (fun _ _ => rfl))) (blkOk_by (own := [("one", 1)]) (N := ["value", "one"]) (sc := defScope s_numbers_of) (by decide +kernel)) (fun _ _ _ _ _ => (pg_name (i := 1) sc_numbers_of.nd rfl (Or.inl rfl))) (fun _ _ _ _ _ => pts_nil) (fun _ _ _ _ _ => (pe_ix ix_tup (pv 1) pe_int (fun _ _ => rfl))))))
end
/-! ### number_for -/
abbrev s_number_for : Stmt := top 45
theorem sc_number_for : FnScope ["value", "name", "most"] ["value", "name", "most"] (defScope s_number_for) := ⟨rfl, rfl, rfl, by decide +kernel, rfl, by decide +kernel, by decide +kernel⟩
/-- what a number's refusal says -/
def mustBe (name : Str) (most : Nat) : Str := (name ++ (" must be an integer from 0 to " : Str)) ++ (toString (most : Int) : String)
/-- it is short -/
def mustOk (name : Str) (most : Nat) : Prop := name.length + (" must be an integer from 0 to " : Str).length ≤ sizeLine ∧ (name ++ (" must be an integer from 0 to " : Str)).length + ((toString (most : Int) : String) : Str).length ≤ sizeLine ∧ (most : Int).natAbs.log2 < 1920
def sp_number_for (K : PySem.W.Frag) : Sp := fun vs H Q E => vs.length = 3 ∧ ∃ a v name most e, vs = [.ref a, .str name, natV most] ∧ VAt K H v a ∧ mustOk name most ∧ ErrM e 1 (mustBe name most) ∧
  Out K E H (match R7293g.Spec.integerIn 0 most (Rust.taken v) with | some n => .ok n | none => .error e) fun n => Q (natV n) H
theorem numIn_some {v : RWire.Value} {most : Nat} (h : numIn 0 most v = true) : ∃ n : Nat, v = .int n ∧ R7293g.Spec.integerIn 0 most (Rust.taken v) = some n := by
  cases v
  case int i =>
    have h : (decide ((0 : Int) ≤ i) && decide (i ≤ (most : Int))) = true := h
    rw [Bool.and_eq_true] at h
    have h1 := of_decide_eq_true h.1
    have h2 := of_decide_eq_true h.2
    refine ⟨i.toNat, by rw [Int.toNat_of_nonneg h1], ?_⟩
    show ((if (some i == RShim.F64.negZero) = true then none else RShim.F64.toInt? (some i)).bind fun i => if Int.ofNat 0 ≤ i ∧ i ≤ Int.ofNat most then some i.toNat else none) = _
    rw [if_neg (by unfold RShim.F64.negZero; exact Bool.false_ne_true)]
    show (if Int.ofNat 0 ≤ i ∧ i ≤ Int.ofNat most then some i.toNat else none) = _
    rw [if_pos ⟨h1, h2⟩]
  all_goals cases h
theorem numIn_none {v : RWire.Value} {lo most : Nat} (h : numIn lo most v = false) : R7293g.Spec.integerIn lo most (Rust.taken v) = none := by
  cases v
  case int i =>
    have h : (decide ((lo : Int) ≤ i) && decide (i ≤ (most : Int))) = false := h
    show ((if (some i == RShim.F64.negZero) = true then none else RShim.F64.toInt? (some i)).bind fun i => if Int.ofNat lo ≤ i ∧ i ≤ Int.ofNat most then some i.toNat else none) = _
    rw [if_neg (by unfold RShim.F64.negZero; exact Bool.false_ne_true)]
    show (if Int.ofNat lo ≤ i ∧ i ≤ Int.ofNat most then some i.toNat else none) = _
    rw [if_neg (fun q => ?_)]
    rw [decide_eq_true (show (lo : Int) ≤ i from q.1), decide_eq_true (show i ≤ (most : Int) from q.2)] at h
    cases h
  all_goals rfl
def t_number_for (K : PySem.W.Frag) (E : XK) : TS :=
  (tSeq (tDrop (tCall (sp_need_kind K) [] E (tCons (tCall (sp_number_in K) [] E0 (tCons (tVar 0) (tCons (tC (.int 0)) (tCons (tVar 2) tNil)))) (tCons (tOp rAddS (tOp rAddS (tVar 1) (tC (.str " must be an integer from 0 to "))) (tCB rStrI (tCons (tVar 2) tNil))) tNil))))
  (tRet (tOp (rIxT K) (tVar 0) (tC (.int 1)))))
section
variable {P : Program} {w : World} {K : PySem.W.Frag} {mg : Str → Option Value} {base : Heap}
theorem pure_number_for (T : Tx K mg) (vs : List V) (H : Hp) (Q : VK) (E : XK) (h : sp_number_for K vs H Q E) : t_number_for K E { nx := fun _ H' => Q .non H', rt := Q } (start ["value", "name", "most"] vs) H := by
  obtain ⟨_, a, v, name, most, er, rfl, hv, hm, he, q⟩ := h
  unfold t_number_for
  walk_at "ev"
  refine ⟨rfl, a, v, 0, most, rfl, hv, ?_⟩
  walk_at "ev"
  refine s_addS hm.1 ?_
  walk_at "ev"
  refine s_strI hm.2.2 ?_
  walk_at "ev"
  refine s_addS hm.2.1 ?_
  walk_at "ev"
  refine ⟨rfl, _, _, rfl, fun e => ?_, fun e => ?_⟩
  · obtain ⟨n, rfl, hn⟩ := numIn_some e
    have hv : SqT K H a [.str "integer", .int n] := by unfold VAt at hv; exact hv
    rw [hn] at q
    walk_at "ev"
    exact q
  · rw [numIn_none (lo := 0) e] at q
    exact q 1 _ he
theorem ok_number_for (T : Tx K mg) : Pk P w K mg base (L2N.CX P w) "number_for" ["value", "name", "most"] 2 (sp_number_for K) := by
  obtain ⟨fd, F⟩ := T.fn 21 (p := ("number_for", none)) (n := "number_for") (q := "number_for") (st := s_number_for)
  refine ⟨⟨_, fd, T.glo 21, F.kp, F.bindsN fun _ _ _ _ _ _ us hl => match us, hl with | [_, _, _], _ => rfl, F.ok sc_number_for (fun _ _ _ _ h => h.1) fun cdv A outer s H vs Q E hr h => ⟨t_number_for K E, ?_, pure_number_for T vs H Q E h⟩⟩⟩
  exact (pss_cons (ps_expr (pe_pk (ok_need_kind T) (hr.mono (by decide)) (L2N.passes_call (L2N.takes_of rfl rfl rfl rfl) fun _ _ _ _ h => h) (pa_cons (pe_pk (ok_number_in T) (hr.mono (by decide)) pass0 (pa_cons (pv 0) (pa_cons pe_int (pa_cons (pv 2) pa_nil)))) (pa_cons (pe_op op_add_str (pe_op op_add_str (pv 1) pe_str) (pe_callTy call_str_int (by rfl) (T.free 46) (by decide +kernel) (pa_cons (pv 2) pa_nil))) pa_nil))))
    (pss_one (ps_ret (pe_ix ix_tup (pv 0) pe_int (fun _ _ => rfl)))))
end
end Dk
namespace Dk
open PySem PySem.Spec PyProof.Rows L2 Evl RZ
local macro_rules | `(tactic| walk_at "hp") => `(tactic| first | assumption | exact L2.upd_same | (apply Dk.Ex.at (by assumption); walk_at "hp"))
local macro_rules | `(tactic| walk_at "hq") => `(tactic| first | assumption | (apply Evl.sq_of; walk_at "hp") | (apply Evl.st_of; walk_at "hp") | (apply Evl.ex_l (by assumption); walk_at "hq") | (apply Evl.ex_t (by assumption); walk_at "hq"))
local macro_rules | `(tactic| walk_at "ex") => `(tactic| first | exact Evl.Ex.refl _ | assumption | (refine Evl.Ex.trans ?_ (by assumption); walk_at "ex"))
local macro_rules | `(tactic| walk_at "e1") => `(tactic| first
  | (with_reducible refine if_t ?_) | (with_reducible refine if_f ?_) | (with_reducible refine s_seq ?_) | (with_reducible refine s_asg ?_) | (with_reducible refine s_name ?_) | (with_reducible refine s_drop ?_) | (with_reducible refine s_ret ?_) | (with_reducible refine s_nil ?_) | (with_reducible refine s_cons ?_)
  | (with_reducible refine s_c ?_)
  | ((with_reducible refine' s_var ?h1 ?_); (case h1 => rfl))
  | (with_reducible refine s_op ?_) | (with_reducible refine s_call ?_) | (with_reducible refine s_cb ?_) | (with_reducible refine s_fld ?_) | (with_reducible refine s_tup ?_) | (with_reducible refine s_lst ?_) | (with_reducible refine s_meth ?_) | (with_reducible refine s_test ?_) | (with_reducible refine s_B ?_)
  | (with_reducible refine s_not ?_) | (with_reducible refine s_xb ?_) | (with_reducible refine s_if ?_) | (with_reducible refine s_ifS ?_) | (with_reducible refine s_next ?_) | (with_reducible refine s_sfld ?_)
  | (with_reducible refine s_I0 ?_) | ((with_reducible refine' s_I ?h1 ?_); (case h1 => first | exact ⟨by decide, by decide⟩ | exact .inr ⟨by decide, by decide⟩ | (show (0 : Int) < _; decide) | (show (0 : Int) ≤ _; first | decide | omega) | exact ⟨by omega, by omega⟩))
  | ((with_reducible refine' s_xf ?h1 ?h2 ?h3 ?h4 ?_); (case h1 => walk_at "hp"); (case h2 => exact Tx.clsK (by assumption) (by decide +kernel)); (case h3 => exact Tx.noatK (by assumption) (by decide +kernel)); (case h4 => rfl))
  | ((with_reducible refine' s_xs ?h1 ?h2 ?h3 ?h4 ?h5 ?_); (case h1 => walk_at "hp"); (case h2 => exact Tx.clsK (by assumption) (by decide +kernel)); (case h3 => exact Tx.noatK (by assumption) (by decide +kernel)); (case h4 => exact Dk.lt_ble rfl); (case h5 => rfl))
  | ((with_reducible refine' s_eq ?h1 ?_); (case h1 => rfl)) | ((with_reducible refine' s_ne ?h1 ?_); (case h1 => rfl)) | (with_reducible refine s_isN ?_)
  | ((with_reducible refine' s_xt ?h1 ?_); (case h1 => exact Nat.le_of_ble_eq_true rfl); intro _ _ _ _ _)
  | ((with_reducible refine' s_xl ?h1 ?_); (case h1 => exact Nat.le_of_ble_eq_true rfl); intro _ _ _ _ _)
  | ((with_reducible refine' s_lenL ?h1 ?_); (case h1 => walk_at "hq")) | ((with_reducible refine' s_lenT ?h1 ?_); (case h1 => walk_at "hq"))
  | ((with_reducible refine' s_ixL ?h1 ?h2 ?_); (case h1 => walk_at "hq"); (case h2 => first | assumption | exact atI_0 | exact atI_1 | rfl))
  | ((with_reducible refine' s_ixT ?h1 ?h2 ?_); (case h1 => walk_at "hq"); (case h2 => first | assumption | exact atI_0 | exact atI_1 | rfl))
  | (with_reducible refine s_or ?_) | (with_reducible refine s_and ?_)
  | ((with_reducible refine' s_nin ?h1 ?h2 ?h3 ?_); (case h1 => walk_at "hq"); (case h2 => rfl); (case h3 => rfl))
  | (with_reducible refine s_tru ?_)
  | (with_reducible refine s_ip ?_) | (with_reducible refine s_for1 ?_) | (with_reducible refine s_for2 ?_) | (with_reducible refine s_for3 ?_) | (with_reducible refine s_forL ?_) | (with_reducible refine s_forT ?_) | (with_reducible refine s_lcL ?_) | (with_reducible refine s_lcT ?_) | (with_reducible refine s_lcS ?_) | (with_reducible refine s_lcE ?_) | (with_reducible refine s_lcZ ?_) | (with_reducible refine s_lcZA ?_) | (with_reducible refine s_lcR ?_) | (with_reducible refine s_chain ?_) | (with_reducible refine s_av ?_) | (with_reducible refine s_ov ?_) | (with_reducible refine s_yes ?_) | (with_reducible refine s_tbm ?_) | (with_reducible refine s_ord ?_) | (with_reducible refine s_raise ?_) | (with_reducible refine s_fldaug ?_) | (with_reducible refine s_add ?_) | (with_reducible refine s_slc ?_) | (with_reducible refine s_part ?_) | (with_reducible refine x_p1 ?_) | (with_reducible refine s_nopart ?_)
  | ((with_reducible refine' x_bm ?h1 ?_); (case h1 => walk_at "hq")) | (with_reducible refine s_par1 ?_) | (with_reducible refine s_un ?_) | (with_reducible refine s_uI ?_))
local macro_rules | `(tactic| walk_at "ev") => `(tactic| repeat walk_at "e1")
/-! ### address_of -/
abbrev s_address_of : Stmt := top 47
theorem sc_address_of : FnScope ["value"] ["value"] (defScope s_address_of) := ⟨rfl, rfl, rfl, by decide +kernel, rfl, by decide +kernel, by decide +kernel⟩
def sp_address_of (K : PySem.W.Frag) : Sp := fun vs H Q E => vs.length = 1 ∧ ∃ a v, vs = [.ref a] ∧ VAt K H v a ∧ Out K E H (R7293g.Spec.addressArg (Rust.taken v)) fun n => Q (natV n) H
theorem err_ok {e : R7293g.Spec.Err} {k : Int} {m : Str} (h1 : k = (Rust.classOf e.cls : Nat)) (h2 : (decide (m.cps.toList = (e.msg.map Rust.octetOf).map fun o => o.toNat) && (m.cps.all (· < 128) && decide (m.cps.size ≤ 1000))) = true) : ErrM e k m := by
  rw [Bool.and_eq_true, Bool.and_eq_true] at h2
  exact ⟨h1, of_decide_eq_true h2.1, h2.2.1, of_decide_eq_true h2.2.2⟩
def t_address_of (K : PySem.W.Frag) (E : XK) : TS :=
  (tRet (tCall (sp_number_for K) [] E (tCons (tVar 0) (tCons (tC (.str "address")) (tCons (tC (.int 4095)) tNil)))))
section
variable {P : Program} {w : World} {K : PySem.W.Frag} {mg : Str → Option Value} {base : Heap}
theorem pure_address_of (T : Tx K mg) (vs : List V) (H : Hp) (Q : VK) (E : XK) (h : sp_address_of K vs H Q E) : t_address_of K E { nx := fun _ H' => Q .non H', rt := Q } (start ["value"] vs) H := by
  obtain ⟨_, a, v, rfl, hv, q⟩ := h
  unfold t_address_of
  walk_at "ev"
  exact ⟨rfl, a, v, "address", 4095, R7293g.Spec.typeErr "address must be an integer from 0 to 4095", rfl, hv, ⟨by decide +kernel, by decide +kernel, by decide +kernel⟩, err_ok rfl (by decide +kernel), q⟩
theorem ok_address_of (T : Tx K mg) : Pk P w K mg base (L2N.CX P w) "address_of" ["value"] 3 (sp_address_of K) := by
  obtain ⟨fd, F⟩ := T.fn 23 (p := ("address_of", none)) (n := "address_of") (q := "address_of") (st := s_address_of)
  refine ⟨⟨_, fd, T.glo 23, F.kp, F.bindsN fun _ _ _ _ _ _ us hl => match us, hl with | [_], _ => rfl, F.ok sc_address_of (fun _ _ _ _ h => h.1) fun cdv A outer s H vs Q E hr h => ⟨t_address_of K E, ?_, pure_address_of T vs H Q E h⟩⟩⟩
  exact (pss_one (ps_ret (pe_pk (ok_number_for T) (hr.mono (by decide)) (L2N.passes_call (L2N.takes_of rfl rfl rfl rfl) fun _ _ _ _ h => h) (pa_cons (pv 0) (pa_cons pe_str (pa_cons pe_int pa_nil))))))
end
/-! ### number_or_null -/
abbrev s_number_or_null : Stmt := top 50
theorem sc_number_or_null : FnScope ["number"] ["number"] (defScope s_number_or_null) := ⟨rfl, rfl, rfl, by decide +kernel, rfl, by decide +kernel, by decide +kernel⟩
/-- a number, or none -/
def optV : Option Nat → V
  | none => .non
  | some n => natV n
def optW : Option Nat → RWire.Value
  | none => .null
  | some n => .int (n : Int)
def sp_number_or_null (K : PySem.W.Frag) : Sp := fun vs H Q _ => vs.length = 1 ∧ ∃ o, vs = [optV o] ∧ ∀ a H', Ex H H' → VAt K H' (optW o) a → Q (.ref a) H'
def t_number_or_null (K : PySem.W.Frag) : TS :=
  (tRet (tIf (tTest (tOp rIsN (tVar 0) (tC .non))) (tC (.ref (cA K "NULL"))) (tCall (sp_integer K) [] E0 (tCons (tVar 0) tNil))))
section
variable {P : Program} {w : World} {K : PySem.W.Frag} {mg : Str → Option Value} {base : Heap}
theorem pure_number_or_null (T : Tx K mg) (vs : List V) (H : Hp) (Q : VK) (E : XK) (h : sp_number_or_null K vs H Q E) : t_number_or_null K { nx := fun _ H' => Q .non H', rt := Q } (start ["number"] vs) H := by
  obtain ⟨_, o, rfl, q⟩ := h
  unfold t_number_or_null
  walk_at "ev"
  cases o with
  | none =>
    walk_at "ev"
    refine if_t ?_
    walk_at "ev"
    refine q _ H (Ex.refl H) ?_
    unfold optW VAt
    exact He.tupB_ok (T.ex 1) H
  | some n =>
    refine if_f ?_
    walk_at "ev"
    exact ⟨rfl, n, rfl, fun a H' _ e h => q a H' e h⟩
theorem ok_number_or_null (T : Tx K mg) : Pk P w K mg base CX0 "number_or_null" ["number"] 2 (sp_number_or_null K) := by
  obtain ⟨fd, F⟩ := T.fn 26 (p := ("number_or_null", none)) (n := "number_or_null") (q := "number_or_null") (st := s_number_or_null)
  refine ⟨⟨_, fd, T.glo 26, F.kp, F.bindsN fun _ _ _ _ _ _ us hl => match us, hl with | [_], _ => rfl, F.ok sc_number_or_null (fun _ _ _ _ h => h.1) fun cdv A outer s H vs Q E hr h => ⟨t_number_or_null K, PSs.nox ?_, pure_number_or_null T vs H Q E h⟩⟩⟩
  exact (pss_one (ps_ret (pe_ifExp (pt_cmpR op_isN1 (pv 0) pe_non (nomark _)) (pe_glob rfl (T.glo 36) rfl) (pe_pk (ok_integer T) (hr.mono (by decide)) pass0 (pa_cons (pv 0) pa_nil)))))
end
/-! ### numbers_record -/
abbrev s_numbers_record : Stmt := top 51
theorem sc_numbers_record : FnScope ["names", "numbers", "name", "number"] ["names", "numbers"] (defScope s_numbers_record) := ⟨rfl, rfl, rfl, by decide +kernel, rfl, by decide +kernel, by decide +kernel⟩
/-- a record of integers -/
def numsW (l : List (Str × Nat)) : RWire.Value := .record (l.map fun e => (octs e.1, .int (e.2 : Int)))
def sp_numbers_record (K : PySem.W.Frag) : Sp := fun vs H Q _ => vs.length = 2 ∧ ∃ p q l, vs = [.ref p, .ref q] ∧ SqT K H p (l.map fun e => V.str e.1) ∧ SqT K H q (l.map fun e => natV e.2) ∧ l.length ≤ 1000 ∧ (l.all fun e => fineS e.1 && decide (e.1.cps.size ≤ 1000)) = true ∧
  ∀ a H', H a = none → Ex H H' → VAt K H' (numsW l) a → Q (.ref a) H'
def t_numbers_record (K : PySem.W.Frag) : TS :=
  (tRet (tCall (sp_record K) [] E0 (tCons (tLc (iZipA K (tCons (tVar 0) (tCons (tVar 1) tNil))) (gTup K 2 (gCons (gName 2) (gCons (gName 3) gNil))) tYes (tTup (tCons (tVar 2) (tCons (tCall (sp_integer K) [] E0 (tCons (tVar 3) tNil)) tNil))) [2, 3]) tNil)))
section
variable {P : Program} {w : World} {K : PySem.W.Frag} {mg : Str → Option Value} {base : Heap}
theorem pure_numbers_record (T : Tx K mg) (vs : List V) (H : Hp) (Q : VK) (E : XK) (h : sp_numbers_record K vs H Q E) : t_numbers_record K { nx := fun _ H' => Q .non H', rt := Q } (start ["names", "numbers", "name", "number"] vs) H := by
  obtain ⟨_, p, r, l, rfl, hp, hr, hn, hf, q⟩ := h
  unfold t_numbers_record
  walk_at "ev"
  refine ⟨p, r, _, _, rfl, .inr ⟨hp, hr, lc_all (K := K) l (walk_zipT (n := l.length) (by rw [List.length_map, List.length_map, Nat.min_self])) rfl (by omega) (fun _ => true) (fun e y H => PAt K H (e.1, .int (e.2 : Int)) y) (fun H1 e => ⟨ex_t e hp, ex_t e hr⟩) (fun e y H1 H2 h t => h.mono t) (fun i a x H1 H2 k1 k2 hi e hy f1 f2 => ?_) (fun D H1 acc hD e hx ha => ?_)⟩⟩
  · obtain ⟨t, x, y, rfl, ht, rfl, h1, h2⟩ := hy
    have h1 : (l.map fun e => V.str e.1)[i]? = some x := h1
    have h2 : (l.map fun e => natV e.2)[i]? = some y := h2
    rw [List.getElem?_map, hi] at h1 h2
    cases h1
    cases h2
    refine s_pair (SqT.of upd_same) ?_
    refine ⟨rfl, ?_⟩
    walk_at "ev"
    refine ⟨rfl, a.2, rfl, fun v H3 hv e3 h3 => ?_⟩
    walk_at "ev"
    rename_i c H4 hc e4 h4
    have e1 : Ex H1 (upd H1 t (.tup [V.str a.1, natV a.2])) := Ex.new ht
    refine f1 rfl _ _ (e1.trans (e3.trans e4)) ⟨c, v, rfl, st_of h4, h3.ex e4, ?_⟩
    have := List.all_eq_true.mp hf a (List.mem_of_getElem? hi)
    rw [Bool.and_eq_true] at this
    exact of_decide_eq_true this.2
  · rw [fil_yes] at ha
    walk_at "ev"
    have hl2 : All2 (PAt K H1) (l.map fun e => (e.1, RWire.Value.int (e.2 : Int))) acc := by
      clear q hf hn hp hr hx
      induction l generalizing acc with
      | nil =>
        cases acc with
        | nil => trivial
        | cons _ _ => exact ha.elim
      | cons x r ih =>
        cases acc with
        | nil => exact ha.elim
        | cons y s => exact ⟨ha.1, ih s ha.2⟩
    refine ⟨rfl, D, _, acc, rfl, sq_of hx, hl2, ?_, by rw [List.length_map]; exact hn, fun a H2 h1 h2 h3 => ?_⟩
    · rw [List.all_map]
      refine List.all_eq_true.mpr fun e he => ?_
      have := List.all_eq_true.mp hf e he
      rw [Bool.and_eq_true] at this
      exact this.1
    · refine q a H2 (Ex.fr e h1) (Ex.trans e h2) ?_
      rw [List.map_map] at h3
      exact h3
theorem ok_numbers_record (T : Tx K mg) : Pk P w K mg base CX0 "numbers_record" ["names", "numbers"] 3 (sp_numbers_record K) := by
  obtain ⟨fd, F⟩ := T.fn 27 (p := ("numbers_record", none)) (n := "numbers_record") (q := "numbers_record") (st := s_numbers_record)
  refine ⟨⟨_, fd, T.glo 27, F.kp, F.bindsN fun _ _ _ _ _ _ us hl => match us, hl with | [_, _], _ => rfl, F.ok sc_numbers_record (fun _ _ _ _ h => h.1) fun cdv A outer s H vs Q E hr h => ⟨t_numbers_record K, PSs.nox ?_, pure_numbers_record T vs H Q E h⟩⟩⟩
  exact (pss_one (ps_ret (pe_pk (ok_record T) (hr.mono (by decide)) pass0 (pa_cons (pe_lc (own := [("name", 2), ("number", 3)]) (g := (gTup K 2 (gCons (gName 2) (gCons (gName 3) gNil)))) (tt := tYes) rfl sc_numbers_record.nd (pi_zipA (by rfl) (T.free 48) (pa_cons (pv 0) (pa_cons (pv 1) pa_nil))) (blkOk_by (own := [("name", 2), ("number", 3)]) (N := ["names", "numbers", "name", "number"]) (sc := defScope s_numbers_record) (by decide +kernel)) (fun _ _ _ _ _ => (pg_tup rfl (pgs_cons (pg_name (i := 2) sc_numbers_record.nd rfl (Or.inl rfl)) (pgs_cons (pg_name (i := 3) sc_numbers_record.nd rfl (Or.inl rfl)) pgs_nil)))) (fun _ _ _ _ _ => pts_nil) (fun _ _ _ _ _ => (pe_tup (pa_cons (pv 2) (pa_cons (pe_pk (ok_integer T) (hr.mono (by decide)) pass0 (pa_cons (pv 3) pa_nil)) pa_nil))))) pa_nil))))
end
/-! ### class_of -/
abbrev s_class_of : Stmt := top 1
theorem sc_class_of : FnScope ["table", "offer", "place", "entry"] ["table", "offer"] (defScope s_class_of) := ⟨rfl, rfl, rfl, by decide +kernel, rfl, by decide +kernel, by decide +kernel⟩
theorem cf_spec (o : Nat) : ∀ (l : List Nat) (c : Nat), l.Pairwise (· < ·) → c ≤ R7293g.Spec.classFrom c l o ∧ R7293g.Spec.classFrom c l o ≤ c + l.length ∧ ∀ i e, l[i]? = some e → (e ≤ o ↔ c + i + 1 ≤ R7293g.Spec.classFrom c l o)
  | [], c, _ => ⟨Nat.le_refl _, Nat.le_refl _, fun i e h => by cases h⟩
  | x :: l, c, hp => by
    obtain ⟨hx, hp⟩ := List.pairwise_cons.mp hp
    unfold R7293g.Spec.classFrom
    by_cases h : x ≤ o
    · rw [if_pos h]
      obtain ⟨a, b, d⟩ := cf_spec o l (c + 1) hp
      refine ⟨by omega, by rw [List.length_cons]; omega, fun i e hi => ?_⟩
      cases i with
      | zero =>
        cases hi
        exact ⟨fun _ => by omega, fun _ => h⟩
      | succ i =>
        have := d i e hi
        rw [this]
        omega
    · rw [if_neg h]
      refine ⟨Nat.le_refl _, by omega, fun i e hi => ⟨fun q => ?_, fun q => by omega⟩⟩
      cases i with
      | zero =>
        cases hi
        exact absurd q h
      | succ i =>
        have := hx e (List.mem_of_getElem? hi)
        omega
theorem grows_pw : ∀ l : List Nat, R7293g.Spec.grows l = true → l.Pairwise (· < ·)
  | [], _ => List.Pairwise.nil
  | [_], _ => List.pairwise_cons.mpr ⟨(fun _ h => by cases h), List.Pairwise.nil⟩
  | a :: b :: l, h => by
    have h : (decide (a < b) && R7293g.Spec.grows (b :: l)) = true := h
    rw [Bool.and_eq_true] at h
    have ih := grows_pw (b :: l) h.2
    have hab := of_decide_eq_true h.1
    refine List.pairwise_cons.mpr ⟨fun x hx => ?_, ih⟩
    rcases List.mem_cons.mp hx with rfl | hx
    · exact hab
    · have := (List.pairwise_cons.mp ih).1 x hx
      omega
/-- a table: it begins with 0, it grows -/
def Tab (t : List Nat) : Prop := t.head? = some 0 ∧ R7293g.Spec.grows t = true ∧ t.length ≤ 8
theorem classOf_max {t : List Nat} (h : Tab t) (o : Nat) : R7293g.Spec.classOf t o < t.length ∧ t.getD (R7293g.Spec.classOf t o) 0 ≤ o ∧ ∀ i, i < t.length → t.getD i 0 ≤ o → i ≤ R7293g.Spec.classOf t o := by
  obtain ⟨h1, h2, _⟩ := h
  cases t with
  | nil => cases h1
  | cons x l =>
    cases h1
    have hp := (List.pairwise_cons.mp (grows_pw _ h2)).2
    obtain ⟨a, b, c⟩ := cf_spec o l 0 hp
    have e : R7293g.Spec.classOf (0 :: l) o = R7293g.Spec.classFrom 0 l o := rfl
    rw [e]
    refine ⟨by rw [List.length_cons]; omega, ?_, fun i hi q => ?_⟩
    · generalize hm : R7293g.Spec.classFrom 0 l o = m at *
      cases m with
      | zero => exact Nat.zero_le _
      | succ m =>
        have hm2 : m < l.length := by omega
        have := (c m l[m] (by simp [hm2])).mpr (by omega)
        simpa [List.getD, hm2] using this
    · cases i with
      | zero => exact Nat.zero_le _
      | succ i =>
        have hi : i < l.length := by rw [List.length_cons] at hi; omega
        have hq : l[i] ≤ o := by simpa [List.getD, hi] using q
        have := (c i l[i] (by simp [hi])).mp hq
        omega
def sp_class_of (K : PySem.W.Frag) : Sp := fun vs H Q _ => vs.length = 2 ∧ ∃ p t o, vs = [.ref p, natV o] ∧ SqL K H p (t.map natV) ∧ Tab t ∧ ∀ H', Ex H H' → Q (natV (R7293g.Spec.classOf t o)) H'
def t_class_of (K : PySem.W.Frag) : TS :=
  (tRet (tCB (rMax K) (tCons (tLc (iEnum K (tCons (tVar 0) tNil)) (gTup K 2 (gCons (gName 2) (gCons (gName 3) gNil))) (tTest (tOp rrLe (tVar 3) (tVar 1))) (tVar 2) [2, 3]) tNil)))
section
variable {P : Program} {w : World} {K : PySem.W.Frag} {mg : Str → Option Value} {base : Heap}
theorem pure_class_of (T : Tx K mg) (vs : List V) (H : Hp) (Q : VK) (E : XK) (h : sp_class_of K vs H Q E) : t_class_of K { nx := fun _ H' => Q .non H', rt := Q } (start ["table", "offer", "place", "entry"] vs) H := by
  obtain ⟨_, p, t, o, rfl, hp, ht, q⟩ := h
  unfold t_class_of
  walk_at "ev"
  have hlen := ht.2.2
  refine ⟨p, _, rfl, hp, lc_all (K := K) (List.range t.length) walk_enum (by rw [List.length_map, List.length_range]) (by rw [List.length_map]; omega) (fun i => decide (t.getD i 0 ≤ o)) (fun i y _ => y = natV i) (fun H1 e => ex_l e hp) (fun _ _ _ _ h _ => h) (fun i u x H1 H2 k1 k2 hi e hy f1 f2 => ?_) (fun D H1 acc hD e hx ha => ?_)⟩
  · obtain ⟨z, x, rfl, hz, rfl, hx⟩ := lc_enum hy
    obtain ⟨b, hb, rfl⟩ := map_get hx
    have hu : u = i := by
      obtain ⟨h1, h2⟩ := List.getElem?_eq_some_iff.mp hi
      rw [List.getElem_range] at h2
      exact h2.symm
    subst hu
    have gb : t.getD u 0 = b := by rw [List.getD, hb]; rfl
    refine s_pair (SqT.of upd_same) ?_
    refine ⟨rfl, ?_⟩
    walk_at "ev"
    have e1 : Ex H1 (upd H1 z (.tup [natV u, natV b])) := Ex.new hz
    refine ite_b (fun c => ?_) (fun c => ?_)
    · refine s_var rfl ?_
      have c := of_decide_eq_true c
      exact f1 (decide_eq_true (by rw [gb]; omega)) _ _ e1 rfl
    · have c := of_decide_eq_false c
      exact f2 (decide_eq_false (by rw [gb]; omega)) _ e1
  · walk_at "ev"
    obtain ⟨c1, c2, c3⟩ := classOf_max ht o
    have mem : R7293g.Spec.classOf t o ∈ (List.range t.length).filter fun i => decide (t.getD i 0 ≤ o) := List.mem_filter.mpr ⟨List.mem_range.mpr c1, decide_eq_true c2⟩
    refine ⟨D, ((List.range t.length).filter fun i => decide (t.getD i 0 ≤ o)).map (fun i : Nat => (i : Int)), rfl, ?_, ?_, fun m hm hy => ?_⟩
    · rw [List.map_map]
      rw [all2_map ha] at hx
      exact sq_of hx
    · rw [List.length_map]
      exact List.length_pos_of_mem mem
    · obtain ⟨i, hi, rfl⟩ := List.mem_map.mp hm
      have h1 := hy _ (List.mem_map.mpr ⟨_, mem, rfl⟩)
      obtain ⟨i1, i2⟩ := List.mem_filter.mp hi
      have h2 := c3 i (List.mem_range.mp i1) (of_decide_eq_true i2)
      have : i = R7293g.Spec.classOf t o := by omega
      rw [this]
      exact q H1 e
theorem ok_class_of (T : Tx K mg) : Pk P w K mg base CX0 "class_of" ["table", "offer"] 1 (sp_class_of K) := by
  obtain ⟨fd, F⟩ := T.fn 0 (p := ("class_of", none)) (n := "class_of") (q := "class_of") (st := s_class_of)
  refine ⟨⟨_, fd, T.glo 0, F.kp, F.bindsN fun _ _ _ _ _ _ us hl => match us, hl with | [_, _], _ => rfl, F.ok sc_class_of (fun _ _ _ _ h => h.1) fun cdv A outer s H vs Q E hr h => ⟨t_class_of K, PSs.nox ?_, pure_class_of T vs H Q E h⟩⟩⟩
  exact (pss_one (ps_ret (pe_callB (cr_max rfl) (by rfl) (T.free 42) (by decide +kernel) (pa_cons (pe_lc (own := [("place", 2), ("entry", 3)]) (g := (gTup K 2 (gCons (gName 2) (gCons (gName 3) gNil)))) (tt := (tTest (tOp rrLe (tVar 3) (tVar 1)))) rfl sc_class_of.nd (pi_enum (by rfl) (T.free 39) (pa_cons (pv 0) pa_nil)) (blkOk_by (own := [("place", 2), ("entry", 3)]) (N := ["table", "offer", "place", "entry"]) (sc := defScope s_class_of) (by decide +kernel)) (fun _ _ _ _ _ => (pg_tup rfl (pgs_cons (pg_name (i := 2) sc_class_of.nd rfl (Or.inl rfl)) (pgs_cons (pg_name (i := 3) sc_class_of.nd rfl (Or.inl rfl)) pgs_nil)))) (fun _ _ _ _ _ => (pts_one (pt_cmpR op_le (pv 3) (pv 1) (nomark _)))) (fun _ _ _ _ _ => (pv 2))) pa_nil))))
end
/-! ### knocker -/
abbrev s_knocker : Stmt := top 48
theorem sc_knocker : FnScope ["a", "address"] ["a"] (defScope s_knocker) := ⟨rfl, rfl, rfl, by decide +kernel, rfl, by decide +kernel, by decide +kernel⟩
/-- the values at xs -/
def Args (K : PySem.W.Frag) (H : Hp) (p : Addr) (l : List RWire.Value) : Prop := ∃ xs, SqL K H p (xs.map V.ref) ∧ All2 (VAt K H) l xs
theorem Args.get {K : PySem.W.Frag} {H : Hp} {p : Addr} {l : List RWire.Value} (h : Args K H p l) {i : Nat} {v : RWire.Value} (hi : l[i]? = some v) : ∃ ys a, SqL K H p ys ∧ atI ys (i : Int) = some (.ref a) ∧ VAt K H v a := by
  obtain ⟨xs, h1, h2⟩ := h
  obtain ⟨a, ha, va⟩ := h2.get' hi
  exact ⟨_, a, h1, atI_nat (by rw [List.getElem?_map, ha]; rfl), va⟩
theorem Args.ex {K : PySem.W.Frag} {H H' : Hp} {p : Addr} {l : List RWire.Value} (h : Args K H p l) (e : Ex H H') : Args K H' p l := by
  obtain ⟨xs, h1, h2⟩ := h
  exact ⟨xs, ex_l e h1, h2.mono fun _ _ h => h.ex e⟩
def sp_knocker (K : PySem.W.Frag) : Sp := fun vs H Q E => vs.length = 1 ∧ ∃ p x y l, vs = [.ref p] ∧ Args K H p (x :: y :: l) ∧
  Out K E H (R7293g.Spec.andThen (R7293g.Spec.addressArg (Rust.taken x)) fun a => R7293g.Spec.andThen (R7293g.Spec.numberArg (Rust.taken y)) fun n => .ok (a, n)) fun r => ∀ t H', Ex H H' → H' t = some (.tup [natV r.1, natV r.2]) → Q (.ref t) H'
theorem out_bind {α β : Type} {K : PySem.W.Frag} {E : XK} {H : Hp} {r : R7293g.Spec.Res α} {f : α → R7293g.Spec.Res β} {ok : β → Prop} (h : Out K E H (R7293g.Spec.andThen r f) ok) : Out K E H r fun a => Out K E H (f a) ok := by
  cases r with
  | ok a => exact h
  | error e => exact h
theorem Out.mono {α : Type} {K : PySem.W.Frag} {E : XK} {H H' : Hp} {r : R7293g.Spec.Res α} {ok ok' : α → Prop} (h : Out K E H r ok) (e : Ex H H') (f : ∀ a, r = .ok a → ok a → ok' a) : Out K E H' r ok' := by
  cases r with
  | ok a => exact f a rfl h
  | error e => exact fun k m hm => (h k m hm).mono ‹_›
def t_knocker (K : PySem.W.Frag) (E : XK) : TS :=
  (tSeq (tAsg (tCall (sp_address_of K) [] E (tCons (tOp (rIxL K) (tVar 0) (tC (.int 0))) tNil)) (gName 1))
  (tRet (tTup (tCons (tVar 1) (tCons (tCall (sp_number_for K) [] E (tCons (tOp (rIxL K) (tVar 0) (tC (.int 1))) (tCons (tC (.str "number")) (tCons (tC (.int 4095)) tNil)))) tNil)))))
section
variable {P : Program} {w : World} {K : PySem.W.Frag} {mg : Str → Option Value} {base : Heap}
theorem pure_knocker (T : Tx K mg) (vs : List V) (H : Hp) (Q : VK) (E : XK) (h : sp_knocker K vs H Q E) : t_knocker K E { nx := fun _ H' => Q .non H', rt := Q } (start ["a", "address"] vs) H := by
  obtain ⟨_, p, x, y, l, rfl, hA, q⟩ := h
  obtain ⟨ys, a, h1, h2, h3⟩ := hA.get (i := 0) rfl
  obtain ⟨zs, b, h4, h5, h6⟩ := hA.get (i := 1) rfl
  unfold t_knocker
  walk_at "ev"
  refine s_ixL h1 h2 ?_
  walk_at "ev"
  refine ⟨rfl, a, x, rfl, h3, (out_bind q).mono (Ex.refl H) fun n _ q => ?_⟩
  walk_at "ev"
  refine ⟨rfl, b, y, "number", 4095, R7293g.Spec.typeErr "number must be an integer from 0 to 4095", rfl, h6, ⟨by decide +kernel, by decide +kernel, by decide +kernel⟩, err_ok rfl (by decide +kernel), (out_bind q).mono (Ex.refl H) fun m _ q => ?_⟩
  walk_at "ev"
  exact q _ _ ‹Ex H _› ‹_›
theorem ok_knocker (T : Tx K mg) : Pk P w K mg base (L2N.CX P w) "knocker" ["a"] 4 (sp_knocker K) := by
  obtain ⟨fd, F⟩ := T.fn 24 (p := ("knocker", none)) (n := "knocker") (q := "knocker") (st := s_knocker)
  refine ⟨⟨_, fd, T.glo 24, F.kp, F.bindsN fun _ _ _ _ _ _ us hl => match us, hl with | [_], _ => rfl, F.ok sc_knocker (fun _ _ _ _ h => h.1) fun cdv A outer s H vs Q E hr h => ⟨t_knocker K E, ?_, pure_knocker T vs H Q E h⟩⟩⟩
  exact (pss_cons (ps_set (i := 1) sc_knocker.nd rfl (Or.inl rfl) (pe_pk (ok_address_of T) (hr.mono (by decide)) (L2N.passes_call (L2N.takes_of rfl rfl rfl rfl) fun _ _ _ _ h => h) (pa_cons (pe_ix ix_list (pv 0) pe_int (fun _ _ => rfl)) pa_nil)))
    (pss_one (ps_ret (pe_tup (pa_cons (pv 1) (pa_cons (pe_pk (ok_number_for T) (hr.mono (by decide)) (L2N.passes_call (L2N.takes_of rfl rfl rfl rfl) fun _ _ _ _ h => h) (pa_cons (pe_ix ix_list (pv 0) pe_int (fun _ _ => rfl)) (pa_cons pe_str (pa_cons pe_int pa_nil)))) pa_nil))))))
end
/-! ### table_of -/
abbrev s_table_of : Stmt := top 46
theorem sc_table_of : FnScope ["value", "good", "found", "grows", "one", "other"] ["value"] (defScope s_table_of) := ⟨rfl, rfl, rfl, by decide +kernel, rfl, by decide +kernel, by decide +kernel⟩
def sp_table_of (K : PySem.W.Frag) : Sp := fun vs H Q E => vs.length = 1 ∧ ∃ a v, vs = [.ref a] ∧ VAt K H v a ∧ Out K E H (R7293g.Spec.tableArg (Rust.taken v)) fun t => Tab t → (∀ e ∈ t, e ≤ 65535) → ∀ p H', H p = none → Ex H H' → H' p = some (.lst (t.map natV)) → Q (.ref p) H'
theorem taken_all : ∀ l : List RWire.Value, Rust.takenAll l = l.map Rust.taken
  | [] => rfl
  | v :: l => by rw [List.map_cons, ← taken_all l]; rfl
theorem allSome_yes {lo most : Nat} : ∀ {l : List RWire.Value}, l.all (numIn lo most) = true → ∃ ns : List Nat, l = ns.map (fun n : Nat => RWire.Value.int (n : Int)) ∧ (∀ n ∈ ns, lo ≤ n ∧ n ≤ most) ∧ R7293g.Spec.allSome ((l.map Rust.taken).map (R7293g.Spec.integerIn lo most)) = some ns
  | [], _ => ⟨[], rfl, (fun _ h => by cases h), rfl⟩
  | v :: l, h => by
    rw [List.all_cons, Bool.and_eq_true] at h
    obtain ⟨ns, rfl, h1, h2⟩ := allSome_yes h.2
    cases v
    case int i =>
      have h : (decide ((lo : Int) ≤ i) && decide (i ≤ (most : Int))) = true := h.1
      rw [Bool.and_eq_true] at h
      have g1 := of_decide_eq_true h.1
      have g2 := of_decide_eq_true h.2
      have gi : ((i.toNat : Nat) : Int) = i := Int.toNat_of_nonneg (by omega)
      refine ⟨i.toNat :: ns, by rw [List.map_cons, gi], fun n hn => ?_, ?_⟩
      · rcases List.mem_cons.mp hn with rfl | hn
        · omega
        · exact h1 n hn
      · have e : R7293g.Spec.integerIn lo most (Rust.taken (.int i)) = some i.toNat := by
          show ((if (some i == RShim.F64.negZero) = true then none else RShim.F64.toInt? (some i)).bind fun i => if Int.ofNat lo ≤ i ∧ i ≤ Int.ofNat most then some i.toNat else none) = _
          rw [if_neg (by unfold RShim.F64.negZero; exact Bool.false_ne_true)]
          show (if Int.ofNat lo ≤ i ∧ i ≤ Int.ofNat most then some i.toNat else none) = _
          rw [if_pos ⟨g1, g2⟩]
        rw [List.map_cons, List.map_cons, e]
        show (R7293g.Spec.allSome _).map _ = _
        rw [h2]
        rfl
    all_goals cases h.1
theorem allSome_no {lo most : Nat} : ∀ {l : List RWire.Value}, l.all (numIn lo most) = false → R7293g.Spec.allSome ((l.map Rust.taken).map (R7293g.Spec.integerIn lo most)) = none
  | [], h => by cases h
  | v :: l, h => by
    rw [List.all_cons] at h
    rw [List.map_cons, List.map_cons]
    cases hv : numIn lo most v with
    | false =>
      rw [numIn_none hv]
      rfl
    | true =>
      rw [hv, Bool.true_and] at h
      cases R7293g.Spec.integerIn lo most (Rust.taken v) with
      | none => rfl
      | some n =>
        show (R7293g.Spec.allSome _).map _ = _
        rw [allSome_no h]
        rfl
/-- a list of numbers that is asked for -/
theorem nums_yes {least most lo hi : Nat} {v : RWire.Value} (h : areNums least most lo hi v = true) : ∃ ns : List Nat, v = .list ((ns.map fun n : Nat => (n : Int)).map RWire.Value.int) ∧ (least ≤ ns.length ∧ ns.length ≤ most) ∧ (∀ n ∈ ns, lo ≤ n ∧ n ≤ hi) ∧
    ∃ l, Rust.taken v = .arr l ∧ l.length = ns.length ∧ R7293g.Spec.allSome (l.map (R7293g.Spec.integerIn lo hi)) = some ns := by
  cases v
  case list l =>
    have h : ((decide ((least : Int) ≤ (l.length : Nat)) && decide (((l.length : Nat) : Int) ≤ most)) && l.all (numIn lo hi)) = true := h
    rw [Bool.and_eq_true, Bool.and_eq_true] at h
    obtain ⟨⟨h1, h2⟩, h3⟩ := h
    have h1 := of_decide_eq_true h1
    have h2 := of_decide_eq_true h2
    obtain ⟨ns, rfl, g1, g2⟩ := allSome_yes h3
    rw [List.length_map] at h1 h2
    refine ⟨ns, by rw [List.map_map]; rfl, ⟨by omega, by omega⟩, g1, Rust.takenAll _, rfl, by rw [taken_all, List.length_map, List.length_map], ?_⟩
    rw [taken_all]
    exact g2
  all_goals cases h
theorem nums_no {least most lo hi : Nat} {v : RWire.Value} (h : areNums least most lo hi v = false) : (∃ l, Rust.taken v = .arr l ∧ ((least ≤ l.length ∧ l.length ≤ most) → R7293g.Spec.allSome (l.map (R7293g.Spec.integerIn lo hi)) = none)) ∨ (∀ l, Rust.taken v ≠ .arr l) ∨ (∃ u, v = .octets u) := by
  cases v
  case list l =>
    refine .inl ⟨Rust.takenAll l, rfl, fun q => ?_⟩
    rw [taken_all, List.length_map] at q
    rw [taken_all]
    have h : ((decide ((least : Int) ≤ (l.length : Nat)) && decide (((l.length : Nat) : Int) ≤ most)) && l.all (numIn lo hi)) = false := h
    rw [decide_eq_true (show (least : Int) ≤ (l.length : Nat) by omega), decide_eq_true (show ((l.length : Nat) : Int) ≤ most by omega), Bool.true_and, Bool.true_and] at h
    exact allSome_no h
  case octets u => exact .inr (.inr ⟨u, rfl⟩)
  all_goals exact .inr (.inl fun _ => by intro q; cases q)
theorem grows_zip : ∀ l : List Nat, R7293g.Spec.grows l = (l.zip l.tail).all fun e => decide (e.1 < e.2)
  | [] => rfl
  | [_] => rfl
  | a :: b :: l => by
    have ih := grows_zip (b :: l)
    show (decide (a < b) && R7293g.Spec.grows (b :: l)) = _
    rw [ih]
    rfl
def t_table_of (K : PySem.W.Frag) (E : XK) : TS :=
  (tSeq (tAsg (tCall (sp_are_numbers K) [] E0 (tCons (tVar 0) (tCons (tC (.int 1)) (tCons (tC (.int 8)) (tCons (tC (.int 0)) (tCons (tC (.int 65535)) tNil)))))) (gName 1))
  (tSeq (tDrop (tCall (sp_need_kind K) [] E (tCons (tVar 1) (tCons (tC (.str "table must be a list of 1 to 8 integers from 0 to 65535")) tNil))))
  (tSeq (tAsg (tCall (sp_numbers_of K) [] E0 (tCons (tVar 0) tNil)) (gName 2))
  (tSeq (tAsg (tCB (rAll K) (tCons (tLc (iZip K (tCons (tVar 2) (tCons (tSl (rSlL K) (tVar 2) (tPart (tC (.int 1))) tNoPart) tNil))) (gTup K 2 (gCons (gName 4) (gCons (gName 5) gNil))) tYes (tOp rrLt (tVar 4) (tVar 5)) [4, 5]) tNil)) (gName 3))
  (tSeq (tDrop (tCall (sp_need_range K) [] E (tCons (tAndV (tOp rEq (tOp (rIxL K) (tVar 2) (tC (.int 0))) (tC (.int 0))) (tVar 3)) (tCons (tC (.str "a table begins with 0 and grows")) tNil))))
  (tRet (tVar 2)))))))
section
variable {P : Program} {w : World} {K : PySem.W.Frag} {mg : Str → Option Value} {base : Heap}
theorem pure_table_of (T : Tx K mg) (vs : List V) (H : Hp) (Q : VK) (E : XK) (h : sp_table_of K vs H Q E) : t_table_of K E { nx := fun _ H' => Q .non H', rt := Q } (start ["value", "good", "found", "grows", "one", "other"] vs) H := by
  obtain ⟨_, a, v, rfl, hv, q⟩ := h
  unfold t_table_of
  walk_at "ev"
  refine ⟨rfl, a, v, ((1 : Nat) : Int), ((8 : Nat) : Int), ((0 : Nat) : Int), ((65535 : Nat) : Int), rfl, hv, by decide, fun H1 e1 => ?_⟩
  walk_at "ev"
  refine ⟨rfl, _, _, rfl, fun g => ?_, fun g => ?_⟩
  · obtain ⟨ns, rfl, hl, hb, l, hl1, hl2, hl3⟩ := nums_yes g
    have hT : R7293g.Spec.tableArg (Rust.taken (.list ((ns.map fun n : Nat => (n : Int)).map RWire.Value.int))) = if (ns.head? == some 0 && R7293g.Spec.grows ns) = true then .ok ns else .error (R7293g.Spec.rangeErr "a table begins with 0 and grows") := by
      rw [hl1]
      unfold R7293g.Spec.tableArg
      dsimp only
      rw [if_pos (by omega), show R7293g.Spec.maxOffer = 65535 from rfl, hl3]
    rw [hT] at q
    walk_at "ev"
    refine ⟨rfl, a, _, rfl, hv.ex e1, by rw [List.length_map]; omega, fun p H2 hp e2 h2 => ?_⟩
    walk_at "ev"
    refine s_sl (sq_of h2) (fun s H3 hs e3 h3 => ?_)
    walk_at "ev"
    have hns : (ns.map fun n : Nat => (n : Int)).map V.int = ns.map natV := by
      rw [List.map_map]
      rfl
    rw [hns] at h2
    have hcut : cutV (((ns.map fun n : Nat => (n : Int)).map V.int)) (some 1) none = ns.tail.map natV := by
      rw [hns]
      unfold cutV
      rw [show (some (1 : Int)) = some ((1 : Nat) : Int) from rfl, HT.sIx_nat, HT.sIx_none, List.length_map, Nat.min_eq_left hl.1, List.take_of_length_le (by rw [List.length_drop, List.length_map]; exact Nat.le_refl _), ← List.map_drop]
      rw [List.drop_one]
    rw [hcut] at h3
    refine ⟨p, s, _, _, rfl, ex_l e3 (sq_of h2), sq_of h3, lc_all (K := K) (ns.zip ns.tail) (walk_zip (n := (ns.zip ns.tail).length) (by rw [List.length_zip, List.length_map, List.length_map])) rfl (by rw [List.length_zip]; omega) (fun _ => true) (fun e y _ => y = .bl (decide (e.1 < e.2))) (fun H1 e => ⟨ex_l (Ex.trans e3 e) (sq_of h2), ex_l e (sq_of h3)⟩) (fun _ _ _ _ h _ => h) (fun i u x H4 H5 k1 k2 hi e hy f1 f2 => ?_) (fun D H4 acc hD e hx ha => ?_)⟩
    · obtain ⟨t, x, y, rfl, ht, rfl, g1, g2⟩ := hy
      have g1 : (ns.map natV)[i]? = some x := g1
      have g2 : (ns.tail.map natV)[i]? = some y := g2
      obtain ⟨n1, m1, rfl⟩ := map_get g1
      obtain ⟨n2, m2, rfl⟩ := map_get g2
      have hu : u = (n1, n2) := by
        have := List.getElem?_zip_eq_some.mp hi
        rw [m1, m2] at this
        obtain ⟨a1, a2⟩ := this
        cases a1
        cases a2
        rfl
      subst hu
      refine s_pair (SqT.of upd_same) ?_
      refine ⟨rfl, ?_⟩
      walk_at "ev"
      refine f1 rfl _ _ (Ex.new ht) ?_
      show V.bl (decide ((n1 : Int) < (n2 : Int))) = V.bl (decide (n1 < n2))
      congr 1
      rw [Bool.eq_iff_iff]
      simp
    · rw [fil_yes] at ha
      rw [all2_bl ha] at hx
      walk_at "ev"
      refine s_all (sq_of hx) ?_
      rw [all_map, ← grows_zip]
      walk_at "ev"
      obtain ⟨n0, r, rfl⟩ : ∃ n0 r, ns = n0 :: r := by
        cases ns with
        | nil => exact absurd hl.1 (by decide)
        | cons a b => exact ⟨a, b, rfl⟩
      have h4 : H4 p = some (.lst (natV n0 :: r.map natV)) := e _ _ (e3 _ _ h2)
      have E4 : Ex H H4 := e1.trans (e2.trans (Ex.trans e3 e))
      walk_at "ev"
      refine x_a (fun c => ?_) (fun c => ?_)
      · walk_at "ev"
        have c : n0 = 0 := by
          have := of_decide_eq_true c
          have := V.int.inj this
          omega
        subst c
        refine ⟨rfl, _, _, rfl, fun g => ?_, fun g => ?_⟩
        · rw [if_pos (by rw [g]; rfl)] at q
          walk_at "ev"
          exact q ⟨rfl, g, hl.2⟩ (fun e he => (hb e he).2) p H4 (Ex.fr e1 hp) E4 h4
        · rw [if_neg (by rw [g, Bool.and_false]; exact Bool.false_ne_true)] at q
          exact (q 2 _ (err_ok rfl (by decide +kernel))).mono E4
      · have c : ¬ n0 = 0 := fun z => by
          subst z
          exact absurd rfl (of_decide_eq_false c)
        refine ⟨rfl, _, _, rfl, (fun g => Bool.noConfusion g), fun g => ?_⟩
        rw [if_neg (by
          intro z
          rw [Bool.and_eq_true] at z
          have : some n0 = some 0 := eq_of_beq z.1
          exact c (Option.some.inj this))] at q
        exact (q 2 _ (err_ok rfl (by decide +kernel))).mono E4
  · have hT : R7293g.Spec.tableArg (Rust.taken v) = .error R7293g.Spec.tableErr := by
      unfold R7293g.Spec.tableArg
      rcases nums_no g with ⟨l, h1, h2⟩ | h1 | ⟨u, rfl⟩
      · rw [h1]
        dsimp only
        by_cases c : 1 ≤ l.length ∧ l.length ≤ 8
        · rw [if_pos c, show R7293g.Spec.maxOffer = 65535 from rfl, h2 c]
        · rw [if_neg c]
      · cases hc : Rust.taken v <;> first | rfl | exact absurd hc (h1 _)
      · unfold VAt at hv
        exact hv.elim
    rw [hT] at q
    exact (q 1 _ (err_ok rfl (by decide +kernel))).mono e1
theorem ok_table_of (T : Tx K mg) : Pk P w K mg base (L2N.CX P w) "table_of" ["value"] 3 (sp_table_of K) := by
  obtain ⟨fd, F⟩ := T.fn 22 (p := ("table_of", none)) (n := "table_of") (q := "table_of") (st := s_table_of)
  refine ⟨⟨_, fd, T.glo 22, F.kp, F.bindsN fun _ _ _ _ _ _ us hl => match us, hl with | [_], _ => rfl, F.ok sc_table_of (fun _ _ _ _ h => h.1) fun cdv A outer s H vs Q E hr h => ⟨t_table_of K E, ?_, pure_table_of T vs H Q E h⟩⟩⟩
  exact (pss_cons (ps_set (i := 1) sc_table_of.nd rfl (Or.inl rfl) (pe_pk (ok_are_numbers T) (hr.mono (by decide)) pass0 (pa_cons (pv 0) (pa_cons pe_int (pa_cons pe_int (pa_cons pe_int (pa_cons (pe_gi (T.int 58)) pa_nil)))))))
    (pss_cons (ps_expr (pe_pk (ok_need_kind T) (hr.mono (by decide)) (L2N.passes_call (L2N.takes_of rfl rfl rfl rfl) fun _ _ _ _ h => h) (pa_cons (pv 1) (pa_cons pe_str pa_nil))))
    (pss_cons (ps_set (i := 2) sc_table_of.nd rfl (Or.inl rfl) (pe_pk (ok_numbers_of T) (hr.mono (by decide)) pass0 (pa_cons (pv 0) pa_nil)))
    (pss_cons (ps_set (i := 3) sc_table_of.nd rfl (Or.inl rfl) (pe_callB (cr_all rfl) (by rfl) (T.free 37) (by decide +kernel) (pa_cons (pe_lc (own := [("one", 4), ("other", 5)]) (g := (gTup K 2 (gCons (gName 4) (gCons (gName 5) gNil)))) (tt := tYes) rfl sc_table_of.nd (pi_zip (by rfl) (T.free 48) (pa_cons (pv 2) (pa_cons (pe_slice sl_list (pv 2) (po_some pe_int) po_none) pa_nil))) (blkOk_by (own := [("one", 4), ("other", 5)]) (N := ["value", "good", "found", "grows", "one", "other"]) (sc := defScope s_table_of) (by decide +kernel)) (fun _ _ _ _ _ => (pg_tup rfl (pgs_cons (pg_name (i := 4) sc_table_of.nd rfl (Or.inl rfl)) (pgs_cons (pg_name (i := 5) sc_table_of.nd rfl (Or.inl rfl)) pgs_nil)))) (fun _ _ _ _ _ => pts_nil) (fun _ _ _ _ _ => (pe_cmpR op_lt (pv 4) (pv 5) (nomark _)))) pa_nil)))
    (pss_cons (ps_expr (pe_pk (ok_need_range T) (hr.mono (by decide)) (L2N.passes_call (L2N.takes_of rfl rfl rfl rfl) fun _ _ _ _ h => h) (pa_cons (pe_and (pe_cmpR op_eq (pe_ix ix_list (pv 2) pe_int (fun _ _ => rfl)) pe_int (nomark _)) (pe_one (pv 3))) (pa_cons pe_str pa_nil))))
    (pss_one (ps_ret (pv 2))))))))
end
end Dk
namespace Dk
open PySem PySem.Spec PyProof.Rows L2 Evl RZ
local macro_rules | `(tactic| walk_at "hp") => `(tactic| first | assumption | exact L2.upd_same | (apply Dk.Ex.at (by assumption); walk_at "hp"))
local macro_rules | `(tactic| walk_at "hq") => `(tactic| first | assumption | (apply Evl.sq_of; walk_at "hp") | (apply Evl.st_of; walk_at "hp") | (apply Evl.ex_l (by assumption); walk_at "hq") | (apply Evl.ex_t (by assumption); walk_at "hq"))
local macro_rules | `(tactic| walk_at "ex") => `(tactic| first | exact Evl.Ex.refl _ | assumption | (refine Evl.Ex.trans ?_ (by assumption); walk_at "ex"))
local macro_rules | `(tactic| walk_at "e1") => `(tactic| first
  | (with_reducible refine if_t ?_) | (with_reducible refine if_f ?_) | (with_reducible refine s_seq ?_) | (with_reducible refine s_asg ?_) | (with_reducible refine s_name ?_) | (with_reducible refine s_drop ?_) | (with_reducible refine s_ret ?_) | (with_reducible refine s_nil ?_) | (with_reducible refine s_cons ?_)
  | (with_reducible refine s_c ?_)
  | ((with_reducible refine' s_var ?h1 ?_); (case h1 => rfl))
  | (with_reducible refine s_op ?_) | (with_reducible refine s_call ?_) | (with_reducible refine s_cb ?_) | (with_reducible refine s_fld ?_) | (with_reducible refine s_tup ?_) | (with_reducible refine s_lst ?_) | (with_reducible refine s_meth ?_) | (with_reducible refine s_test ?_) | (with_reducible refine s_B ?_)
  | (with_reducible refine s_not ?_) | (with_reducible refine s_xb ?_) | (with_reducible refine s_if ?_) | (with_reducible refine s_ifS ?_) | (with_reducible refine s_next ?_) | (with_reducible refine s_sfld ?_)
  | (with_reducible refine s_I0 ?_) | ((with_reducible refine' s_I ?h1 ?_); (case h1 => first | exact ⟨by decide, by decide⟩ | exact .inr ⟨by decide, by decide⟩ | (show (0 : Int) < _; decide) | (show (0 : Int) ≤ _; first | decide | omega) | exact ⟨by omega, by omega⟩))
  | ((with_reducible refine' s_xf ?h1 ?h2 ?h3 ?h4 ?_); (case h1 => walk_at "hp"); (case h2 => exact Tx.clsK (by assumption) (by decide +kernel)); (case h3 => exact Tx.noatK (by assumption) (by decide +kernel)); (case h4 => rfl))
  | ((with_reducible refine' s_xs ?h1 ?h2 ?h3 ?h4 ?h5 ?_); (case h1 => walk_at "hp"); (case h2 => exact Tx.clsK (by assumption) (by decide +kernel)); (case h3 => exact Tx.noatK (by assumption) (by decide +kernel)); (case h4 => exact Dk.lt_ble rfl); (case h5 => rfl))
  | ((with_reducible refine' s_eq ?h1 ?_); (case h1 => rfl)) | ((with_reducible refine' s_ne ?h1 ?_); (case h1 => rfl)) | (with_reducible refine s_isN ?_)
  | ((with_reducible refine' s_xt ?h1 ?_); (case h1 => exact Nat.le_of_ble_eq_true rfl); intro _ _ _ _ _)
  | ((with_reducible refine' s_xl ?h1 ?_); (case h1 => exact Nat.le_of_ble_eq_true rfl); intro _ _ _ _ _)
  | ((with_reducible refine' s_lenL ?h1 ?_); (case h1 => walk_at "hq")) | ((with_reducible refine' s_lenT ?h1 ?_); (case h1 => walk_at "hq"))
  | ((with_reducible refine' s_ixL ?h1 ?h2 ?_); (case h1 => walk_at "hq"); (case h2 => first | assumption | exact atI_0 | exact atI_1 | rfl))
  | ((with_reducible refine' s_ixT ?h1 ?h2 ?_); (case h1 => walk_at "hq"); (case h2 => first | assumption | exact atI_0 | exact atI_1 | rfl))
  | (with_reducible refine s_or ?_) | (with_reducible refine s_and ?_)
  | ((with_reducible refine' s_nin ?h1 ?h2 ?h3 ?_); (case h1 => walk_at "hq"); (case h2 => rfl); (case h3 => rfl))
  | (with_reducible refine s_tru ?_)
  | (with_reducible refine s_ip ?_) | (with_reducible refine s_for1 ?_) | (with_reducible refine s_for2 ?_) | (with_reducible refine s_for3 ?_) | (with_reducible refine s_forL ?_) | (with_reducible refine s_forT ?_) | (with_reducible refine s_lcL ?_) | (with_reducible refine s_lcT ?_) | (with_reducible refine s_lcS ?_) | (with_reducible refine s_lcE ?_) | (with_reducible refine s_lcZ ?_) | (with_reducible refine s_lcZA ?_) | (with_reducible refine s_lcR ?_) | (with_reducible refine s_chain ?_) | (with_reducible refine s_av ?_) | (with_reducible refine s_ov ?_) | (with_reducible refine s_yes ?_) | (with_reducible refine s_tbm ?_) | (with_reducible refine s_ord ?_) | (with_reducible refine s_raise ?_) | (with_reducible refine s_fldaug ?_) | (with_reducible refine s_add ?_) | (with_reducible refine s_slc ?_) | (with_reducible refine s_part ?_) | (with_reducible refine x_p1 ?_) | (with_reducible refine s_nopart ?_)
  | ((with_reducible refine' x_bm ?h1 ?_); (case h1 => walk_at "hq")) | (with_reducible refine s_par1 ?_) | (with_reducible refine s_un ?_) | (with_reducible refine s_uI ?_))
local macro_rules | `(tactic| walk_at "ev") => `(tactic| repeat walk_at "e1")
-- plain
/-! ### layouts -/
abbrev fKnock (a n o p y : Nat) : List (Str × V) := [("address", natV a), ("number", natV n), ("offer", natV o), ("period", natV p), ("answer", natV y)]
abbrev fSaying (p a n c : Nat) : List (Str × V) := [("period", natV p), ("address", natV a), ("number", natV n), ("place", natV c)]
abbrev fDoor (c s : Nat) (tab : Addr) (p : Nat) (rem con rec_ : Addr) (t : Nat) : List (Str × V) := [("capacity", natV c), ("secret", natV s), ("table", .ref tab), ("period", natV p), ("remembered", .ref rem), ("connections", .ref con), ("records", .ref rec_), ("tickets", natV t)]
/-- a knock that is remembered -/
def KnAt (K : PySem.W.Frag) (H : Hp) (e : R7293g.Spec.Entry) (b : Addr) : Prop := ∃ dx, H b = some (.ins (cA K "Knock") dx (fKnock e.address e.number e.offer e.period e.answer))
def CnAt (K : PySem.W.Frag) (H : Hp) (c : R7293g.Spec.Conn) (b : Addr) : Prop := H b = some (.tup [natV c.address, natV c.number, natV c.offer])
def RcAt (K : PySem.W.Frag) (H : Hp) (c : R7293g.Spec.Rec_) (b : Addr) : Prop := H b = some (.tup [natV c.address, natV c.number, natV c.until_])
/-- where a door's parts lie -/
structure DL where
  a : Addr
  dx : Addr
  tab : Addr
  rem : Addr
  con : Addr
  rec_ : Addr
/-- a list of references -/
def LsAt {α : Type} (P : α → Addr → Prop) (H : Hp) (p : Addr) (l : List α) : Prop := ∃ xs, H p = some (.lst (xs.map V.ref)) ∧ All2 P l xs
theorem LsAt.ex {α : Type} {P P' : α → Addr → Prop} {H H' : Hp} {p : Addr} {l : List α} (h : LsAt P H p l) (e : H' p = H p) (f : ∀ a b, P a b → P' a b) : LsAt P' H' p l := by
  obtain ⟨xs, h1, h2⟩ := h
  exact ⟨xs, e.trans h1, h2.mono f⟩
structure DoorAt (K : PySem.W.Frag) (H : Hp) (n : Nat) (d : DL) (g : R7293g.Spec.Gate) : Prop where
  obj : H d.a = some (.ins (cA K "Door") d.dx (fDoor g.capacity g.secret d.tab g.period d.rem d.con d.rec_ g.serial))
  tab : H d.tab = some (.lst (g.table.map natV))
  rem : LsAt (KnAt K H) H d.rem g.entries
  con : LsAt (CnAt K H) H d.con g.conns
  rec_ : LsAt (RcAt K H) H d.rec_ g.records
  ok : Tab g.table
  keep : g.keep = 1
  n1 : g.entries.length ≤ n
  n2 : g.conns.length ≤ n
  n3 : g.records.length ≤ n
  d1 : d.rem ≠ d.con
  d2 : d.rem ≠ d.rec_
  d3 : d.con ≠ d.rec_
  d4 : d.tab ≠ d.rem
  d5 : d.tab ≠ d.con
  d6 : d.tab ≠ d.rec_
section
variable {K : PySem.W.Frag} {H H' : Hp} {n : Nat} {d d' : DL} {g : R7293g.Spec.Gate}
theorem KnAt.ex {e : R7293g.Spec.Entry} {b : Addr} (h : KnAt K H e b) (x : Ex H H') : KnAt K H' e b := by
  obtain ⟨dx, h⟩ := h
  exact ⟨dx, x _ _ h⟩
theorem DoorAt.ex (h : DoorAt K H n d g) (x : Ex H H') : DoorAt K H' n d g where
  obj := x _ _ h.obj
  tab := x _ _ h.tab
  rem := by obtain ⟨xs, h1, h2⟩ := h.rem; exact ⟨xs, x _ _ h1, h2.mono fun _ _ q => q.ex x⟩
  con := by obtain ⟨xs, h1, h2⟩ := h.con; exact ⟨xs, x _ _ h1, h2.mono fun _ _ q => x _ _ q⟩
  rec_ := by obtain ⟨xs, h1, h2⟩ := h.rec_; exact ⟨xs, x _ _ h1, h2.mono fun _ _ q => x _ _ q⟩
  ok := h.ok
  keep := h.keep
  n1 := h.n1
  n2 := h.n2
  n3 := h.n3
  d1 := h.d1
  d2 := h.d2
  d3 := h.d3
  d4 := h.d4
  d5 := h.d5
  d6 := h.d6
theorem DoorAt.up (h : DoorAt K H n d g) : DoorAt K H (n + 1) d g := { h with n1 := Nat.le_succ_of_le h.n1, n2 := Nat.le_succ_of_le h.n2, n3 := Nat.le_succ_of_le h.n3 }
/-- what a call on a door leaves -/
structure DFr (H H' : Hp) (d d' : DL) : Prop where
  a : d'.a = d.a
  tab : d'.tab = d.tab
  rem : d'.rem = d.rem ∨ H d'.rem = none
  con : d'.con = d.con ∨ H d'.con = none
  rec_ : d'.rec_ = d.rec_ ∨ H d'.rec_ = none
  fr : ∀ b o, H b = some o → b ≠ d.a → b ≠ d.rem → b ≠ d.con → b ≠ d.rec_ → H' b = some o
theorem DFr.of (x : Ex H H') : DFr H H' d d := ⟨rfl, rfl, .inl rfl, .inl rfl, .inl rfl, fun b o h _ _ _ _ => x b o h⟩
theorem DFr.pre {H0 : Hp} (x : Ex H0 H) (f : DFr H H' d d') : DFr H0 H' d d' := ⟨f.a, f.tab, f.rem.imp_right fun q => Ex.fr x q, f.con.imp_right fun q => Ex.fr x q, f.rec_.imp_right fun q => Ex.fr x q, fun b o h1 => f.fr b o (x _ _ h1)⟩
theorem DFr.post {H2 : Hp} (f : DFr H H' d d') (x : Ex H' H2) : DFr H H2 d d' := ⟨f.a, f.tab, f.rem, f.con, f.rec_, fun b o h1 h2 h3 h4 h5 => x _ _ (f.fr b o h1 h2 h3 h4 h5)⟩
/-- what stays: tuples and knocks -/
theorem DoorAt.tupNe (h : DoorAt K H n d g) {b : Addr} {xs : List V} (q : H b = some (.tup xs)) : b ≠ d.a ∧ b ≠ d.rem ∧ b ≠ d.con ∧ b ≠ d.rec_ := by
  obtain ⟨_, h1, _⟩ := h.rem
  obtain ⟨_, h2, _⟩ := h.con
  obtain ⟨_, h3, _⟩ := h.rec_
  exact ⟨ne_of q h.obj (fun z => nomatch z), ne_of q h1 (fun z => nomatch z), ne_of q h2 (fun z => nomatch z), ne_of q h3 (fun z => nomatch z)⟩
theorem DoorAt.knNe (h : DoorAt K H n d g) {b : Addr} {e : R7293g.Spec.Entry} (q : KnAt K H e b) : b ≠ d.a ∧ b ≠ d.rem ∧ b ≠ d.con ∧ b ≠ d.rec_ := by
  obtain ⟨_, h1, _⟩ := h.rem
  obtain ⟨_, h2, _⟩ := h.con
  obtain ⟨_, h3, _⟩ := h.rec_
  obtain ⟨dx, q⟩ := q
  exact ⟨ne_of q h.obj (fun z => by
    have z := (HO.ins.inj z).2.2
    have z := congrArg List.length z
    exact absurd (show (5 : Nat) = 8 from z) (by decide)), ne_of q h1 (fun z => nomatch z), ne_of q h2 (fun z => nomatch z), ne_of q h3 (fun z => nomatch z)⟩
theorem DFr.knAt (h : DoorAt K H n d g) (f : DFr H H' d d') {b : Addr} {e : R7293g.Spec.Entry} (q : KnAt K H e b) : KnAt K H' e b := by
  obtain ⟨h1, h2, h3, h4⟩ := h.knNe q
  obtain ⟨dx, q⟩ := q
  exact ⟨dx, f.fr _ _ q h1 h2 h3 h4⟩
theorem DFr.tupAt (h : DoorAt K H n d g) (f : DFr H H' d d') {b : Addr} {xs : List V} (q : H b = some (.tup xs)) : H' b = some (.tup xs) := by
  obtain ⟨h1, h2, h3, h4⟩ := h.tupNe q
  exact f.fr _ _ q h1 h2 h3 h4
theorem DFr.tx (h : DoorAt K H n d g) (f : DFr H H' d d') : TX K H H' := fun a xs q => by
  rcases q with (q | ⟨z, q⟩) | q
  · exact .inl (.inl (f.tupAt h q))
  · obtain ⟨_, h1, _⟩ := h.rem
    obtain ⟨_, h2, _⟩ := h.con
    obtain ⟨_, h3, _⟩ := h.rec_
    exact .inl (.inr ⟨z, f.fr _ _ q (ne_of q h.obj (fun z => nomatch z)) (ne_of q h1 (fun z => nomatch z)) (ne_of q h2 (fun z => nomatch z)) (ne_of q h3 (fun z => nomatch z))⟩)
  · exact .inr q
end

/-! ### Knock___init__ -/
abbrev s_Knock___init__ : Stmt := inClass (top 14) 0
theorem sc_Knock___init__ : FnScope ["self", "address", "number", "offer", "period", "answer"] ["self", "address", "number", "offer", "period", "answer"] (defScope s_Knock___init__) := ⟨rfl, rfl, rfl, by decide +kernel, rfl, by decide +kernel, by decide +kernel⟩
def sp_Knock___init__ (K : PySem.W.Frag) : Sp := fun vs H Q _ => vs.length = 6 ∧ ∃ x dx a n o p y, vs = [.ref x, natV a, natV n, natV o, natV p, natV y] ∧ H x = some (.ins (cA K "Knock") dx []) ∧
  ∀ H', (∀ b, b ≠ x → H' b = H b) → H' x = some (.ins (cA K "Knock") dx (fKnock a n o p y)) → Q .non H'
def t_Knock___init__ (K : PySem.W.Frag) : TS :=
  (tSeq (sFld K (tVar 0) (tVar 1) "address")
  (tSeq (sFld K (tVar 0) (tVar 2) "number")
  (tSeq (sFld K (tVar 0) (tVar 3) "offer")
  (tSeq (sFld K (tVar 0) (tVar 4) "period")
  (sFld K (tVar 0) (tVar 5) "answer")))))
section
variable {P : Program} {w : World} {K : PySem.W.Frag} {mg : Str → Option Value} {base : Heap}
theorem pure_Knock___init__ (T : Tx K mg) (vs : List V) (H : Hp) (Q : VK) (E : XK) (h : sp_Knock___init__ K vs H Q E) : t_Knock___init__ K { nx := fun _ H' => Q .non H', rt := Q } (start ["self", "address", "number", "offer", "period", "answer"] vs) H := by
  obtain ⟨_, x, dx, a, n, o, p, y, rfl, hx, q⟩ := h
  unfold t_Knock___init__
  walk_at "ev"
  refine q _ (fun b hb => ?_) upd_same
  repeat rw [upd_ne hb]
/-- a new knock -/
theorem mk_knock {K : PySem.W.Frag} {H : Hp} {Q : Addr → Hp → Prop} {E : XK} {a n o p y : Nat} (q : ∀ x H', H x = none → Ex H H' → KnAt K H' ⟨a, n, o, p, y⟩ x → Q x H') :
    ∀ x dx, H x = none → H dx = none → dx ≠ x → sp_Knock___init__ K (.ref x :: ([natV a, natV n, natV o, natV p, natV y] ++ [])) (upd (upd H dx (.own x)) x (.ins (cA K "Knock") dx [])) (fun v H2 => v = .non ∧ Q x H2) E := fun x dx hx hd _ =>
  ⟨rfl, x, dx, a, n, o, p, y, rfl, upd_same, fun H' h1 h2 => ⟨rfl, q x H' hx (fun b u hb => by
    have b1 : b ≠ x := fun e => by rw [e, hx] at hb; cases hb
    have b2 : b ≠ dx := fun e => by rw [e, hd] at hb; cases hb
    rw [h1 b b1, upd_ne b1, upd_ne b2, hb]) ⟨dx, h2⟩⟩⟩
theorem ok_Knock___init__ (T : Tx K mg) : Cp P w K mg base CX0 "Knock" (cA K "Knock") ["self", "address", "number", "offer", "period", "answer"] 1 (sp_Knock___init__ K) := by
  obtain ⟨fd, F⟩ := T.fn 35 (p := ("Knock", some "__init__")) (n := "__init__") (q := "Knock.__init__") (st := s_Knock___init__)
  refine ⟨⟨_, fd, T.glo 60, T.mkr 62, F.bindsN fun _ _ _ _ _ _ us hl => match us, hl with | [_, _, _, _, _, _], _ => rfl, F.ok sc_Knock___init__ (fun _ _ _ _ h => h.1) fun cdv A outer s H vs Q E hr h => ⟨t_Knock___init__ K, PSs.nox ?_, pure_Knock___init__ T vs H Q E h⟩⟩⟩
  exact (pss_cons (ps_fld (pv 0) (pv 1) rfl)
    (pss_cons (ps_fld (pv 0) (pv 2) rfl)
    (pss_cons (ps_fld (pv 0) (pv 3) rfl)
    (pss_cons (ps_fld (pv 0) (pv 4) rfl)
    (pss_one (ps_fld (pv 0) (pv 5) rfl))))))
end
/-! ### Saying___init__ -/
abbrev s_Saying___init__ : Stmt := inClass (top 15) 0
theorem sc_Saying___init__ : FnScope ["self", "period", "address", "number", "place"] ["self", "period", "address", "number", "place"] (defScope s_Saying___init__) := ⟨rfl, rfl, rfl, by decide +kernel, rfl, by decide +kernel, by decide +kernel⟩
def sp_Saying___init__ (K : PySem.W.Frag) : Sp := fun vs H Q _ => vs.length = 5 ∧ ∃ x dx p a n c, vs = [.ref x, natV p, natV a, natV n, natV c] ∧ H x = some (.ins (cA K "Saying") dx []) ∧
  ∀ H', (∀ b, b ≠ x → H' b = H b) → H' x = some (.ins (cA K "Saying") dx (fSaying p a n c)) → Q .non H'
def t_Saying___init__ (K : PySem.W.Frag) : TS :=
  (tSeq (sFld K (tVar 0) (tVar 1) "period")
  (tSeq (sFld K (tVar 0) (tVar 2) "address")
  (tSeq (sFld K (tVar 0) (tVar 3) "number")
  (sFld K (tVar 0) (tVar 4) "place"))))
section
variable {P : Program} {w : World} {K : PySem.W.Frag} {mg : Str → Option Value} {base : Heap}
theorem pure_Saying___init__ (T : Tx K mg) (vs : List V) (H : Hp) (Q : VK) (E : XK) (h : sp_Saying___init__ K vs H Q E) : t_Saying___init__ K { nx := fun _ H' => Q .non H', rt := Q } (start ["self", "period", "address", "number", "place"] vs) H := by
  obtain ⟨_, x, dx, p, a, n, c, rfl, hx, q⟩ := h
  unfold t_Saying___init__
  walk_at "ev"
  refine q _ (fun b hb => ?_) upd_same
  repeat rw [upd_ne hb]
theorem mk_saying {K : PySem.W.Frag} {H : Hp} {Q : Addr → Hp → Prop} {E : XK} {p a n c : Nat} (q : ∀ x dx H', H x = none → Ex H H' → H' x = some (.ins (cA K "Saying") dx (fSaying p a n c)) → Q x H') :
    ∀ x dx, H x = none → H dx = none → dx ≠ x → sp_Saying___init__ K (.ref x :: ([natV p, natV a, natV n, natV c] ++ [])) (upd (upd H dx (.own x)) x (.ins (cA K "Saying") dx [])) (fun v H2 => v = .non ∧ Q x H2) E := fun x dx hx hd _ =>
  ⟨rfl, x, dx, p, a, n, c, rfl, upd_same, fun H' h1 h2 => ⟨rfl, q x dx H' hx (fun b u hb => by
    have b1 : b ≠ x := fun e => by rw [e, hx] at hb; cases hb
    have b2 : b ≠ dx := fun e => by rw [e, hd] at hb; cases hb
    rw [h1 b b1, upd_ne b1, upd_ne b2, hb]) h2⟩⟩
theorem ok_Saying___init__ (T : Tx K mg) : Cp P w K mg base CX0 "Saying" (cA K "Saying") ["self", "period", "address", "number", "place"] 1 (sp_Saying___init__ K) := by
  obtain ⟨fd, F⟩ := T.fn 37 (p := ("Saying", some "__init__")) (n := "__init__") (q := "Saying.__init__") (st := s_Saying___init__)
  refine ⟨⟨_, fd, T.glo 69, T.mkr 71, F.bindsN fun _ _ _ _ _ _ us hl => match us, hl with | [_, _, _, _, _], _ => rfl, F.ok sc_Saying___init__ (fun _ _ _ _ h => h.1) fun cdv A outer s H vs Q E hr h => ⟨t_Saying___init__ K, PSs.nox ?_, pure_Saying___init__ T vs H Q E h⟩⟩⟩
  exact (pss_cons (ps_fld (pv 0) (pv 1) rfl)
    (pss_cons (ps_fld (pv 0) (pv 2) rfl)
    (pss_cons (ps_fld (pv 0) (pv 3) rfl)
    (pss_one (ps_fld (pv 0) (pv 4) rfl)))))
end
/-! ### Knock_is_by -/
abbrev s_Knock_is_by : Stmt := inClass (top 14) 1
theorem sc_Knock_is_by : FnScope ["self", "address", "number"] ["self", "address", "number"] (defScope s_Knock_is_by) := ⟨rfl, rfl, rfl, by decide +kernel, rfl, by decide +kernel, by decide +kernel⟩
def sp_Knock_is_by (K : PySem.W.Frag) : Sp := fun vs H Q _ => vs.length = 3 ∧ ∃ x e a n, vs = [.ref x, natV a, natV n] ∧ KnAt K H e x ∧ Q (.bl (e.address == a && e.number == n)) H
def t_Knock_is_by (K : PySem.W.Frag) : TS :=
  (tRet (tAndV (tOp rEq (tFld K (tVar 0) "address") (tVar 1)) (tOp rEq (tFld K (tVar 0) "number") (tVar 2))))
section
variable {P : Program} {w : World} {K : PySem.W.Frag} {mg : Str → Option Value} {base : Heap}
theorem pure_Knock_is_by (T : Tx K mg) (vs : List V) (H : Hp) (Q : VK) (E : XK) (h : sp_Knock_is_by K vs H Q E) : t_Knock_is_by K { nx := fun _ H' => Q .non H', rt := Q } (start ["self", "address", "number"] vs) H := by
  obtain ⟨_, x, e, a, n, rfl, ⟨dx, hx⟩, q⟩ := h
  unfold t_Knock_is_by
  walk_at "ev"
  rw [dec_nat]
  refine x_a (fun c => ?_) (fun c => ?_)
  · walk_at "ev"
    rw [dec_nat]
    rw [c, Bool.true_and] at q
    exact q
  · rw [c, Bool.false_and] at q
    exact q
theorem ok_Knock_is_by (T : Tx K mg) : Mp P w K mg base CX0 (cA K "Knock") "is_by" ["self", "address", "number"] 1 (sp_Knock_is_by K) := by
  obtain ⟨fd, F⟩ := T.fn 36 (p := ("Knock", some "is_by")) (n := "is_by") (q := "Knock.is_by") (st := s_Knock_is_by)
  refine ⟨⟨_, fd, T.meth 68, F.bindsN fun _ _ _ _ _ _ us hl => match us, hl with | [_, _, _], _ => rfl, F.ok sc_Knock_is_by (fun _ _ _ _ h => h.1) fun cdv A outer s H vs Q E hr h => ⟨t_Knock_is_by K, PSs.nox ?_, pure_Knock_is_by T vs H Q E h⟩⟩⟩
  exact (pss_one (ps_ret (pe_and (pe_cmpR op_eq (pe_fld (pv 0) rfl) (pv 1) (nomark _)) (pe_one (pe_cmpR op_eq (pe_fld (pv 0) rfl) (pv 2) (nomark _))))))
end
/-! ### Door_key -/
abbrev s_Door_key : Stmt := inClass (top 16) 1
theorem sc_Door_key : FnScope ["self", "period"] ["self", "period"] (defScope s_Door_key) := ⟨rfl, rfl, rfl, by decide +kernel, rfl, by decide +kernel, by decide +kernel⟩
def sp_Door_key (K : PySem.W.Frag) : Sp := fun vs H Q _ => vs.length = 2 ∧ ∃ n d g p, vs = [.ref d.a, natV p] ∧ DoorAt K H n d g ∧ Q (natV (R7293g.Spec.keyOf g.secret p)) H
def t_Door_key (K : PySem.W.Frag) : TS :=
  (tRet (tOp rrAdd (tOp rrAdd (tOp rrMul (tFld K (tVar 0) "secret") (tC (.int 31))) (tOp rrMul (tVar 1) (tC (.int 7919)))) (tC (.int 17))))
section
variable {P : Program} {w : World} {K : PySem.W.Frag} {mg : Str → Option Value} {base : Heap}
theorem pure_Door_key (T : Tx K mg) (vs : List V) (H : Hp) (Q : VK) (E : XK) (h : sp_Door_key K vs H Q E) : t_Door_key K { nx := fun _ H' => Q .non H', rt := Q } (start ["self", "period"] vs) H := by
  obtain ⟨_, n, d, g, p, rfl, hd, q⟩ := h
  have ho := hd.obj
  unfold t_Door_key
  walk_at "ev"
  exact q
theorem ok_Door_key (T : Tx K mg) : Mp P w K mg base CX0 (cA K "Door") "key" ["self", "period"] 1 (sp_Door_key K) := by
  obtain ⟨fd, F⟩ := T.fn 39 (p := ("Door", some "key")) (n := "key") (q := "Door.key") (st := s_Door_key)
  refine ⟨⟨_, fd, T.meth 87, F.bindsN fun _ _ _ _ _ _ us hl => match us, hl with | [_, _], _ => rfl, F.ok sc_Door_key (fun _ _ _ _ h => h.1) fun cdv A outer s H vs Q E hr h => ⟨t_Door_key K, PSs.nox ?_, pure_Door_key T vs H Q E h⟩⟩⟩
  exact (pss_one (ps_ret (pe_op op_add (pe_op op_add (pe_op op_mul (pe_fld (pv 0) rfl) pe_int) (pe_op op_mul (pv 1) pe_int)) pe_int)))
end
/-! ### Door_code -/
abbrev s_Door_code : Stmt := inClass (top 16) 2
theorem sc_Door_code : FnScope ["self", "address", "number", "place", "own"] ["self", "address", "number", "place"] (defScope s_Door_code) := ⟨rfl, rfl, rfl, by decide +kernel, rfl, by decide +kernel, by decide +kernel⟩
def sp_Door_code (K : PySem.W.Frag) : Sp := fun vs H Q _ => vs.length = 4 ∧ ∃ m d g a n c, vs = [.ref d.a, natV a, natV n, natV c] ∧ DoorAt K H m d g ∧ Q (natV (R7293g.Spec.codeOf g.secret g.period a n c)) H
def t_Door_code (K : PySem.W.Frag) : TS :=
  (tSeq (tAsg (tCall (sp_hidden K) [] E0 (tCons (tMeth (cA K "Door") "key" (sp_Door_key K) [] E0 (tVar 0) (tCons (tFld K (tVar 0) "period") tNil)) (tCons (tOp rrAdd (tOp rrMul (tOp rrAdd (tOp rrMul (tVar 1) (tC (.int 4096))) (tVar 2)) (tC (.int 8))) (tVar 3)) tNil))) (gName 4))
  (tRet (tOp rrMul (tOp rrAdd (tOp rrMul (tFld K (tVar 0) "period") (tC (.int 268435456))) (tVar 4)) (tC (.int 2)))))
section
variable {P : Program} {w : World} {K : PySem.W.Frag} {mg : Str → Option Value} {base : Heap}
theorem pure_Door_code (T : Tx K mg) (vs : List V) (H : Hp) (Q : VK) (E : XK) (h : sp_Door_code K vs H Q E) : t_Door_code K { nx := fun _ H' => Q .non H', rt := Q } (start ["self", "address", "number", "place", "own"] vs) H := by
  obtain ⟨_, m, d, g, a, n, c, rfl, hd, q⟩ := h
  have ho := hd.obj
  unfold t_Door_code
  walk_at "ev"
  refine s_xm ho rfl ?_
  walk_at "ev"
  refine ⟨rfl, m, d, g, g.period, rfl, hd, ?_⟩
  walk_at "ev"
  refine ⟨rfl, R7293g.Spec.keyOf g.secret g.period, R7293g.Spec.blockOf a n c, rfl, ?_⟩
  walk_at "ev"
  exact q
theorem ok_Door_code (T : Tx K mg) : Mp P w K mg base CX0 (cA K "Door") "code" ["self", "address", "number", "place"] 4 (sp_Door_code K) := by
  obtain ⟨fd, F⟩ := T.fn 40 (p := ("Door", some "code")) (n := "code") (q := "Door.code") (st := s_Door_code)
  refine ⟨⟨_, fd, T.meth 88, F.bindsN fun _ _ _ _ _ _ us hl => match us, hl with | [_, _, _, _], _ => rfl, F.ok sc_Door_code (fun _ _ _ _ h => h.1) fun cdv A outer s H vs Q E hr h => ⟨t_Door_code K, PSs.nox ?_, pure_Door_code T vs H Q E h⟩⟩⟩
  exact (pss_cons (ps_set (i := 4) sc_Door_code.nd rfl (Or.inl rfl) (pe_pk (ok_hidden T) (hr.mono (by decide)) pass0 (pa_cons (pe_mp (pv 0) (T.cls 77) (ok_Door_key T) (hr.mono (by decide)) pass0 (pa_cons (pe_fld (pv 0) rfl) pa_nil)) (pa_cons (pe_op op_add (pe_op op_mul (pe_op op_add (pe_op op_mul (pv 1) (pe_gi (T.int 52))) (pv 2)) (pe_gi (T.int 53))) (pv 3)) pa_nil))))
    (pss_one (ps_ret (pe_op op_mul (pe_op op_add (pe_op op_mul (pe_fld (pv 0) rfl) (pe_gi (T.int 50))) (pv 4)) pe_int))))
end
/-! ### Door_ticket -/
abbrev s_Door_ticket : Stmt := inClass (top 16) 3
theorem sc_Door_ticket : FnScope ["self", "own"] ["self"] (defScope s_Door_ticket) := ⟨rfl, rfl, rfl, by decide +kernel, rfl, by decide +kernel, by decide +kernel⟩
def sp_Door_ticket (K : PySem.W.Frag) : Sp := fun vs H Q _ => vs.length = 1 ∧ ∃ m d g, vs = [.ref d.a] ∧ DoorAt K H m d g ∧
  Q (natV (R7293g.Spec.ticketOf g.secret g.period g.serial)) (upd H d.a (.ins (cA K "Door") d.dx (fDoor g.capacity g.secret d.tab g.period d.rem d.con d.rec_ (g.serial + 1))))
def t_Door_ticket (K : PySem.W.Frag) : TS :=
  (tSeq (tAsg (tCall (sp_mix K) [] E0 (tCons (tMeth (cA K "Door") "key" (sp_Door_key K) [] E0 (tVar 0) (tCons (tFld K (tVar 0) "period") tNil)) (tCons (tC (.int 7)) (tCons (tOp rrMod (tFld K (tVar 0) "tickets") (tC (.int 16384))) tNil)))) (gName 1))
  (tSeq (sFldAug K (tVar 0) (tC (.int 1)) rAdd "tickets")
  (tRet (tOp rrAdd (tOp rrMul (tOp rrAdd (tOp rrMul (tOp rrSub (tFld K (tVar 0) "tickets") (tC (.int 1))) (tC (.int 16384))) (tVar 1)) (tC (.int 2))) (tC (.int 1))))))
section
variable {P : Program} {w : World} {K : PySem.W.Frag} {mg : Str → Option Value} {base : Heap}
theorem pure_Door_ticket (T : Tx K mg) (vs : List V) (H : Hp) (Q : VK) (E : XK) (h : sp_Door_ticket K vs H Q E) : t_Door_ticket K { nx := fun _ H' => Q .non H', rt := Q } (start ["self", "own"] vs) H := by
  obtain ⟨_, m, d, g, rfl, hd, q⟩ := h
  have ho := hd.obj
  unfold t_Door_ticket
  walk_at "ev"
  refine s_xm ho rfl ?_
  walk_at "ev"
  refine ⟨rfl, m, d, g, g.period, rfl, hd, ?_⟩
  walk_at "ev"
  refine ⟨rfl, R7293g.Spec.keyOf g.secret g.period, 7, g.serial % 16384, rfl, by decide, ?_⟩
  walk_at "ev"
  refine s_fa ho (Tx.clsK T (by decide +kernel)) (Tx.noatK T (by decide +kernel)) rfl ?_
  walk_at "ev"
  refine s_xfa ho (lt_ble rfl) rfl ?_
  walk_at "ev"
  have e : ((g.serial : Int) + 1 - 1) = (g.serial : Int) := by omega
  rw [e]
  exact q
theorem ok_Door_ticket (T : Tx K mg) : Mp P w K mg base CX0 (cA K "Door") "ticket" ["self"] 3 (sp_Door_ticket K) := by
  obtain ⟨fd, F⟩ := T.fn 41 (p := ("Door", some "ticket")) (n := "ticket") (q := "Door.ticket") (st := s_Door_ticket)
  refine ⟨⟨_, fd, T.meth 89, F.bindsN fun _ _ _ _ _ _ us hl => match us, hl with | [_], _ => rfl, F.ok sc_Door_ticket (fun _ _ _ _ h => h.1) fun cdv A outer s H vs Q E hr h => ⟨t_Door_ticket K, PSs.nox ?_, pure_Door_ticket T vs H Q E h⟩⟩⟩
  exact (pss_cons (ps_set (i := 1) sc_Door_ticket.nd rfl (Or.inl rfl) (pe_pk (ok_mix T) (hr.mono (by decide)) pass0 (pa_cons (pe_mp (pv 0) (T.cls 77) (ok_Door_key T) (hr.mono (by decide)) pass0 (pa_cons (pe_fld (pv 0) rfl) pa_nil)) (pa_cons (pe_gi (T.int 54)) (pa_cons (pe_op op_mod (pe_fld (pv 0) rfl) (pe_gi (T.int 49))) pa_nil)))))
    (pss_cons (ps_fldaug (pv 0) pe_int in_add)
    (pss_one (ps_ret (pe_op op_add (pe_op op_mul (pe_op op_add (pe_op op_mul (pe_op op_sub (pe_fld (pv 0) rfl) pe_int) (pe_gi (T.int 49))) (pv 1)) pe_int) pe_int)))))
end
end Dk
namespace Dk
open PySem PySem.Spec PyProof.Rows L2 Evl RZ
local macro_rules | `(tactic| walk_at "hp") => `(tactic| first | assumption | exact L2.upd_same | (apply Dk.Ex.at (by assumption); walk_at "hp"))
local macro_rules | `(tactic| walk_at "hq") => `(tactic| first | assumption | (apply Evl.sq_of; walk_at "hp") | (apply Evl.st_of; walk_at "hp") | (apply Evl.ex_l (by assumption); walk_at "hq") | (apply Evl.ex_t (by assumption); walk_at "hq"))
local macro_rules | `(tactic| walk_at "ex") => `(tactic| first | exact Evl.Ex.refl _ | assumption | (refine Evl.Ex.trans ?_ (by assumption); walk_at "ex"))
local macro_rules | `(tactic| walk_at "e1") => `(tactic| first
  | (with_reducible refine if_t ?_) | (with_reducible refine if_f ?_) | (with_reducible refine s_seq ?_) | (with_reducible refine s_asg ?_) | (with_reducible refine s_name ?_) | (with_reducible refine s_drop ?_) | (with_reducible refine s_ret ?_) | (with_reducible refine s_nil ?_) | (with_reducible refine s_cons ?_)
  | (with_reducible refine s_c ?_)
  | ((with_reducible refine' s_var ?h1 ?_); (case h1 => rfl))
  | (with_reducible refine s_op ?_) | (with_reducible refine s_call ?_) | (with_reducible refine s_cb ?_) | (with_reducible refine s_fld ?_) | (with_reducible refine s_tup ?_) | (with_reducible refine s_lst ?_) | (with_reducible refine s_meth ?_) | (with_reducible refine s_test ?_) | (with_reducible refine s_B ?_)
  | (with_reducible refine s_not ?_) | (with_reducible refine s_xb ?_) | (with_reducible refine s_if ?_) | (with_reducible refine s_ifS ?_) | (with_reducible refine s_next ?_) | (with_reducible refine s_sfld ?_)
  | (with_reducible refine s_I0 ?_) | ((with_reducible refine' s_I ?h1 ?_); (case h1 => first | exact ⟨by decide, by decide⟩ | exact .inr ⟨by decide, by decide⟩ | (show (0 : Int) < _; decide) | (show (0 : Int) ≤ _; first | decide | omega) | exact ⟨by omega, by omega⟩))
  | ((with_reducible refine' s_xf ?h1 ?h2 ?h3 ?h4 ?_); (case h1 => walk_at "hp"); (case h2 => exact Tx.clsK (by assumption) (by decide +kernel)); (case h3 => exact Tx.noatK (by assumption) (by decide +kernel)); (case h4 => rfl))
  | ((with_reducible refine' s_xs ?h1 ?h2 ?h3 ?h4 ?h5 ?_); (case h1 => walk_at "hp"); (case h2 => exact Tx.clsK (by assumption) (by decide +kernel)); (case h3 => exact Tx.noatK (by assumption) (by decide +kernel)); (case h4 => exact Dk.lt_ble rfl); (case h5 => rfl))
  | ((with_reducible refine' s_eq ?h1 ?_); (case h1 => rfl)) | ((with_reducible refine' s_ne ?h1 ?_); (case h1 => rfl)) | (with_reducible refine s_isN ?_)
  | ((with_reducible refine' s_xt ?h1 ?_); (case h1 => exact Nat.le_of_ble_eq_true rfl); intro _ _ _ _ _)
  | ((with_reducible refine' s_xl ?h1 ?_); (case h1 => exact Nat.le_of_ble_eq_true rfl); intro _ _ _ _ _)
  | ((with_reducible refine' s_lenL ?h1 ?_); (case h1 => walk_at "hq")) | ((with_reducible refine' s_lenT ?h1 ?_); (case h1 => walk_at "hq"))
  | ((with_reducible refine' s_ixL ?h1 ?h2 ?_); (case h1 => walk_at "hq"); (case h2 => first | assumption | exact atI_0 | exact atI_1 | rfl))
  | ((with_reducible refine' s_ixT ?h1 ?h2 ?_); (case h1 => walk_at "hq"); (case h2 => first | assumption | exact atI_0 | exact atI_1 | rfl))
  | (with_reducible refine s_or ?_) | (with_reducible refine s_and ?_)
  | ((with_reducible refine' s_nin ?h1 ?h2 ?h3 ?_); (case h1 => walk_at "hq"); (case h2 => rfl); (case h3 => rfl))
  | (with_reducible refine s_tru ?_)
  | (with_reducible refine s_ip ?_) | (with_reducible refine s_for1 ?_) | (with_reducible refine s_for2 ?_) | (with_reducible refine s_for3 ?_) | (with_reducible refine s_forL ?_) | (with_reducible refine s_forT ?_) | (with_reducible refine s_lcL ?_) | (with_reducible refine s_lcT ?_) | (with_reducible refine s_lcS ?_) | (with_reducible refine s_lcE ?_) | (with_reducible refine s_lcZ ?_) | (with_reducible refine s_lcZA ?_) | (with_reducible refine s_lcR ?_) | (with_reducible refine s_chain ?_) | (with_reducible refine s_av ?_) | (with_reducible refine s_ov ?_) | (with_reducible refine s_yes ?_) | (with_reducible refine s_tbm ?_) | (with_reducible refine s_ord ?_) | (with_reducible refine s_raise ?_) | (with_reducible refine s_fldaug ?_) | (with_reducible refine s_add ?_) | (with_reducible refine s_slc ?_) | (with_reducible refine s_part ?_) | (with_reducible refine x_p1 ?_) | (with_reducible refine s_nopart ?_)
  | ((with_reducible refine' x_bm ?h1 ?_); (case h1 => walk_at "hq")) | (with_reducible refine s_par1 ?_) | (with_reducible refine s_un ?_) | (with_reducible refine s_uI ?_))
local macro_rules | `(tactic| walk_at "ev") => `(tactic| repeat walk_at "e1")
/-! ### Door_read -/
abbrev s_Door_read : Stmt := inClass (top 16) 4
theorem sc_Door_read : FnScope ["self", "answer", "period", "own"] ["self", "answer"] (defScope s_Door_read) := ⟨rfl, rfl, rfl, by decide +kernel, rfl, by decide +kernel, by decide +kernel⟩
theorem say_in {y p : Nat} : inV (natV y) [natV p, .int ((p : Int) - 1)] = decide (y = p ∨ y + 1 = p) := by
  show (decide ((p : Int) = (y : Int)) || (decide ((p : Int) - 1 = (y : Int)) || false)) = _
  rw [Bool.eq_iff_iff]
  simp
  omega
def sp_Door_read (K : PySem.W.Frag) : Sp := fun vs H Q _ => vs.length = 2 ∧ ∃ m d g y, vs = [.ref d.a, natV y] ∧ DoorAt K H m d g ∧ (R7293g.Spec.readCode g.secret g.period y = none → ∀ H', Ex H H' → Q .non H') ∧
  (∀ s, R7293g.Spec.readCode g.secret g.period y = some s → ∀ x dx H', H x = none → Ex H H' → H' x = some (.ins (cA K "Saying") dx (fSaying s.period s.address s.number s.cls)) → Q (.ref x) H')
def t_Door_read (K : PySem.W.Frag) : TS :=
  (tSeq (tAsg (tOp rrDiv (tOp rrDiv (tVar 1) (tC (.int 2))) (tC (.int 268435456))) (gName 2))
  (tSeq (tIfS (tOr (tTest (tOp rEq (tOp rrMod (tVar 1) (tC (.int 2))) (tC (.int 1)))) (tTest (tOp (rIn K true) (tVar 2) (tTup (tCons (tFld K (tVar 0) "period") (tCons (tOp rrSub (tFld K (tVar 0) "period") (tC (.int 1))) tNil)))))) (tRet (tC .non)) tNext)
  (tSeq (tAsg (tCall (sp_shown K) [] E0 (tCons (tMeth (cA K "Door") "key" (sp_Door_key K) [] E0 (tVar 0) (tCons (tVar 2) tNil)) (tCons (tOp rrMod (tOp rrDiv (tVar 1) (tC (.int 2))) (tC (.int 268435456))) tNil))) (gName 3))
  (tRet (tMake (cA K "Saying") (sp_Saying___init__ K) [] E0 (tCons (tVar 2) (tCons (tOp rrDiv (tOp rrDiv (tVar 3) (tC (.int 8))) (tC (.int 4096))) (tCons (tOp rrMod (tOp rrDiv (tVar 3) (tC (.int 8))) (tC (.int 4096))) (tCons (tOp rrMod (tVar 3) (tC (.int 8))) tNil)))))))))
section
variable {P : Program} {w : World} {K : PySem.W.Frag} {mg : Str → Option Value} {base : Heap}
theorem pure_Door_read (T : Tx K mg) (vs : List V) (H : Hp) (Q : VK) (E : XK) (h : sp_Door_read K vs H Q E) : t_Door_read K { nx := fun _ H' => Q .non H', rt := Q } (start ["self", "answer", "period", "own"] vs) H := by
  obtain ⟨_, m, d, g, y, rfl, hd, q1, q2⟩ := h
  have ho := hd.obj
  unfold t_Door_read
  walk_at "ev"
  have e1 : decide (V.int ((y : Int) % 2) = V.int 1) = decide (y % 2 = 1) := by
    rw [Bool.eq_iff_iff]
    simp
    omega
  rw [e1]
  refine ite_b (fun c => ?_) (fun c => ?_)
  · walk_at "ev"
    refine q1 ?_ H (Ex.refl H)
    unfold R7293g.Spec.readCode
    rw [if_neg]
    intro z
    have := of_decide_eq_true c
    omega
  · have c := of_decide_eq_false c
    walk_at "ev"
    rename_i t H1 ht x1 h1
    have e2 : inV (V.int ((y : Int) / 2 / 268435456)) [natV g.period, V.int ((g.period : Int) - 1)] = decide (y / 2 / 268435456 = g.period ∨ y / 2 / 268435456 + 1 = g.period) := say_in (y := y / 2 / 268435456)
    rw [e2]
    refine ite_b (fun z => ?_) (fun z => ?_)
    · have z : ¬ (y / 2 / 268435456 = g.period ∨ y / 2 / 268435456 + 1 = g.period) := of_decide_eq_false (by rw [Bool.not_eq_true'] at z; exact z)
      walk_at "ev"
      refine q1 ?_ H1 x1
      unfold R7293g.Spec.readCode
      rw [if_neg]
      intro w
      exact z w.2
    · have z : (y / 2 / 268435456 = g.period ∨ y / 2 / 268435456 + 1 = g.period) := of_decide_eq_true (by rw [Bool.not_eq_false'] at z; exact z)
      walk_at "ev"
      refine s_xm (x1 _ _ ho) rfl ?_
      walk_at "ev"
      refine ⟨rfl, m, d, g, y / 2 / 268435456, rfl, hd.ex x1, ?_⟩
      walk_at "ev"
      refine ⟨rfl, R7293g.Spec.keyOf g.secret (y / 2 / 268435456), y / 2 % 268435456, rfl, ?_⟩
      walk_at "ev"
      have hr : R7293g.Spec.readCode g.secret g.period y = some ⟨y / 2 / 268435456, R7293g.Spec.blockIn g.secret y / 8 / 4096, R7293g.Spec.blockIn g.secret y / 8 % 4096, R7293g.Spec.blockIn g.secret y % 8⟩ := by
        unfold R7293g.Spec.readCode
        rw [if_pos]
        · rfl
        · exact ⟨by omega, z⟩
      refine s_make ?_
      walk_at "ev"
      exact mk_saying (p := y / 2 / 268435456) (a := R7293g.Spec.blockIn g.secret y / 8 / 4096) (n := R7293g.Spec.blockIn g.secret y / 8 % 4096) (c := R7293g.Spec.blockIn g.secret y % 8) fun x dx H2 hx x2 h2 => q2 _ hr x dx H2 (Ex.fr x1 hx) (Ex.trans x1 x2) h2
theorem ok_Door_read (T : Tx K mg) : Mp P w K mg base CX0 (cA K "Door") "read" ["self", "answer"] 4 (sp_Door_read K) := by
  obtain ⟨fd, F⟩ := T.fn 42 (p := ("Door", some "read")) (n := "read") (q := "Door.read") (st := s_Door_read)
  refine ⟨⟨_, fd, T.meth 90, F.bindsN fun _ _ _ _ _ _ us hl => match us, hl with | [_, _], _ => rfl, F.ok sc_Door_read (fun _ _ _ _ h => h.1) fun cdv A outer s H vs Q E hr h => ⟨t_Door_read K, PSs.nox ?_, pure_Door_read T vs H Q E h⟩⟩⟩
  exact (pss_cons (ps_set (i := 2) sc_Door_read.nd rfl (Or.inl rfl) (pe_op op_fdiv (pe_op op_fdiv (pv 1) pe_int) (pe_gi (T.int 50))))
    (pss_cons (ps_if (PW.pt (pw_or (pt_cmpR op_eq (pe_op op_mod (pv 1) pe_int) pe_int (nomark _)) (pw_or1 (pt_cmpR op_notIn_seq (pv 2) (pe_tup (pa_cons (pe_fld (pv 0) rfl) (pa_cons (pe_op op_sub (pe_fld (pv 0) rfl) pe_int) pa_nil))) (by rfl))))) (pss_one (ps_ret pe_non)) pss_nil)
    (pss_cons (ps_set (i := 3) sc_Door_read.nd rfl (Or.inl rfl) (pe_pk (ok_shown T) (hr.mono (by decide)) pass0 (pa_cons (pe_mp (pv 0) (T.cls 77) (ok_Door_key T) (hr.mono (by decide)) pass0 (pa_cons (pv 2) pa_nil)) (pa_cons (pe_op op_mod (pe_op op_fdiv (pv 1) pe_int) (pe_gi (T.int 50))) pa_nil))))
    (pss_one (ps_ret (pe_cp (ok_Saying___init__ T) (hr.mono (by decide)) pass0 (pa_cons (pv 2) (pa_cons (pe_op op_fdiv (pe_op op_fdiv (pv 3) (pe_gi (T.int 53))) (pe_gi (T.int 52))) (pa_cons (pe_op op_mod (pe_op op_fdiv (pv 3) (pe_gi (T.int 53))) (pe_gi (T.int 52))) (pa_cons (pe_op op_mod (pv 3) (pe_gi (T.int 53))) pa_nil))))))))))
end
/-! ### Door_is_connected -/
abbrev s_Door_is_connected : Stmt := inClass (top 16) 5
theorem sc_Door_is_connected : FnScope ["self", "address", "own"] ["self", "address"] (defScope s_Door_is_connected) := ⟨rfl, rfl, rfl, by decide +kernel, rfl, by decide +kernel, by decide +kernel⟩
def sp_Door_is_connected (K : PySem.W.Frag) : Sp := fun vs H Q _ => vs.length = 2 ∧ ∃ m d g a, vs = [.ref d.a, natV a] ∧ DoorAt K H m d g ∧ m ≤ 1000 ∧ ∀ H', Ex H H' → Q (.bl (g.isOpen a)) H'
def t_Door_is_connected (K : PySem.W.Frag) : TS :=
  (tRet (tCB (rAny K) (tCons (tLc (iList K (tFld K (tVar 0) "connections")) (gName 2) tYes (tOp rEq (tOp (rIxT K) (tVar 2) (tC (.int 0))) (tVar 1)) [2]) tNil)))
section
variable {P : Program} {w : World} {K : PySem.W.Frag} {mg : Str → Option Value} {base : Heap}
theorem pure_Door_is_connected (T : Tx K mg) (vs : List V) (H : Hp) (Q : VK) (E : XK) (h : sp_Door_is_connected K vs H Q E) : t_Door_is_connected K { nx := fun _ H' => Q .non H', rt := Q } (start ["self", "address", "own"] vs) H := by
  obtain ⟨_, m, d, g, a, rfl, hd, hm, q⟩ := h
  have ho := hd.obj
  have hn := hd.n2
  obtain ⟨cs, hc, hl⟩ := hd.con
  unfold t_Door_is_connected
  walk_at "ev"
  refine ⟨d.con, rfl, ⟨_, sq_of hc⟩, lc_all (K := K) g.conns walk_list (by rw [List.length_map, hl.len]) (by rw [List.length_map, ← hl.len]; omega) (fun _ => true) (fun c y _ => y = .bl (c.address == a)) (fun H1 e => ex_l e (sq_of hc)) (fun _ _ _ _ h _ => h) (fun i c x H1 H2 k1 k2 hi e hy f1 f2 => ?_) (fun D H1 acc hD e hx ha => ?_)⟩
  · obtain ⟨rfl, hx⟩ := hy
    obtain ⟨b, hb, rfl⟩ := map_get hx
    obtain ⟨c', hc', pc⟩ := hl.get hb
    rw [hi] at hc'
    cases hc'
    have pc := e _ _ pc
    refine ⟨rfl, ?_⟩
    walk_at "ev"
    rw [dec_nat]
    exact f1 rfl _ _ (Ex.refl _) rfl
  · rw [fil_yes] at ha
    rw [all2_bl ha] at hx
    walk_at "ev"
    refine s_any (sq_of hx) ?_
    rw [any_map]
    exact q H1 e
theorem ok_Door_is_connected (T : Tx K mg) : Mp P w K mg base CX0 (cA K "Door") "is_connected" ["self", "address"] 1 (sp_Door_is_connected K) := by
  obtain ⟨fd, F⟩ := T.fn 43 (p := ("Door", some "is_connected")) (n := "is_connected") (q := "Door.is_connected") (st := s_Door_is_connected)
  refine ⟨⟨_, fd, T.meth 91, F.bindsN fun _ _ _ _ _ _ us hl => match us, hl with | [_, _], _ => rfl, F.ok sc_Door_is_connected (fun _ _ _ _ h => h.1) fun cdv A outer s H vs Q E hr h => ⟨t_Door_is_connected K, PSs.nox ?_, pure_Door_is_connected T vs H Q E h⟩⟩⟩
  exact (pss_one (ps_ret (pe_callB (cr_any rfl) (by rfl) (T.free 38) (by decide +kernel) (pa_cons (pe_lc (own := [("own", 2)]) (g := (gName 2)) (tt := tYes) rfl sc_Door_is_connected.nd (pi_list (pe_fld (pv 0) rfl)) (blkOk_by (own := [("own", 2)]) (N := ["self", "address", "own"]) (sc := defScope s_Door_is_connected) (by decide +kernel)) (fun _ _ _ _ _ => (pg_name (i := 2) sc_Door_is_connected.nd rfl (Or.inl rfl))) (fun _ _ _ _ _ => pts_nil) (fun _ _ _ _ _ => (pe_cmpR op_eq (pe_ix ix_tup (pv 2) pe_int (fun _ _ => rfl)) (pv 1) (nomark _)))) pa_nil))))
end
/-! ### Door_has_record -/
abbrev s_Door_has_record : Stmt := inClass (top 16) 6
theorem sc_Door_has_record : FnScope ["self", "address", "number", "own"] ["self", "address", "number"] (defScope s_Door_has_record) := ⟨rfl, rfl, rfl, by decide +kernel, rfl, by decide +kernel, by decide +kernel⟩
def sp_Door_has_record (K : PySem.W.Frag) : Sp := fun vs H Q _ => vs.length = 3 ∧ ∃ m d g a n, vs = [.ref d.a, natV a, natV n] ∧ DoorAt K H m d g ∧ m ≤ 1000 ∧ ∀ H', Ex H H' → Q (.bl (g.isUsed a n)) H'
def t_Door_has_record (K : PySem.W.Frag) : TS :=
  (tRet (tCB (rAny K) (tCons (tLc (iList K (tFld K (tVar 0) "records")) (gName 3) tYes (tAndV (tOp rEq (tOp (rIxT K) (tVar 3) (tC (.int 0))) (tVar 1)) (tOp rEq (tOp (rIxT K) (tVar 3) (tC (.int 1))) (tVar 2))) [3]) tNil)))
section
variable {P : Program} {w : World} {K : PySem.W.Frag} {mg : Str → Option Value} {base : Heap}
theorem pure_Door_has_record (T : Tx K mg) (vs : List V) (H : Hp) (Q : VK) (E : XK) (h : sp_Door_has_record K vs H Q E) : t_Door_has_record K { nx := fun _ H' => Q .non H', rt := Q } (start ["self", "address", "number", "own"] vs) H := by
  obtain ⟨_, m, d, g, a, n, rfl, hd, hm, q⟩ := h
  have ho := hd.obj
  have hn := hd.n3
  obtain ⟨cs, hc, hl⟩ := hd.rec_
  unfold t_Door_has_record
  walk_at "ev"
  refine ⟨d.rec_, rfl, ⟨_, sq_of hc⟩, lc_all (K := K) g.records walk_list (by rw [List.length_map, hl.len]) (by rw [List.length_map, ← hl.len]; omega) (fun _ => true) (fun c y _ => y = .bl (c.address == a && c.number == n)) (fun H1 e => ex_l e (sq_of hc)) (fun _ _ _ _ h _ => h) (fun i c x H1 H2 k1 k2 hi e hy f1 f2 => ?_) (fun D H1 acc hD e hx ha => ?_)⟩
  · obtain ⟨rfl, hx⟩ := hy
    obtain ⟨b, hb, rfl⟩ := map_get hx
    obtain ⟨c', hc', pc⟩ := hl.get hb
    rw [hi] at hc'
    cases hc'
    have pc := e _ _ pc
    refine ⟨rfl, ?_⟩
    walk_at "ev"
    rw [dec_nat]
    refine x_a (fun z => ?_) (fun z => ?_)
    · walk_at "ev"
      rw [dec_nat]
      exact f1 rfl _ _ (Ex.refl _) (by rw [z, Bool.true_and])
    · exact f1 rfl _ _ (Ex.refl _) (by rw [z, Bool.false_and])
  · rw [fil_yes] at ha
    rw [all2_bl ha] at hx
    walk_at "ev"
    refine s_any (sq_of hx) ?_
    rw [any_map]
    exact q H1 e
theorem ok_Door_has_record (T : Tx K mg) : Mp P w K mg base CX0 (cA K "Door") "has_record" ["self", "address", "number"] 1 (sp_Door_has_record K) := by
  obtain ⟨fd, F⟩ := T.fn 44 (p := ("Door", some "has_record")) (n := "has_record") (q := "Door.has_record") (st := s_Door_has_record)
  refine ⟨⟨_, fd, T.meth 92, F.bindsN fun _ _ _ _ _ _ us hl => match us, hl with | [_, _, _], _ => rfl, F.ok sc_Door_has_record (fun _ _ _ _ h => h.1) fun cdv A outer s H vs Q E hr h => ⟨t_Door_has_record K, PSs.nox ?_, pure_Door_has_record T vs H Q E h⟩⟩⟩
  exact (pss_one (ps_ret (pe_callB (cr_any rfl) (by rfl) (T.free 38) (by decide +kernel) (pa_cons (pe_lc (own := [("own", 3)]) (g := (gName 3)) (tt := tYes) rfl sc_Door_has_record.nd (pi_list (pe_fld (pv 0) rfl)) (blkOk_by (own := [("own", 3)]) (N := ["self", "address", "number", "own"]) (sc := defScope s_Door_has_record) (by decide +kernel)) (fun _ _ _ _ _ => (pg_name (i := 3) sc_Door_has_record.nd rfl (Or.inl rfl))) (fun _ _ _ _ _ => pts_nil) (fun _ _ _ _ _ => (pe_and (pe_cmpR op_eq (pe_ix ix_tup (pv 3) pe_int (fun _ _ => rfl)) (pv 1) (nomark _)) (pe_one (pe_cmpR op_eq (pe_ix ix_tup (pv 3) pe_int (fun _ _ => rfl)) (pv 2) (nomark _)))))) pa_nil))))
end
/-! ### Door_offer_of -/
abbrev s_Door_offer_of : Stmt := inClass (top 16) 8
theorem sc_Door_offer_of : FnScope ["self", "address", "number", "answer", "own", "found"] ["self", "address", "number", "answer"] (defScope s_Door_offer_of) := ⟨rfl, rfl, rfl, by decide +kernel, rfl, by decide +kernel, by decide +kernel⟩
def sp_Door_offer_of (K : PySem.W.Frag) : Sp := fun vs H Q _ => vs.length = 4 ∧ ∃ m d g a n y, vs = [.ref d.a, natV a, natV n, natV y] ∧ DoorAt K H m d g ∧ m ≤ 1000 ∧ ∀ H', Ex H H' → Q (optV (g.offerOf a n y)) H'
def t_Door_offer_of (K : PySem.W.Frag) : TS :=
  (tSeq (tIfS (tTest (tOp rEq (tOp rrMod (tVar 3) (tC (.int 2))) (tC (.int 1)))) (tSeq (tAsg (tLc (iList K (tFld K (tVar 0) "remembered")) (gName 4) (tAnd (tB (tMeth (cA K "Knock") "is_by" (sp_Knock_is_by K) [] E0 (tVar 4) (tCons (tVar 1) (tCons (tVar 2) tNil)))) (tTest (tOp rEq (tFld K (tVar 4) "answer") (tVar 3)))) (tFld K (tVar 4) "offer") [4]) (gName 5))
  (tRet (tIf (tTru K (tVar 5)) (tOp (rIxL K) (tVar 5) (tC (.int 0))) (tC .non)))) tNext)
  (tSeq (tAsg (tMeth (cA K "Door") "read" (sp_Door_read K) [] E0 (tVar 0) (tCons (tVar 3) tNil)) (gName 4))
  (tSeq (tIfS (tOr (tTest (tOp rIsN (tVar 4) (tC .non))) (tOr (tTest (tOp rNe (tFld K (tVar 4) "address") (tVar 1))) (tOr (tTest (tOp rNe (tFld K (tVar 4) "number") (tVar 2))) (tTest (tOp rrGe (tFld K (tVar 4) "place") (tCB (rLenS K) (tCons (tFld K (tVar 0) "table") tNil))))))) (tRet (tC .non)) tNext)
  (tRet (tOp (rIxL K) (tFld K (tVar 0) "table") (tFld K (tVar 4) "place"))))))
section
variable {P : Program} {w : World} {K : PySem.W.Frag} {mg : Str → Option Value} {base : Heap}
theorem pure_Door_offer_of (T : Tx K mg) (vs : List V) (H : Hp) (Q : VK) (E : XK) (h : sp_Door_offer_of K vs H Q E) : t_Door_offer_of K { nx := fun _ H' => Q .non H', rt := Q } (start ["self", "address", "number", "answer", "own", "found"] vs) H := by
  obtain ⟨_, m, d, g, a, n, y, rfl, hd, hm, q⟩ := h
  have ho := hd.obj
  have hn := hd.n1
  obtain ⟨es, hc, hl⟩ := hd.rem
  unfold t_Door_offer_of
  walk_at "ev"
  have e1 : decide (V.int ((y : Int) % 2) = V.int 1) = decide (y % 2 = 1) := by
    rw [Bool.eq_iff_iff]
    simp
    omega
  rw [e1]
  refine ite_b (fun c => ?_) (fun c => ?_)
  · have c := of_decide_eq_true c
    have hq : g.offerOf a n y = (g.entries.find? fun e => e.address == a && e.number == n && e.answer == y).map (·.offer) := by
      unfold R7293g.Spec.Gate.offerOf
      rw [if_pos c]
    walk_at "ev"
    refine ⟨d.rem, rfl, ⟨_, sq_of hc⟩, lc_all (K := K) g.entries walk_list (by rw [List.length_map, hl.len]) (by rw [List.length_map, ← hl.len]; omega) (fun e => e.address == a && e.number == n && e.answer == y) (fun c y _ => y = natV c.offer) (fun H1 e => ex_l e (sq_of hc)) (fun _ _ _ _ h _ => h) (fun i c x H1 H2 k1 k2 hi e hy f1 f2 => ?_) (fun D H1 acc hD e hx ha => ?_)⟩
    · obtain ⟨rfl, hx⟩ := hy
      obtain ⟨b, hb, rfl⟩ := map_get hx
      obtain ⟨c', hc', pc⟩ := hl.get hb
      rw [hi] at hc'
      cases hc'
      have pc := pc.ex e
      obtain ⟨kx, hk⟩ := id pc
      refine ⟨rfl, ?_⟩
      walk_at "ev"
      refine s_xm hk rfl ?_
      walk_at "ev"
      refine ⟨rfl, b, c, a, n, rfl, pc, ?_⟩
      walk_at "ev"
      refine ite_b (fun z => ?_) (fun z => ?_)
      · walk_at "ev"
        rw [dec_nat]
        refine ite_b (fun z2 => ?_) (fun z2 => ?_)
        · walk_at "ev"
          exact f1 (by rw [z, z2]; rfl) _ _ (Ex.refl _) rfl
        · exact f2 (by rw [z2, Bool.and_false]) _ (Ex.refl _)
      · refine if_f ?_
        exact f2 (by rw [z, Bool.false_and]) _ (Ex.refl _)
    · rw [all2_map ha] at hx
      walk_at "ev"
      refine x_trL (sq_of hx) ?_
      have hq2 : g.offerOf a n y = (((g.entries.filter fun e => e.address == a && e.number == n && e.answer == y).map (·.offer)).head?) := by
        rw [hq, List.head?_map, List.head?_filter]
      have q := q H1 e
      rw [hq2] at q
      cases hf : (g.entries.filter fun e => e.address == a && e.number == n && e.answer == y) with
      | nil =>
        rw [hf] at q
        refine if_f ?_
        walk_at "ev"
        exact q
      | cons u r =>
        rw [hf] at q hx
        refine if_t ?_
        walk_at "ev"
        exact q
  · have c := of_decide_eq_false c
    have hq : g.offerOf a n y = match R7293g.Spec.readCode g.secret g.period y with
      | some s => if s.address = a ∧ s.number = n ∧ s.cls < g.table.length then some (R7293g.Spec.entry g.table s.cls) else none
      | none => none := by
      unfold R7293g.Spec.Gate.offerOf
      rw [if_neg c]
      rfl
    walk_at "ev"
    refine s_xm ho rfl ?_
    walk_at "ev"
    refine ⟨rfl, m, d, g, y, rfl, hd, fun hr H1 x1 => ?_, fun s hr x dx H1 hx x1 h1 => ?_⟩
    · rw [hq, hr] at q
      walk_at "ev"
      refine if_t ?_
      walk_at "ev"
      exact q H1 x1
    · rw [hq, hr] at q
      have hd1 := hd.ex x1
      have ho1 := hd1.obj
      have ht1 := hd1.tab
      walk_at "ev"
      refine if_f ?_
      walk_at "ev"
      rw [dec_bne]
      refine ite_b (fun z => ?_) (fun z => ?_)
      · walk_at "ev"
        have q := q H1 x1
        dsimp only at q
        rw [if_neg (fun w => by simp [w.1] at z)] at q
        exact q
      · walk_at "ev"
        rw [dec_bne]
        refine ite_b (fun z2 => ?_) (fun z2 => ?_)
        · walk_at "ev"
          have q := q H1 x1
          dsimp only at q
          rw [if_neg (fun w => by simp [w.2.1] at z2)] at q
          exact q
        · walk_at "ev"
          refine ite_b (fun z3 => ?_) (fun z3 => ?_)
          · have z3 := of_decide_eq_true z3
            rw [List.length_map] at z3
            walk_at "ev"
            have q := q H1 x1
            dsimp only at q
            rw [if_neg (fun w => by omega)] at q
            exact q
          · have z3 := of_decide_eq_false z3
            rw [List.length_map] at z3
            have hs : s.cls < g.table.length := by omega
            walk_at "ev"
            refine s_ixL (sq_of ht1) (atI_nat (j := s.cls) (v := natV (R7293g.Spec.entry g.table s.cls)) ?_) ?_
            · rw [List.getElem?_map]
              unfold R7293g.Spec.entry
              simp [hs]
            have q := q H1 x1
            dsimp only at q
            rw [if_pos ⟨by simpa using z, by simpa using z2, hs⟩] at q
            exact q
theorem ok_Door_offer_of (T : Tx K mg) : Mp P w K mg base CX0 (cA K "Door") "offer_of" ["self", "address", "number", "answer"] 5 (sp_Door_offer_of K) := by
  obtain ⟨fd, F⟩ := T.fn 46 (p := ("Door", some "offer_of")) (n := "offer_of") (q := "Door.offer_of") (st := s_Door_offer_of)
  refine ⟨⟨_, fd, T.meth 94, F.bindsN fun _ _ _ _ _ _ us hl => match us, hl with | [_, _, _, _], _ => rfl, F.ok sc_Door_offer_of (fun _ _ _ _ h => h.1) fun cdv A outer s H vs Q E hr h => ⟨t_Door_offer_of K, PSs.nox ?_, pure_Door_offer_of T vs H Q E h⟩⟩⟩
  exact (pss_cons (ps_if (pt_cmpR op_eq (pe_op op_mod (pv 3) pe_int) pe_int (nomark _)) (pss_cons (ps_setLc (i := 5) (own := [("own", 4)]) (g := (gName 4)) (tt := (tAnd (tB (tMeth (cA K "Knock") "is_by" (sp_Knock_is_by K) [] E0 (tVar 4) (tCons (tVar 1) (tCons (tVar 2) tNil)))) (tTest (tOp rEq (tFld K (tVar 4) "answer") (tVar 3))))) rfl sc_Door_offer_of.nd rfl rfl (sw_true rfl rfl rfl (by decide +kernel)) (pi_list (pe_fld (pv 0) rfl)) (blkOk_by (own := [("own", 4)]) (N := ["self", "address", "number", "answer", "own", "found"]) (sc := defScope s_Door_offer_of) (by decide +kernel)) (fun _ _ _ _ _ => (pg_name (i := 4) sc_Door_offer_of.nd rfl (Or.inl rfl))) (fun _ _ _ _ _ => (pts_one (PW.pt (pw_and (pt_val (pe_mp (pv 4) (T.cls 61) (ok_Knock_is_by T) (hr.mono (by decide)) pass0 (pa_cons (pv 1) (pa_cons (pv 2) pa_nil)))) (pw_and1 (pt_cmpR op_eq (pe_fld (pv 4) rfl) (pv 3) (nomark _))))))) (fun _ _ _ _ _ => (pe_fld (pv 4) rfl)))
    (pss_one (ps_ret (pe_ifExp (pt_truth (pv 5) (fun _ => rfl)) (pe_ix ix_list (pv 5) pe_int (fun _ _ => rfl)) pe_non)))) pss_nil)
    (pss_cons (ps_set (i := 4) sc_Door_offer_of.nd rfl (Or.inl rfl) (pe_mp (pv 0) (T.cls 77) (ok_Door_read T) (hr.mono (by decide)) pass0 (pa_cons (pv 3) pa_nil)))
    (pss_cons (ps_if (PW.pt (pw_or (pt_cmpR op_isN1 (pv 4) pe_non (nomark _)) (pw_or (pt_cmpR op_ne (pe_fld (pv 4) rfl) (pv 1) (nomark _)) (pw_or (pt_cmpR op_ne (pe_fld (pv 4) rfl) (pv 2) (nomark _)) (pw_or1 (pt_cmpR op_ge (pe_fld (pv 4) rfl) (pe_callB call_len_seq (by rfl) (T.free 40) PySem.boot_len (pa_cons (pe_fld (pv 0) rfl) pa_nil)) (nomark _))))))) (pss_one (ps_ret pe_non)) pss_nil)
    (pss_one (ps_ret (pe_ix ix_list (pe_fld (pv 0) rfl) (pe_fld (pv 4) rfl) (fun _ _ => rfl)))))))
end
end Dk
namespace Dk
open PySem PySem.Spec PyProof.Rows L2 Evl RZ
local macro_rules | `(tactic| walk_at "hp") => `(tactic| first | assumption | exact L2.upd_same | (apply Dk.Ex.at (by assumption); walk_at "hp"))
local macro_rules | `(tactic| walk_at "hq") => `(tactic| first | assumption | (apply Evl.sq_of; walk_at "hp") | (apply Evl.st_of; walk_at "hp") | (apply Evl.ex_l (by assumption); walk_at "hq") | (apply Evl.ex_t (by assumption); walk_at "hq"))
local macro_rules | `(tactic| walk_at "ex") => `(tactic| first | exact Evl.Ex.refl _ | assumption | (refine Evl.Ex.trans ?_ (by assumption); walk_at "ex"))
local macro_rules | `(tactic| walk_at "e1") => `(tactic| first
  | (with_reducible refine if_t ?_) | (with_reducible refine if_f ?_) | (with_reducible refine s_seq ?_) | (with_reducible refine s_asg ?_) | (with_reducible refine s_name ?_) | (with_reducible refine s_drop ?_) | (with_reducible refine s_ret ?_) | (with_reducible refine s_nil ?_) | (with_reducible refine s_cons ?_)
  | (with_reducible refine s_c ?_)
  | ((with_reducible refine' s_var ?h1 ?_); (case h1 => rfl))
  | (with_reducible refine s_op ?_) | (with_reducible refine s_call ?_) | (with_reducible refine s_cb ?_) | (with_reducible refine s_fld ?_) | (with_reducible refine s_tup ?_) | (with_reducible refine s_lst ?_) | (with_reducible refine s_meth ?_) | (with_reducible refine s_test ?_) | (with_reducible refine s_B ?_)
  | (with_reducible refine s_not ?_) | (with_reducible refine s_xb ?_) | (with_reducible refine s_if ?_) | (with_reducible refine s_ifS ?_) | (with_reducible refine s_next ?_) | (with_reducible refine s_sfld ?_)
  | (with_reducible refine s_I0 ?_) | ((with_reducible refine' s_I ?h1 ?_); (case h1 => first | exact ⟨by decide, by decide⟩ | exact .inr ⟨by decide, by decide⟩ | (show (0 : Int) < _; decide) | (show (0 : Int) ≤ _; first | decide | omega) | exact ⟨by omega, by omega⟩))
  | ((with_reducible refine' s_xf ?h1 ?h2 ?h3 ?h4 ?_); (case h1 => walk_at "hp"); (case h2 => exact Tx.clsK (by assumption) (by decide +kernel)); (case h3 => exact Tx.noatK (by assumption) (by decide +kernel)); (case h4 => rfl))
  | ((with_reducible refine' s_xs ?h1 ?h2 ?h3 ?h4 ?h5 ?_); (case h1 => walk_at "hp"); (case h2 => exact Tx.clsK (by assumption) (by decide +kernel)); (case h3 => exact Tx.noatK (by assumption) (by decide +kernel)); (case h4 => exact Dk.lt_ble rfl); (case h5 => rfl))
  | ((with_reducible refine' s_eq ?h1 ?_); (case h1 => rfl)) | ((with_reducible refine' s_ne ?h1 ?_); (case h1 => rfl)) | (with_reducible refine s_isN ?_)
  | ((with_reducible refine' s_xt ?h1 ?_); (case h1 => exact Nat.le_of_ble_eq_true rfl); intro _ _ _ _ _)
  | ((with_reducible refine' s_xl ?h1 ?_); (case h1 => exact Nat.le_of_ble_eq_true rfl); intro _ _ _ _ _)
  | ((with_reducible refine' s_lenL ?h1 ?_); (case h1 => walk_at "hq")) | ((with_reducible refine' s_lenT ?h1 ?_); (case h1 => walk_at "hq"))
  | ((with_reducible refine' s_ixL ?h1 ?h2 ?_); (case h1 => walk_at "hq"); (case h2 => first | assumption | exact atI_0 | exact atI_1 | rfl))
  | ((with_reducible refine' s_ixT ?h1 ?h2 ?_); (case h1 => walk_at "hq"); (case h2 => first | assumption | exact atI_0 | exact atI_1 | rfl))
  | (with_reducible refine s_or ?_) | (with_reducible refine s_and ?_)
  | ((with_reducible refine' s_nin ?h1 ?h2 ?h3 ?_); (case h1 => walk_at "hq"); (case h2 => rfl); (case h3 => rfl))
  | (with_reducible refine s_tru ?_)
  | (with_reducible refine s_ip ?_) | (with_reducible refine s_for1 ?_) | (with_reducible refine s_for2 ?_) | (with_reducible refine s_for3 ?_) | (with_reducible refine s_forL ?_) | (with_reducible refine s_forT ?_) | (with_reducible refine s_lcL ?_) | (with_reducible refine s_lcT ?_) | (with_reducible refine s_lcS ?_) | (with_reducible refine s_lcE ?_) | (with_reducible refine s_lcZ ?_) | (with_reducible refine s_lcZA ?_) | (with_reducible refine s_lcR ?_) | (with_reducible refine s_chain ?_) | (with_reducible refine s_av ?_) | (with_reducible refine s_ov ?_) | (with_reducible refine s_yes ?_) | (with_reducible refine s_tbm ?_) | (with_reducible refine s_ord ?_) | (with_reducible refine s_raise ?_) | (with_reducible refine s_fldaug ?_) | (with_reducible refine s_add ?_) | (with_reducible refine s_slc ?_) | (with_reducible refine s_part ?_) | (with_reducible refine x_p1 ?_) | (with_reducible refine s_nopart ?_)
  | ((with_reducible refine' x_bm ?h1 ?_); (case h1 => walk_at "hq")) | (with_reducible refine s_par1 ?_) | (with_reducible refine s_un ?_) | (with_reducible refine s_uI ?_))
local macro_rules | `(tactic| walk_at "ev") => `(tactic| repeat walk_at "e1")
/-! ### Door_knock -/
abbrev s_Door_knock : Stmt := inClass (top 16) 7
theorem sc_Door_knock : FnScope ["self", "address", "number", "offer", "own", "answer"] ["self", "address", "number", "offer"] (defScope s_Door_knock) := ⟨rfl, rfl, rfl, by decide +kernel, rfl, by decide +kernel, by decide +kernel⟩
/-- a knock: the door behind it, the answer -/
def knockOf (g : R7293g.Spec.Gate) (a n o : Nat) : R7293g.Spec.Gate × Option Nat := if g.hears a n then ((g.answer a n o).1, some (g.answer a n o).2) else (g, none)
theorem find_at {α : Type} {p : α → Bool} : ∀ {l : List α} {i : Nat} {e : α}, (∀ x ∈ l.take i, p x = false) → l[i]? = some e → p e = true → l.find? p = some e
  | [], i, e, _, h, _ => by cases h
  | x :: l, 0, e, _, h, hp => by
    cases h
    exact List.find?_cons_of_pos hp
  | x :: l, i + 1, e, f, h, hp => by
    have hx : p x = false := f x (by rw [List.take_succ_cons]; exact List.mem_cons_self)
    rw [List.find?_cons_of_neg (by rw [hx]; exact Bool.false_ne_true)]
    exact find_at (fun y hy => f y (by rw [List.take_succ_cons]; exact List.mem_cons_of_mem _ hy)) h hp
theorem find_no {α : Type} {p : α → Bool} {l : List α} (f : ∀ x ∈ l.take l.length, p x = false) : l.find? p = none := by
  rw [List.take_length] at f
  exact List.find?_eq_none.mpr fun x hx => by rw [f x hx]; exact Bool.false_ne_true
def sp_Door_knock (K : PySem.W.Frag) : Sp := fun vs H Q _ => vs.length = 4 ∧ ∃ m d g a n o, vs = [.ref d.a, natV a, natV n, natV o] ∧ DoorAt K H m d g ∧ m < 1000 ∧ ∀ d' H', DoorAt K H' (m + 1) d' (knockOf g a n o).1 → DFr H H' d d' → Q (optV (knockOf g a n o).2) H'
def t_Door_knock (K : PySem.W.Frag) : TS :=
  (tSeq (tIfS (tOr (tB (tMeth (cA K "Door") "is_connected" (sp_Door_is_connected K) [] E0 (tVar 0) (tCons (tVar 1) tNil))) (tB (tMeth (cA K "Door") "has_record" (sp_Door_has_record K) [] E0 (tVar 0) (tCons (tVar 1) (tCons (tVar 2) tNil))))) (tRet (tC .non)) tNext)
  (tSeq (tFor (iList K (tFld K (tVar 0) "remembered")) (gName 4) (tIfS (tAnd (tB (tMeth (cA K "Knock") "is_by" (sp_Knock_is_by K) [] E0 (tVar 4) (tCons (tVar 1) (tCons (tVar 2) tNil)))) (tAnd (tTest (tOp rEq (tFld K (tVar 4) "offer") (tVar 3))) (tTest (tOp rEq (tFld K (tVar 4) "period") (tFld K (tVar 0) "period"))))) (tRet (tFld K (tVar 4) "answer")) tNext))
  (tSeq (tIfS (tTest (tOp rrGe (tCB (rLenS K) (tCons (tFld K (tVar 0) "remembered") tNil)) (tFld K (tVar 0) "capacity"))) (tRet (tMeth (cA K "Door") "code" (sp_Door_code K) [] E0 (tVar 0) (tCons (tVar 1) (tCons (tVar 2) (tCons (tCall (sp_class_of K) [] E0 (tCons (tFld K (tVar 0) "table") (tCons (tVar 3) tNil))) tNil))))) tNext)
  (tSeq (tAsg (tMeth (cA K "Door") "ticket" (sp_Door_ticket K) [] E0 (tVar 0) tNil) (gName 5))
  (tSeq (tDrop (tBM K "list" rAppend (tFld K (tVar 0) "remembered") (tCons (tMake (cA K "Knock") (sp_Knock___init__ K) [] E0 (tCons (tVar 1) (tCons (tVar 2) (tCons (tVar 3) (tCons (tFld K (tVar 0) "period") (tCons (tVar 5) tNil)))))) tNil)))
  (tRet (tVar 5)))))))
section
variable {P : Program} {w : World} {K : PySem.W.Frag} {mg : Str → Option Value} {base : Heap}
theorem pure_Door_knock (T : Tx K mg) (vs : List V) (H : Hp) (Q : VK) (E : XK) (h : sp_Door_knock K vs H Q E) : t_Door_knock K { nx := fun _ H' => Q .non H', rt := Q } (start ["self", "address", "number", "offer", "own", "answer"] vs) H := by
  obtain ⟨_, m, d, g, a, n, o, rfl, hd, hm, q⟩ := h
  have ho := hd.obj
  unfold t_Door_knock
  walk_at "ev"
  refine s_xm ho rfl ?_
  walk_at "ev"
  refine ⟨rfl, m, d, g, a, rfl, hd, by omega, fun H1 x1 => ?_⟩
  walk_at "ev"
  refine ite_b (fun c => ?_) (fun c => ?_)
  · have e : knockOf g a n o = (g, none) := by
      unfold knockOf R7293g.Spec.Gate.hears
      rw [c]
      rfl
    rw [e] at q
    walk_at "ev"
    exact q d H1 (hd.ex x1).up (DFr.of x1)
  walk_at "ev"
  refine s_xm (x1 _ _ ho) rfl ?_
  walk_at "ev"
  refine ⟨rfl, m, d, g, a, n, rfl, hd.ex x1, by omega, fun H2 x2 => ?_⟩
  have x2 : Ex H H2 := Ex.trans x1 x2
  clear x1
  walk_at "ev"
  refine ite_b (fun c2 => ?_) (fun c2 => ?_)
  · have e : knockOf g a n o = (g, none) := by
      unfold knockOf R7293g.Spec.Gate.hears
      rw [c, c2]
      rfl
    rw [e] at q
    walk_at "ev"
    exact q d H2 (hd.ex x2).up (DFr.of x2)
  have e : knockOf g a n o = ((g.answer a n o).1, some (g.answer a n o).2) := by
    unfold knockOf R7293g.Spec.Gate.hears
    rw [c, c2]
    rfl
  rw [e] at q
  have hd2 := hd.ex x2
  have ho2 := hd2.obj
  obtain ⟨es, hc, hl⟩ := hd2.rem
  walk_at "ev"
  have len : es.length = g.entries.length := hl.len.symm
  refine x_fl (sq_of hc) (fun i σ H' => H' = H2 ∧ (∀ e ∈ g.entries.take i, e.same a n o g.period = false) ∧ ∃ x, σ = [some (.ref d.a), some (natV a), some (natV n), some (natV o), x, none]) ⟨rfl, (fun e he => by cases he), _, rfl⟩ (fun i σ H' _ P => by rw [P.1]; exact sq_of hc) (fun i x σ H' hx P => ?_) (fun σ H' P => ?_)
  · obtain ⟨rfl, P, y, rfl⟩ := P
    obtain ⟨b, hb, rfl⟩ := map_get hx
    obtain ⟨u, hu, pu⟩ := hl.get hb
    obtain ⟨kx, hk⟩ := id pu
    have nxt : u.same a n o g.period = false → ∀ e ∈ g.entries.take (i + 1), e.same a n o g.period = false := fun z e he => by
      rw [take_snoc hu] at he
      rcases List.mem_append.mp he with he | he
      · exact P e he
      · rw [List.mem_singleton.mp he]
        exact z
    walk_at "ev"
    refine s_xm hk rfl ?_
    walk_at "ev"
    refine ⟨rfl, b, u, a, n, rfl, pu, ?_⟩
    walk_at "ev"
    refine ite_b (fun z => ?_) (fun z => ?_)
    · walk_at "ev"
      rw [dec_nat]
      refine ite_b (fun z2 => ?_) (fun z2 => ?_)
      · walk_at "ev"
        rw [dec_nat]
        refine ite_b (fun z3 => ?_) (fun z3 => ?_)
        · have hs : u.same a n o g.period = true := by
            unfold R7293g.Spec.Entry.same
            rw [z, z2, z3]
            rfl
          have ha : g.answer a n o = (g, u.answer) := by
            unfold R7293g.Spec.Gate.answer
            rw [find_at P hu hs]
          rw [ha] at q
          walk_at "ev"
          exact q d H' hd2.up (DFr.of x2)
        · walk_at "ev"
          exact ⟨rfl, nxt (by unfold R7293g.Spec.Entry.same; rw [z3, Bool.and_false]), _, rfl⟩
      · refine if_f ?_
        walk_at "ev"
        exact ⟨rfl, nxt (by unfold R7293g.Spec.Entry.same; rw [z2, Bool.and_false]; rfl), _, rfl⟩
    · refine if_f ?_
      walk_at "ev"
      exact ⟨rfl, nxt (by unfold R7293g.Spec.Entry.same; rw [z]; rfl), _, rfl⟩
  · obtain ⟨rfl, P, y, rfl⟩ := P
    rw [List.length_map, len] at P
    have hf := find_no P
    walk_at "ev"
    rw [List.length_map, len]
    refine ite_b (fun z => ?_) (fun z => ?_)
    · have z := of_decide_eq_true z
      have ha : g.answer a n o = (g, R7293g.Spec.codeOf g.secret g.period a n (R7293g.Spec.classOf g.table o)) := by
        unfold R7293g.Spec.Gate.answer
        rw [hf]
        dsimp only
        rw [if_neg (by omega)]
      rw [ha] at q
      walk_at "ev"
      refine s_xm ho2 rfl ?_
      walk_at "ev"
      refine ⟨rfl, d.tab, g.table, o, rfl, sq_of hd2.tab, hd2.ok, fun H3 x3 => ?_⟩
      walk_at "ev"
      refine ⟨rfl, m, d, g, a, n, R7293g.Spec.classOf g.table o, rfl, hd2.ex x3, ?_⟩
      exact q d H3 (hd2.ex x3).up (DFr.of (Ex.trans x2 x3))
    · have z := of_decide_eq_false z
      have ha : g.answer a n o = ({ g with serial := g.serial + 1, entries := g.entries ++ [⟨a, n, o, g.period, R7293g.Spec.ticketOf g.secret g.period g.serial⟩] }, R7293g.Spec.ticketOf g.secret g.period g.serial) := by
        unfold R7293g.Spec.Gate.answer
        rw [hf]
        dsimp only
        rw [if_pos (by omega)]
      rw [ha] at q
      walk_at "ev"
      refine s_xm ho2 rfl ?_
      walk_at "ev"
      refine ⟨rfl, m, d, g, rfl, hd2, ?_⟩
      generalize hH3 : upd H' d.a (.ins (cA K "Door") d.dx (fDoor g.capacity g.secret d.tab g.period d.rem d.con d.rec_ (g.serial + 1))) = H3
      have ho3 : H3 d.a = some (.ins (cA K "Door") d.dx (fDoor g.capacity g.secret d.tab g.period d.rem d.con d.rec_ (g.serial + 1))) := by
        rw [← hH3]
        exact upd_same
      have k3 : ∀ b u, b ≠ d.a → H' b = some u → H3 b = some u := fun b u hb hu => by
        rw [← hH3, upd_ne hb]
        exact hu
      have lne : ∀ {b xs}, H' b = some (.lst xs) → b ≠ d.a := fun hb => ne_of hb ho2 (fun z => nomatch z)
      have hc3 := k3 _ _ (lne hc) hc
      walk_at "ev"
      refine s_make ?_
      walk_at "ev"
      refine mk_knock fun x H4 hx x4 hk => ?_
      walk_at "ev"
      refine s_app (x4 _ _ hc3) (by rw [List.length_map]; have := hd.n1; omega) ?_
      walk_at "ev"
      have ho4 := x4 _ _ ho3
      have fn : ∀ {b : Addr}, H' b ≠ none → b ≠ x := fun {b} hb e => by
        rw [e] at hb
        by_cases hxa : x = d.a
        · rw [hxa, ho3] at hx
          cases hx
        · rw [← hH3, upd_ne hxa] at hx
          exact hb hx
      have k4 : ∀ b u, b ≠ d.a → b ≠ d.rem → H' b = some u → (upd H4 d.rem (.lst (es.map V.ref ++ [.ref x]))) b = some u := fun b u h1 h2 hu => by
        rw [upd_ne h2]
        exact x4 _ _ (k3 _ _ h1 hu)
      obtain ⟨cs, hcc, hcl⟩ := hd2.con
      obtain ⟨rs, hrc, hrl⟩ := hd2.rec_
      refine q d _ ⟨?_, ?_, ⟨es ++ [x], ?_, ?_⟩, ⟨cs, ?_, ?_⟩, ⟨rs, ?_, ?_⟩, hd2.ok, hd2.keep, ?_, ?_, ?_, hd2.d1, hd2.d2, hd2.d3, hd2.d4, hd2.d5, hd2.d6⟩ ⟨rfl, rfl, .inl rfl, .inl rfl, .inl rfl, fun b u hb h1 h2 _ _ => k4 b u h1 h2 (x2 _ _ hb)⟩
      · rw [upd_ne (fun e => lne hc e.symm)]
        exact ho4
      · exact k4 _ _ (lne hd2.tab) hd2.d4 hd2.tab
      · rw [upd_same, List.map_append]
        rfl
      · have hdr : H4 d.rem = some (.lst (es.map V.ref)) := x4 _ _ hc3
        refine All2.snoc (hl.mono fun u b pu => ?_) ?_
        · obtain ⟨h1, h2, _, _⟩ := hd2.knNe pu
          obtain ⟨kx, pu⟩ := pu
          exact ⟨kx, k4 _ _ h1 h2 pu⟩
        · obtain ⟨kx, hk⟩ := hk
          refine ⟨kx, ?_⟩
          rw [upd_ne (ne_of hk hdr (fun z => nomatch z))]
          exact hk
      · exact k4 _ _ (lne hcc) (fun e => hd2.d1 e.symm) hcc
      · exact hcl.mono fun u b pu => k4 _ _ (hd2.tupNe pu).1 (hd2.tupNe pu).2.1 pu
      · exact k4 _ _ (lne hrc) (fun e => hd2.d2 e.symm) hrc
      · exact hrl.mono fun u b pu => k4 _ _ (hd2.tupNe pu).1 (hd2.tupNe pu).2.1 pu
      · rw [List.length_append]
        have := hd2.n1
        show g.entries.length + 1 ≤ m + 1
        omega
      · exact Nat.le_succ_of_le hd2.n2
      · exact Nat.le_succ_of_le hd2.n3
theorem ok_Door_knock (T : Tx K mg) : Mp P w K mg base CX0 (cA K "Door") "knock" ["self", "address", "number", "offer"] 5 (sp_Door_knock K) := by
  obtain ⟨fd, F⟩ := T.fn 45 (p := ("Door", some "knock")) (n := "knock") (q := "Door.knock") (st := s_Door_knock)
  refine ⟨⟨_, fd, T.meth 93, F.bindsN fun _ _ _ _ _ _ us hl => match us, hl with | [_, _, _, _], _ => rfl, F.ok sc_Door_knock (fun _ _ _ _ h => h.1) fun cdv A outer s H vs Q E hr h => ⟨t_Door_knock K, PSs.nox ?_, pure_Door_knock T vs H Q E h⟩⟩⟩
  exact (pss_cons (ps_if (PW.pt (pw_or (pt_val (pe_mp (pv 0) (T.cls 77) (ok_Door_is_connected T) (hr.mono (by decide)) pass0 (pa_cons (pv 1) pa_nil))) (pw_or1 (pt_val (pe_mp (pv 0) (T.cls 77) (ok_Door_has_record T) (hr.mono (by decide)) pass0 (pa_cons (pv 1) (pa_cons (pv 2) pa_nil))))))) (pss_one (ps_ret pe_non)) pss_nil)
    (pss_cons (ps_for PassesOwn.never rfl (pi_list (pe_fld (pv 0) rfl)) (pg_name (i := 4) sc_Door_knock.nd rfl (Or.inl rfl)) (pss_one (ps_if (PW.pt (pw_and (pt_val (pe_mp (pv 4) (T.cls 61) (ok_Knock_is_by T) (hr.mono (by decide)) pass0 (pa_cons (pv 1) (pa_cons (pv 2) pa_nil)))) (pw_and (pt_cmpR op_eq (pe_fld (pv 4) rfl) (pv 3) (nomark _)) (pw_and1 (pt_cmpR op_eq (pe_fld (pv 4) rfl) (pe_fld (pv 0) rfl) (nomark _)))))) (pss_one (ps_ret (pe_fld (pv 4) rfl))) pss_nil)))
    (pss_cons (ps_if (pt_cmpR op_ge (pe_callB call_len_seq (by rfl) (T.free 40) PySem.boot_len (pa_cons (pe_fld (pv 0) rfl) pa_nil)) (pe_fld (pv 0) rfl) (nomark _)) (pss_one (ps_ret (pe_mp (pv 0) (T.cls 77) (ok_Door_code T) (hr.mono (by decide)) pass0 (pa_cons (pv 1) (pa_cons (pv 2) (pa_cons (pe_pk (ok_class_of T) (hr.mono (by decide)) pass0 (pa_cons (pe_fld (pv 0) rfl) (pa_cons (pv 3) pa_nil))) pa_nil)))))) pss_nil)
    (pss_cons (ps_set (i := 5) sc_Door_knock.nd rfl (Or.inl rfl) (pe_mp0 (pv 0) (T.cls 77) (ok_Door_ticket T) (hr.mono (by decide)) pass0))
    (pss_cons (ps_expr (pe_bm PySem.F.plainAttrs_list PySem.F.slot_list_append PySem.F.type_list_append mt_append (pe_fld (pv 0) rfl) (pa_cons (pe_cp (ok_Knock___init__ T) (hr.mono (by decide)) pass0 (pa_cons (pv 1) (pa_cons (pv 2) (pa_cons (pv 3) (pa_cons (pe_fld (pv 0) rfl) (pa_cons (pv 5) pa_nil)))))) pa_nil)))
    (pss_one (ps_ret (pv 5))))))))
end
-- plain
/-! ### what a filter leaves of a list of references -/
def filt {α : Type} (f : α → Bool) (l : List α) (xs : List Addr) : List Addr := ((l.zip xs).filter fun e => f e.1).map fun e => e.2
theorem all2_filt {α : Type} {P : α → Addr → Prop} (f : α → Bool) : ∀ {l : List α} {xs : List Addr}, All2 P l xs → All2 P (l.filter f) (filt f l xs)
  | [], [], _ => trivial
  | a :: l, b :: xs, h => by
    have ih := all2_filt f h.2
    unfold filt
    rw [List.zip_cons_cons, List.filter_cons, List.filter_cons]
    by_cases c : f a = true
    · rw [if_pos c, if_pos c]
      exact ⟨h.1, ih⟩
    · rw [if_neg c, if_neg c]
      exact ih
theorem lc_filt {α : Type} {K : PySem.W.Frag} {H1 : Hp} {p : Addr} {l : List α} {xs : List Addr} {g : TG} {tt : TT} {te : TE} {ws : List Nat} {σ : L2.St} {Q : VK} (hl : l.length = xs.length) (hq : SqL K H1 p (xs.map V.ref)) (hn : xs.length ≤ 1000) (f : α → Bool)
    (hs : ∀ (i : Nat) a b H2 (k1 : V → Hp → Prop) (k2 : Hp → Prop), l[i]? = some a → xs[i]? = some b → Ex H1 H2 → (f a = true → ∀ H4, Ex H2 H4 → k1 (.ref b) H4) → (f a = false → ∀ H3, Ex H2 H3 → k2 H3) →
      g (.ref b) (wipe σ ws) H2 fun σ2 H3 => wipe σ2 ws = wipe σ ws ∧ tt σ2 H3 fun c H4 => if c = true then te σ2 H4 k1 else k2 H4)
    (hd : ∀ D H', H1 D = none → Ex H1 H' → H' D = some (.lst ((filt f l xs).map V.ref)) → Q (.ref D) H') : YL K g tt te ws σ Q (.ref p) H1 := by
  refine ⟨p, rfl, ⟨_, hq⟩, lc_all (K := K) (l.zip xs) walk_list (by rw [List.length_map, List.length_zip, hl, Nat.min_self]) (by rw [List.length_map]; omega) (fun e => f e.1) (fun c y _ => y = .ref c.2) (fun H2 e => ex_l e hq) (fun _ _ _ _ h _ => h) (fun i c x H2 H3 k1 k2 hi e hy f1 f2 => ?_) (fun D H2 acc hD e hx ha => ?_)⟩
  · obtain ⟨rfl, hx⟩ := hy
    obtain ⟨b, hb, rfl⟩ := map_get hx
    have hz := List.getElem?_zip_eq_some.mp hi
    have hb2 : c.2 = b := Option.some.inj (hz.2.symm.trans hb)
    refine hs i c.1 b H3 k1 k2 hz.1 hb e (fun z H4 x4 => f1 z _ H4 x4 ?_) f2
    rw [hb2]
  · have e2 : acc = (filt f l xs).map V.ref := by
      rw [all2_map (f := fun e : α × Addr => V.ref e.2) ha]
      unfold filt
      rw [List.map_map]
      rfl
    rw [e2] at hx
    exact hd D H2 hD e hx
theorem filt_len {α : Type} {f : α → Bool} {l : List α} {xs : List Addr} : (filt f l xs).length ≤ xs.length := by
  unfold filt
  rw [List.length_map]
  have h1 := List.length_filter_le (fun e : α × Addr => f e.1) (l.zip xs)
  rw [List.length_zip] at h1
  omega

/-! ### Door_go_on -/
abbrev s_Door_go_on : Stmt := inClass (top 16) 11
theorem sc_Door_go_on : FnScope ["self", "own"] ["self"] (defScope s_Door_go_on) := ⟨rfl, rfl, rfl, by decide +kernel, rfl, by decide +kernel, by decide +kernel⟩
def sp_Door_go_on (K : PySem.W.Frag) : Sp := fun vs H Q _ => vs.length = 1 ∧ ∃ m d g, vs = [.ref d.a] ∧ DoorAt K H m d g ∧ m < 1000 ∧ ∀ d' H', DoorAt K H' (m + 1) d' g.next → DFr H H' d d' → Q (natV g.next.period) H'
def t_Door_go_on (K : PySem.W.Frag) : TS :=
  (tSeq (sFldAug K (tVar 0) (tC (.int 1)) rAdd "period")
  (tSeq (sFld K (tVar 0) (tLc (iList K (tFld K (tVar 0) "remembered")) (gName 1) (tTest (tOp rrGe (tFld K (tVar 1) "period") (tOp rrSub (tFld K (tVar 0) "period") (tC (.int 1))))) (tVar 1) [1]) "remembered")
  (tSeq (sFld K (tVar 0) (tLc (iList K (tFld K (tVar 0) "records")) (gName 1) (tTest (tOp rrGe (tOp (rIxT K) (tVar 1) (tC (.int 2))) (tFld K (tVar 0) "period"))) (tVar 1) [1]) "records")
  (tRet (tFld K (tVar 0) "period")))))
section
variable {P : Program} {w : World} {K : PySem.W.Frag} {mg : Str → Option Value} {base : Heap}
theorem pure_Door_go_on (T : Tx K mg) (vs : List V) (H : Hp) (Q : VK) (E : XK) (h : sp_Door_go_on K vs H Q E) : t_Door_go_on K { nx := fun _ H' => Q .non H', rt := Q } (start ["self", "own"] vs) H := by
  obtain ⟨_, m, d, g, rfl, hd, hm, q⟩ := h
  have ho := hd.obj
  obtain ⟨es, hc, hl⟩ := hd.rem
  obtain ⟨rs, hrc, hrl⟩ := hd.rec_
  obtain ⟨cs, hcc, hcl⟩ := hd.con
  have n1 := hd.n1
  have n3 := hd.n3
  unfold t_Door_go_on
  walk_at "ev"
  refine s_fa ho (Tx.clsK T (by decide +kernel)) (Tx.noatK T (by decide +kernel)) rfl ?_
  walk_at "ev"
  refine s_xfa (gs := fDoor g.capacity g.secret d.tab (g.period + 1) d.rem d.con d.rec_ g.serial) ho (lt_ble rfl) rfl ?_
  generalize hH1 : upd H d.a (.ins (cA K "Door") d.dx (fDoor g.capacity g.secret d.tab (g.period + 1) d.rem d.con d.rec_ g.serial)) = H1
  have ho1 : H1 d.a = some (.ins (cA K "Door") d.dx (fDoor g.capacity g.secret d.tab (g.period + 1) d.rem d.con d.rec_ g.serial)) := by
    rw [← hH1]
    exact upd_same
  have k1 : ∀ b u, b ≠ d.a → H b = some u → H1 b = some u := fun b u hb hu => by
    rw [← hH1, upd_ne hb]
    exact hu
  have n1' : ∀ {b}, H1 b = none → H b = none := fun {b} hb => by
    by_cases e : b = d.a
    · rw [e, ho1] at hb
      cases hb
    · rw [← hH1, upd_ne e] at hb
      exact hb
  have lne : ∀ {b xs}, H b = some (.lst xs) → b ≠ d.a := fun hb => ne_of hb ho (fun z => nomatch z)
  have hc1 := k1 _ _ (lne hc) hc
  have hrc1 := k1 _ _ (lne hrc) hrc
  walk_at "ev"
  refine lc_filt hl.len (sq_of hc1) (by rw [← hl.len]; omega) (fun e => decide (g.period ≤ e.period)) (fun i e b H2 f1 f2 hi hb x2 y1 y2 => ?_) (fun D H2 hD x2 hDl => ?_)
  · obtain ⟨e', he, pe⟩ := hl.get hb
    rw [hi] at he
    cases he
    have hbn := (hd.knNe pe).1
    obtain ⟨kx, pe⟩ := pe
    have pe := x2 _ _ (k1 _ _ hbn pe)
    have ho2 := x2 _ _ ho1
    refine ⟨rfl, ?_⟩
    walk_at "ev"
    have e1 : decide (((g.period : Int) + 1) - 1 ≤ (e.period : Int)) = decide (g.period ≤ e.period) := by
      rw [Bool.eq_iff_iff]
      simp
    show (if decide (((g.period : Int) + 1) - 1 ≤ (e.period : Int)) = true then _ else _)
    rw [e1]
    refine ite_b (fun z => ?_) (fun z => ?_)
    · walk_at "ev"
      exact y1 z _ (Ex.refl _)
    · exact y2 z _ (Ex.refl _)
  have ho2 := x2 _ _ ho1
  have hrc2 := x2 _ _ hrc1
  have hDa : D ≠ d.a := fun e => by rw [e, ho1] at hD; cases hD
  walk_at "ev"
  generalize hH3 : upd H2 d.a (.ins (cA K "Door") d.dx (putF "remembered" (.ref D) (fDoor g.capacity g.secret d.tab (g.period + 1) d.rem d.con d.rec_ g.serial))) = H3
  have ho3 : H3 d.a = some (.ins (cA K "Door") d.dx (fDoor g.capacity g.secret d.tab (g.period + 1) D d.con d.rec_ g.serial)) := by
    rw [← hH3]
    exact upd_same
  have k3 : ∀ b u, b ≠ d.a → H2 b = some u → H3 b = some u := fun b u hb hu => by
    rw [← hH3, upd_ne hb]
    exact hu
  have n3' : ∀ {b}, H3 b = none → H2 b = none := fun {b} hb => by
    by_cases e : b = d.a
    · rw [e, ho3] at hb
      cases hb
    · rw [← hH3, upd_ne e] at hb
      exact hb
  have hrc3 := k3 _ _ (lne hrc) hrc2
  walk_at "ev"
  refine lc_filt hrl.len (sq_of hrc3) (by rw [← hrl.len]; omega) (fun e => decide (g.period + 1 ≤ e.until_)) (fun i e b H4 f1 f2 hi hb x4 y1 y2 => ?_) (fun D2 H4 hD2 x4 hDl2 => ?_)
  · obtain ⟨e', he, pe⟩ := hrl.get hb
    rw [hi] at he
    cases he
    have hbn := (hd.tupNe pe).1
    have pe := x4 _ _ (k3 _ _ hbn (x2 _ _ (k1 _ _ hbn pe)))
    have ho4 := x4 _ _ ho3
    refine ⟨rfl, ?_⟩
    walk_at "ev"
    have e1 : decide (((g.period + 1 : Nat) : Int) ≤ (e.until_ : Int)) = decide (g.period + 1 ≤ e.until_) := by
      rw [Bool.eq_iff_iff]
      simp only [decide_eq_true_eq]
      omega
    show (if decide (((g.period + 1 : Nat) : Int) ≤ (e.until_ : Int)) = true then _ else _)
    rw [e1]
    refine ite_b (fun z => ?_) (fun z => ?_)
    · walk_at "ev"
      exact y1 z _ (Ex.refl _)
    · exact y2 z _ (Ex.refl _)
  have ho4 := x4 _ _ ho3
  have hD2a : D2 ≠ d.a := fun e => by rw [e, ho3] at hD2; cases hD2
  walk_at "ev"
  have k5 : ∀ b u, b ≠ d.a → H b = some u → (upd H4 d.a (.ins (cA K "Door") d.dx (putF "records" (.ref D2) (fDoor g.capacity g.secret d.tab (g.period + 1) D d.con d.rec_ g.serial)))) b = some u := fun b u h1 hu => by
    rw [upd_ne h1]
    exact x4 _ _ (k3 _ _ h1 (x2 _ _ (k1 _ _ h1 hu)))
  have hDl4 : H4 D = some _ := x4 _ _ (k3 _ _ hDa hDl)
  have fD : H D = none := n1' hD
  have fD2 : H D2 = none := n1' (Ex.fr x2 (n3' hD2))
  refine q ⟨d.a, d.dx, d.tab, D, d.con, D2⟩ _ ⟨upd_same, k5 _ _ (lne hd.tab) hd.tab, ⟨_, (by rw [upd_ne hDa]; exact hDl4), (all2_filt (fun e : R7293g.Spec.Entry => decide (g.period ≤ e.period)) hl).mono fun u b pu => ?_⟩, ⟨cs, k5 _ _ (lne hcc) hcc, hcl.mono fun u b pu => k5 _ _ (hd.tupNe pu).1 pu⟩,
    ⟨_, (by rw [upd_ne hD2a]; exact hDl2), (all2_filt (fun e : R7293g.Spec.Rec_ => decide (g.period + 1 ≤ e.until_)) hrl).mono fun u b pu => k5 _ _ (hd.tupNe pu).1 pu⟩, hd.ok, hd.keep, ?_, Nat.le_succ_of_le hd.n2, ?_, ?_, ?_, ?_, ?_, hd.d5, ?_⟩ ⟨rfl, rfl, .inr fD, .inl rfl, .inr fD2, fun b u hb h1 _ _ _ => k5 b u h1 hb⟩
  · obtain ⟨kx, p2⟩ := id pu
    exact ⟨kx, k5 _ _ (hd.knNe pu).1 p2⟩
  · exact Nat.le_succ_of_le (Nat.le_trans (List.length_filter_le _ _) hd.n1)
  · exact Nat.le_succ_of_le (Nat.le_trans (List.length_filter_le _ _) hd.n3)
  · intro e
    have e : D = d.con := e
    rw [e, hcc] at fD
    cases fD
  · intro e
    have e : D = D2 := e
    rw [← e, k3 _ _ hDa hDl] at hD2
    cases hD2
  · intro e
    have e : d.con = D2 := e
    rw [← e, hcc] at fD2
    cases fD2
  · intro e
    have e : d.tab = D := e
    rw [← e, hd.tab] at fD
    cases fD
  · intro e
    have e : d.tab = D2 := e
    rw [← e, hd.tab] at fD2
    cases fD2
theorem ok_Door_go_on (T : Tx K mg) : Mp P w K mg base CX0 (cA K "Door") "go_on" ["self"] 1 (sp_Door_go_on K) := by
  obtain ⟨fd, F⟩ := T.fn 49 (p := ("Door", some "go_on")) (n := "go_on") (q := "Door.go_on") (st := s_Door_go_on)
  refine ⟨⟨_, fd, T.meth 97, F.bindsN fun _ _ _ _ _ _ us hl => match us, hl with | [_], _ => rfl, F.ok sc_Door_go_on (fun _ _ _ _ h => h.1) fun cdv A outer s H vs Q E hr h => ⟨t_Door_go_on K, PSs.nox ?_, pure_Door_go_on T vs H Q E h⟩⟩⟩
  exact (pss_cons (ps_fldaug (pv 0) pe_int in_add)
    (pss_cons (ps_fld (pv 0) (pe_lc (own := [("own", 1)]) (g := (gName 1)) (tt := (tTest (tOp rrGe (tFld K (tVar 1) "period") (tOp rrSub (tFld K (tVar 0) "period") (tC (.int 1)))))) rfl sc_Door_go_on.nd (pi_list (pe_fld (pv 0) rfl)) (blkOk_by (own := [("own", 1)]) (N := ["self", "own"]) (sc := defScope s_Door_go_on) (by decide +kernel)) (fun _ _ _ _ _ => (pg_name (i := 1) sc_Door_go_on.nd rfl (Or.inl rfl))) (fun _ _ _ _ _ => (pts_one (pt_cmpR op_ge (pe_fld (pv 1) rfl) (pe_op op_sub (pe_fld (pv 0) rfl) pe_int) (nomark _)))) (fun _ _ _ _ _ => (pv 1))) rfl)
    (pss_cons (ps_fld (pv 0) (pe_lc (own := [("own", 1)]) (g := (gName 1)) (tt := (tTest (tOp rrGe (tOp (rIxT K) (tVar 1) (tC (.int 2))) (tFld K (tVar 0) "period")))) rfl sc_Door_go_on.nd (pi_list (pe_fld (pv 0) rfl)) (blkOk_by (own := [("own", 1)]) (N := ["self", "own"]) (sc := defScope s_Door_go_on) (by decide +kernel)) (fun _ _ _ _ _ => (pg_name (i := 1) sc_Door_go_on.nd rfl (Or.inl rfl))) (fun _ _ _ _ _ => (pts_one (pt_cmpR op_ge (pe_ix ix_tup (pv 1) pe_int (fun _ _ => rfl)) (pe_fld (pv 0) rfl) (nomark _)))) (fun _ _ _ _ _ => (pv 1))) rfl)
    (pss_one (ps_ret (pe_fld (pv 0) rfl))))))
end
/-! ### Door_close -/
abbrev s_Door_close : Stmt := inClass (top 16) 10
theorem sc_Door_close : FnScope ["self", "address", "was_there", "own"] ["self", "address"] (defScope s_Door_close) := ⟨rfl, rfl, rfl, by decide +kernel, rfl, by decide +kernel, by decide +kernel⟩
def sp_Door_close (K : PySem.W.Frag) : Sp := fun vs H Q _ => vs.length = 2 ∧ ∃ m d g a, vs = [.ref d.a, natV a] ∧ DoorAt K H m d g ∧ m < 1000 ∧ ∀ d' H', DoorAt K H' (m + 1) d' (g.close a) → DFr H H' d d' → Q (.bl (g.isOpen a)) H'
def t_Door_close (K : PySem.W.Frag) : TS :=
  (tSeq (tAsg (tMeth (cA K "Door") "is_connected" (sp_Door_is_connected K) [] E0 (tVar 0) (tCons (tVar 1) tNil)) (gName 2))
  (tSeq (sFld K (tVar 0) (tLc (iList K (tFld K (tVar 0) "connections")) (gName 3) (tTest (tOp rNe (tOp (rIxT K) (tVar 3) (tC (.int 0))) (tVar 1))) (tVar 3) [3]) "connections")
  (tRet (tVar 2))))
section
variable {P : Program} {w : World} {K : PySem.W.Frag} {mg : Str → Option Value} {base : Heap}
theorem pure_Door_close (T : Tx K mg) (vs : List V) (H : Hp) (Q : VK) (E : XK) (h : sp_Door_close K vs H Q E) : t_Door_close K { nx := fun _ H' => Q .non H', rt := Q } (start ["self", "address", "was_there", "own"] vs) H := by
  obtain ⟨_, m, d, g, a, rfl, hd0, hm, q⟩ := h
  have ho0 := hd0.obj
  unfold t_Door_close
  walk_at "ev"
  refine s_xm ho0 rfl ?_
  walk_at "ev"
  refine ⟨rfl, m, d, g, a, rfl, hd0, by omega, fun H1 x1 => ?_⟩
  have hd := hd0.ex x1
  have ho := hd.obj
  obtain ⟨es, hc, hl⟩ := hd.rem
  obtain ⟨rs, hrc, hrl⟩ := hd.rec_
  obtain ⟨cs, hcc, hcl⟩ := hd.con
  have n1 := hd.n2
  have lne : ∀ {b xs}, H1 b = some (.lst xs) → b ≠ d.a := fun hb => ne_of hb ho (fun z => nomatch z)
  walk_at "ev"
  refine lc_filt hcl.len (sq_of hcc) (by rw [← hcl.len]; omega) (fun e => e.address != a) (fun i e b H2 f1 f2 hi hb x2 y1 y2 => ?_) (fun D H2 hD x2 hDl => ?_)
  · obtain ⟨e', he, pe⟩ := hcl.get hb
    rw [hi] at he
    cases he
    have pe := x2 _ _ pe
    refine ⟨rfl, ?_⟩
    walk_at "ev"
    rw [dec_bne]
    refine ite_b (fun z => ?_) (fun z => ?_)
    · walk_at "ev"
      exact y1 z _ (Ex.refl _)
    · exact y2 z _ (Ex.refl _)
  have ho2 := x2 _ _ ho
  have hDa : D ≠ d.a := fun e => by rw [e, ho] at hD; cases hD
  walk_at "ev"
  have k5 : ∀ b u, b ≠ d.a → H1 b = some u → (upd H2 d.a (.ins (cA K "Door") d.dx (putF "connections" (.ref D) (fDoor g.capacity g.secret d.tab g.period d.rem d.con d.rec_ g.serial)))) b = some u := fun b u h1 hu => by
    rw [upd_ne h1]
    exact x2 _ _ hu
  refine q ⟨d.a, d.dx, d.tab, d.rem, D, d.rec_⟩ _ ⟨upd_same, k5 _ _ (lne hd.tab) hd.tab, ⟨es, k5 _ _ (lne hc) hc, hl.mono fun u b pu => ?_⟩, ⟨_, (by rw [upd_ne hDa]; exact hDl), (all2_filt (fun e : R7293g.Spec.Conn => e.address != a) hcl).mono fun u b pu => k5 _ _ (hd.tupNe pu).1 pu⟩,
    ⟨rs, k5 _ _ (lne hrc) hrc, hrl.mono fun u b pu => k5 _ _ (hd.tupNe pu).1 pu⟩, hd.ok, hd.keep, Nat.le_succ_of_le hd.n1, Nat.le_succ_of_le (Nat.le_trans (List.length_filter_le _ _) hd.n2), Nat.le_succ_of_le hd.n3, ?_, hd.d2, ?_, hd.d4, ?_, hd.d6⟩ ⟨rfl, rfl, .inl rfl, .inr (Ex.fr x1 hD), .inl rfl, fun b u hb h1 _ _ _ => k5 b u h1 (x1 _ _ hb)⟩
  · obtain ⟨kx, p2⟩ := id pu
    exact ⟨kx, k5 _ _ (hd.knNe pu).1 p2⟩
  · intro e
    have e : d.rem = D := e
    rw [← e, hc] at hD
    cases hD
  · intro e
    have e : D = d.rec_ := e
    rw [e, hrc] at hD
    cases hD
  · intro e
    have e : d.tab = D := e
    rw [← e, hd.tab] at hD
    cases hD
theorem ok_Door_close (T : Tx K mg) : Mp P w K mg base CX0 (cA K "Door") "close" ["self", "address"] 2 (sp_Door_close K) := by
  obtain ⟨fd, F⟩ := T.fn 48 (p := ("Door", some "close")) (n := "close") (q := "Door.close") (st := s_Door_close)
  refine ⟨⟨_, fd, T.meth 96, F.bindsN fun _ _ _ _ _ _ us hl => match us, hl with | [_, _], _ => rfl, F.ok sc_Door_close (fun _ _ _ _ h => h.1) fun cdv A outer s H vs Q E hr h => ⟨t_Door_close K, PSs.nox ?_, pure_Door_close T vs H Q E h⟩⟩⟩
  exact (pss_cons (ps_set (i := 2) sc_Door_close.nd rfl (Or.inl rfl) (pe_mp (pv 0) (T.cls 77) (ok_Door_is_connected T) (hr.mono (by decide)) pass0 (pa_cons (pv 1) pa_nil)))
    (pss_cons (ps_fld (pv 0) (pe_lc (own := [("own", 3)]) (g := (gName 3)) (tt := (tTest (tOp rNe (tOp (rIxT K) (tVar 3) (tC (.int 0))) (tVar 1)))) rfl sc_Door_close.nd (pi_list (pe_fld (pv 0) rfl)) (blkOk_by (own := [("own", 3)]) (N := ["self", "address", "was_there", "own"]) (sc := defScope s_Door_close) (by decide +kernel)) (fun _ _ _ _ _ => (pg_name (i := 3) sc_Door_close.nd rfl (Or.inl rfl))) (fun _ _ _ _ _ => (pts_one (pt_cmpR op_ne (pe_ix ix_tup (pv 3) pe_int (fun _ _ => rfl)) (pv 1) (nomark _)))) (fun _ _ _ _ _ => (pv 3))) rfl)
    (pss_one (ps_ret (pv 2)))))
end
/-! ### Door_back -/
abbrev s_Door_back : Stmt := inClass (top 16) 9
theorem sc_Door_back : FnScope ["self", "address", "number", "answer", "offer", "own"] ["self", "address", "number", "answer"] (defScope s_Door_back) := ⟨rfl, rfl, rfl, by decide +kernel, rfl, by decide +kernel, by decide +kernel⟩
def verS : R7293g.Spec.Verdict → Str
  | .in_ => "in"
  | .busy => "busy"
  | .used => "used"
  | .refused => "refused"
def sp_Door_back (K : PySem.W.Frag) : Sp := fun vs H Q _ => vs.length = 4 ∧ ∃ m d g a n y, vs = [.ref d.a, natV a, natV n, natV y] ∧ DoorAt K H m d g ∧ m < 1000 ∧ ∀ d' H', DoorAt K H' (m + 1) d' (g.back a n y).1 → DFr H H' d d' → Q (.str (verS (g.back a n y).2)) H'
def t_Door_back (K : PySem.W.Frag) : TS :=
  (tSeq (tIfS (tB (tMeth (cA K "Door") "is_connected" (sp_Door_is_connected K) [] E0 (tVar 0) (tCons (tVar 1) tNil))) (tRet (tC (.str "busy"))) tNext)
  (tSeq (tIfS (tB (tMeth (cA K "Door") "has_record" (sp_Door_has_record K) [] E0 (tVar 0) (tCons (tVar 1) (tCons (tVar 2) tNil)))) (tRet (tC (.str "used"))) tNext)
  (tSeq (tAsg (tMeth (cA K "Door") "offer_of" (sp_Door_offer_of K) [] E0 (tVar 0) (tCons (tVar 1) (tCons (tVar 2) (tCons (tVar 3) tNil)))) (gName 4))
  (tSeq (tIfS (tTest (tOp rIsN (tVar 4) (tC .non))) (tRet (tC (.str "refused"))) tNext)
  (tSeq (tDrop (tBM K "list" rAppend (tFld K (tVar 0) "connections") (tCons (tTup (tCons (tVar 1) (tCons (tVar 2) (tCons (tVar 4) tNil)))) tNil)))
  (tSeq (tDrop (tBM K "list" rAppend (tFld K (tVar 0) "records") (tCons (tTup (tCons (tVar 1) (tCons (tVar 2) (tCons (tOp rrAdd (tFld K (tVar 0) "period") (tC (.int 1))) tNil)))) tNil)))
  (tSeq (sFld K (tVar 0) (tLc (iList K (tFld K (tVar 0) "remembered")) (gName 5) (tNot (tB (tMeth (cA K "Knock") "is_by" (sp_Knock_is_by K) [] E0 (tVar 5) (tCons (tVar 1) (tCons (tVar 2) tNil))))) (tVar 5) [5]) "remembered")
  (tRet (tC (.str "in"))))))))))
section
variable {P : Program} {w : World} {K : PySem.W.Frag} {mg : Str → Option Value} {base : Heap}
theorem pure_Door_back (T : Tx K mg) (vs : List V) (H : Hp) (Q : VK) (E : XK) (h : sp_Door_back K vs H Q E) : t_Door_back K { nx := fun _ H' => Q .non H', rt := Q } (start ["self", "address", "number", "answer", "offer", "own"] vs) H := by
  obtain ⟨_, m, d, g, a, n, y, rfl, hd0, hm, q⟩ := h
  have ho0 := hd0.obj
  unfold t_Door_back
  walk_at "ev"
  refine s_xm ho0 rfl ?_
  walk_at "ev"
  refine ⟨rfl, m, d, g, a, rfl, hd0, by omega, fun H1 x1 => ?_⟩
  walk_at "ev"
  refine ite_b (fun c => ?_) (fun c => ?_)
  · have e : g.back a n y = (g, .busy) := by
      unfold R7293g.Spec.Gate.back
      rw [if_pos c]
    rw [e] at q
    walk_at "ev"
    exact q d H1 (hd0.ex x1).up (DFr.of x1)
  walk_at "ev"
  refine s_xm (x1 _ _ ho0) rfl ?_
  walk_at "ev"
  refine ⟨rfl, m, d, g, a, n, rfl, hd0.ex x1, by omega, fun H2 x2 => ?_⟩
  have x2 : Ex H H2 := Ex.trans x1 x2
  clear x1
  walk_at "ev"
  refine ite_b (fun c2 => ?_) (fun c2 => ?_)
  · have e : g.back a n y = (g, .used) := by
      unfold R7293g.Spec.Gate.back
      rw [if_neg (by rw [c]; exact Bool.false_ne_true), if_pos c2]
    rw [e] at q
    walk_at "ev"
    exact q d H2 (hd0.ex x2).up (DFr.of x2)
  have e : g.back a n y = match g.offerOf a n y with
    | some o => (g.letIn a n o, .in_)
    | none => (g, .refused) := by
    unfold R7293g.Spec.Gate.back
    rw [if_neg (by rw [c]; exact Bool.false_ne_true), if_neg (by rw [c2]; exact Bool.false_ne_true)]
    rfl
  walk_at "ev"
  refine s_xm (x2 _ _ ho0) rfl ?_
  walk_at "ev"
  refine ⟨rfl, m, d, g, a, n, y, rfl, hd0.ex x2, by omega, fun H3 x3 => ?_⟩
  have x3 : Ex H H3 := Ex.trans x2 x3
  clear x2
  walk_at "ev"
  cases hof : g.offerOf a n y with
  | none =>
    rw [e, hof] at q
    refine if_t ?_
    walk_at "ev"
    exact q d H3 (hd0.ex x3).up (DFr.of x3)
  | some o =>
    rw [e, hof] at q
    refine if_f ?_
    walk_at "ev"
    have hd := hd0.ex x3
    have ho := hd.obj
    obtain ⟨es, hc, hl⟩ := hd.rem
    obtain ⟨rs, hrc, hrl⟩ := hd.rec_
    obtain ⟨cs, hcc, hcl⟩ := hd.con
    have n1 := hd.n1
    have n2 := hd.n2
    have n3 := hd.n3
    have lne : ∀ {b xs}, H3 b = some (.lst xs) → b ≠ d.a := fun hb => ne_of hb ho (fun z => nomatch z)
    walk_at "ev"
    rename_i t H4 ht x4 h4
    refine s_app (x4 _ _ hcc) (by rw [List.length_map, ← hcl.len]; omega) ?_
    generalize hH5 : upd H4 d.con (.lst (cs.map V.ref ++ [V.ref t])) = H5
    have k5 : ∀ b u, b ≠ d.con → H4 b = some u → H5 b = some u := fun b u hb hu => by
      rw [← hH5, upd_ne hb]
      exact hu
    have f5 : ∀ {b}, H5 b = none → H4 b = none := fun {b} hb => by
      by_cases z : b = d.con
      · rw [z, ← hH5, upd_same] at hb
        cases hb
      · rw [← hH5, upd_ne z] at hb
        exact hb
    have hcon5 : H5 d.con = some (.lst ((cs ++ [t]).map V.ref)) := by
      rw [← hH5, upd_same, List.map_append]
      rfl
    have ac : d.a ≠ d.con := fun z => lne hcc z.symm
    have ho5 := k5 _ _ ac (x4 _ _ ho)
    have hrc5 := k5 _ _ (fun z => hd.d3 z.symm) (x4 _ _ hrc)
    have tc : t ≠ d.con := fun z => by
      rw [z, hcc] at ht
      cases ht
    have h5 := k5 _ _ tc h4
    walk_at "ev"
    rename_i s H6 hs x6 h6
    refine s_app (x6 _ _ hrc5) (by rw [List.length_map, ← hrl.len]; omega) ?_
    generalize hH7 : upd H6 d.rec_ (.lst (rs.map V.ref ++ [V.ref s])) = H7
    have k7 : ∀ b u, b ≠ d.rec_ → H6 b = some u → H7 b = some u := fun b u hb hu => by
      rw [← hH7, upd_ne hb]
      exact hu
    have f7 : ∀ {b}, H7 b = none → H6 b = none := fun {b} hb => by
      by_cases z : b = d.rec_
      · rw [z, ← hH7, upd_same] at hb
        cases hb
      · rw [← hH7, upd_ne z] at hb
        exact hb
    have hrec7 : H7 d.rec_ = some (.lst ((rs ++ [s]).map V.ref)) := by
      rw [← hH7, upd_same, List.map_append]
      rfl
    have ar : d.a ≠ d.rec_ := fun z => lne hrc z.symm
    have ho7 := k7 _ _ ar (x6 _ _ ho5)
    have sr : s ≠ d.rec_ := fun z => by
      rw [z, hrc5] at hs
      cases hs
    have tr : t ≠ d.rec_ := fun z => by
      rw [z, hrc] at ht
      cases ht
    have s7 := k7 _ _ sr h6
    have t7 := k7 _ _ tr (x6 _ _ h5)
    have all7 : ∀ b u, b ≠ d.con → b ≠ d.rec_ → H3 b = some u → H7 b = some u := fun b u z1 z2 hu => k7 _ _ z2 (x6 _ _ (k5 _ _ z1 (x4 _ _ hu)))
    have hrem7 := all7 _ _ hd.d1 hd.d2 hc
    have hcon7 := k7 _ _ hd.d3 (x6 _ _ hcon5)
    walk_at "ev"
    refine lc_filt hl.len (sq_of hrem7) (by rw [← hl.len]; omega) (fun e => !(e.address == a && e.number == n)) (fun i e b H8 f1 f2 hi hb x8 y1 y2 => ?_) (fun D H8 hD x8 hDl => ?_)
    · obtain ⟨e', he, pe⟩ := hl.get hb
      rw [hi] at he
      cases he
      have hbn := hd.knNe pe
      obtain ⟨kx, pe⟩ := pe
      have pe := x8 _ _ (all7 _ _ hbn.2.2.1 hbn.2.2.2 pe)
      refine ⟨rfl, ?_⟩
      walk_at "ev"
      refine s_xm pe rfl ?_
      walk_at "ev"
      refine ⟨rfl, b, e, a, n, rfl, ⟨kx, pe⟩, ?_⟩
      walk_at "ev"
      refine ite_b (fun z => ?_) (fun z => ?_)
      · walk_at "ev"
        exact y1 z _ (Ex.refl _)
      · exact y2 z _ (Ex.refl _)
    have ho8 := x8 _ _ ho7
    have hDa : D ≠ d.a := fun e => by rw [e, ho7] at hD; cases hD
    walk_at "ev"
    have fin : ∀ b u, b ≠ d.a → H7 b = some u → (upd H8 d.a (.ins (cA K "Door") d.dx (putF "remembered" (.ref D) (fDoor g.capacity g.secret d.tab g.period d.rem d.con d.rec_ g.serial)))) b = some u := fun b u h1 hu => by
      rw [upd_ne h1]
      exact x8 _ _ hu
    have tup7 : ∀ b xs, H3 b = some (.tup xs) → H7 b = some (.tup xs) := fun b xs hb => all7 _ _ (hd.tupNe hb).2.2.1 (hd.tupNe hb).2.2.2 hb
    have tupA : ∀ b xs, H7 b = some (.tup xs) → b ≠ d.a := fun b xs hb => ne_of hb ho7 (fun z => nomatch z)
    have fD : H D = none := Ex.fr x3 (Ex.fr x4 (f5 (Ex.fr x6 (f7 hD))))
    have le1 : (d.tab ≠ d.a) := lne hd.tab
    refine q ⟨d.a, d.dx, d.tab, D, d.con, d.rec_⟩ _ ⟨upd_same, fin _ _ (lne hd.tab) (all7 _ _ hd.d5 hd.d6 hd.tab), ⟨_, (by rw [upd_ne hDa]; exact hDl), (all2_filt (fun e : R7293g.Spec.Entry => !(e.address == a && e.number == n)) hl).mono fun u b pu => ?_⟩,
      ⟨cs ++ [t], fin _ _ (lne hcc) hcon7, All2.snoc (hcl.mono fun u b pu => fin _ _ (tupA _ _ (tup7 _ _ pu)) (tup7 _ _ pu)) (fin _ _ (tupA _ _ t7) t7)⟩,
      ⟨rs ++ [s], fin _ _ (lne hrc) hrec7, All2.snoc (hrl.mono fun u b pu => fin _ _ (tupA _ _ (tup7 _ _ pu)) (tup7 _ _ pu)) ?_⟩, hd.ok, hd.keep, ?_, ?_, ?_, ?_, ?_, hd.d3, ?_, hd.d5, hd.d6⟩ ⟨rfl, rfl, .inr fD, .inl rfl, .inl rfl, fun b u hb h1 _ h3 h4 => fin b u h1 (all7 _ _ h3 h4 (x3 _ _ hb))⟩
    · obtain ⟨z1, _, z3, z4⟩ := hd.knNe pu
      obtain ⟨kx, p2⟩ := pu
      exact ⟨kx, fin _ _ z1 (all7 _ _ z3 z4 p2)⟩
    · have hk := hd.keep
      have s8 := fin _ _ (tupA _ _ s7) s7
      show _ = some (HO.tup [natV a, natV n, natV (g.period + g.keep)])
      rw [hk]
      exact s8
    · exact Nat.le_succ_of_le (Nat.le_trans (List.length_filter_le _ _) hd.n1)
    · show (g.conns ++ [_]).length ≤ m + 1
      rw [List.length_append, List.length_singleton]
      omega
    · show (g.records ++ [_]).length ≤ m + 1
      rw [List.length_append, List.length_singleton]
      omega
    · intro z
      have z : D = d.con := z
      rw [z, hcon7] at hD
      cases hD
    · intro z
      have z : D = d.rec_ := z
      rw [z, hrec7] at hD
      cases hD
    · intro z
      have z : d.tab = D := z
      rw [← z, all7 _ _ hd.d5 hd.d6 hd.tab] at hD
      cases hD
theorem ok_Door_back (T : Tx K mg) : Mp P w K mg base CX0 (cA K "Door") "back" ["self", "address", "number", "answer"] 6 (sp_Door_back K) := by
  obtain ⟨fd, F⟩ := T.fn 47 (p := ("Door", some "back")) (n := "back") (q := "Door.back") (st := s_Door_back)
  refine ⟨⟨_, fd, T.meth 95, F.bindsN fun _ _ _ _ _ _ us hl => match us, hl with | [_, _, _, _], _ => rfl, F.ok sc_Door_back (fun _ _ _ _ h => h.1) fun cdv A outer s H vs Q E hr h => ⟨t_Door_back K, PSs.nox ?_, pure_Door_back T vs H Q E h⟩⟩⟩
  exact (pss_cons (ps_if (pt_val (pe_mp (pv 0) (T.cls 77) (ok_Door_is_connected T) (hr.mono (by decide)) pass0 (pa_cons (pv 1) pa_nil))) (pss_one (ps_ret pe_str)) pss_nil)
    (pss_cons (ps_if (pt_val (pe_mp (pv 0) (T.cls 77) (ok_Door_has_record T) (hr.mono (by decide)) pass0 (pa_cons (pv 1) (pa_cons (pv 2) pa_nil)))) (pss_one (ps_ret pe_str)) pss_nil)
    (pss_cons (ps_set (i := 4) sc_Door_back.nd rfl (Or.inl rfl) (pe_mp (pv 0) (T.cls 77) (ok_Door_offer_of T) (hr.mono (by decide)) pass0 (pa_cons (pv 1) (pa_cons (pv 2) (pa_cons (pv 3) pa_nil)))))
    (pss_cons (ps_if (pt_cmpR op_isN1 (pv 4) pe_non (nomark _)) (pss_one (ps_ret pe_str)) pss_nil)
    (pss_cons (ps_expr (pe_bm PySem.F.plainAttrs_list PySem.F.slot_list_append PySem.F.type_list_append mt_append (pe_fld (pv 0) rfl) (pa_cons (pe_tup (pa_cons (pv 1) (pa_cons (pv 2) (pa_cons (pv 4) pa_nil)))) pa_nil)))
    (pss_cons (ps_expr (pe_bm PySem.F.plainAttrs_list PySem.F.slot_list_append PySem.F.type_list_append mt_append (pe_fld (pv 0) rfl) (pa_cons (pe_tup (pa_cons (pv 1) (pa_cons (pv 2) (pa_cons (pe_op op_add (pe_fld (pv 0) rfl) pe_int) pa_nil)))) pa_nil)))
    (pss_cons (ps_fld (pv 0) (pe_lc (own := [("own", 5)]) (g := (gName 5)) (tt := (tNot (tB (tMeth (cA K "Knock") "is_by" (sp_Knock_is_by K) [] E0 (tVar 5) (tCons (tVar 1) (tCons (tVar 2) tNil)))))) rfl sc_Door_back.nd (pi_list (pe_fld (pv 0) rfl)) (blkOk_by (own := [("own", 5)]) (N := ["self", "address", "number", "answer", "offer", "own"]) (sc := defScope s_Door_back) (by decide +kernel)) (fun _ _ _ _ _ => (pg_name (i := 5) sc_Door_back.nd rfl (Or.inl rfl))) (fun _ _ _ _ _ => (pts_one (pt_not (pt_val (pe_mp (pv 5) (T.cls 61) (ok_Knock_is_by T) (hr.mono (by decide)) pass0 (pa_cons (pv 1) (pa_cons (pv 2) pa_nil))))))) (fun _ _ _ _ _ => (pv 5))) rfl)
    (pss_one (ps_ret pe_str)))))))))
end
/-! ### Door___init__ -/
abbrev s_Door___init__ : Stmt := inClass (top 16) 0
theorem sc_Door___init__ : FnScope ["self", "capacity", "secret", "table"] ["self", "capacity", "secret", "table"] (defScope s_Door___init__) := ⟨rfl, rfl, rfl, by decide +kernel, rfl, by decide +kernel, by decide +kernel⟩
def sp_Door___init__ (K : PySem.W.Frag) : Sp := fun vs H Q _ => vs.length = 4 ∧ ∃ x dx tab c s, vs = [.ref x, natV c, natV s, .ref tab] ∧ H x = some (.ins (cA K "Door") dx []) ∧
  ∀ H' rem con rec_, (∀ b u, b ≠ x → H b = some u → H' b = some u) → H rem = none → H con = none → H rec_ = none → rem ≠ con → rem ≠ rec_ → con ≠ rec_ → H' rem = some (.lst []) → H' con = some (.lst []) → H' rec_ = some (.lst []) → H' x = some (.ins (cA K "Door") dx (fDoor c s tab 0 rem con rec_ 0)) → Q .non H'
def t_Door___init__ (K : PySem.W.Frag) : TS :=
  (tSeq (sFld K (tVar 0) (tVar 1) "capacity")
  (tSeq (sFld K (tVar 0) (tVar 2) "secret")
  (tSeq (sFld K (tVar 0) (tVar 3) "table")
  (tSeq (sFld K (tVar 0) (tC (.int 0)) "period")
  (tSeq (sFld K (tVar 0) (tLst tNil) "remembered")
  (tSeq (sFld K (tVar 0) (tLst tNil) "connections")
  (tSeq (sFld K (tVar 0) (tLst tNil) "records")
  (sFld K (tVar 0) (tC (.int 0)) "tickets"))))))))
section
variable {P : Program} {w : World} {K : PySem.W.Frag} {mg : Str → Option Value} {base : Heap}
theorem pure_Door___init__ (T : Tx K mg) (vs : List V) (H : Hp) (Q : VK) (E : XK) (h : sp_Door___init__ K vs H Q E) : t_Door___init__ K { nx := fun _ H' => Q .non H', rt := Q } (start ["self", "capacity", "secret", "table"] vs) H := by
  obtain ⟨_, x, dx, tab, c, s, rfl, hx, q⟩ := h
  unfold t_Door___init__
  walk_at "ev"
  rename_i p1 H1 n1 e1 g1 p2 H2 n2 e2 g2 p3 H3 n3 e3 g3
  have i1 := e1 _ _ upd_same
  have k1 : Kx x H H1 := by
    refine Kx.ex ?_ e1
    exact Kx.upd (Kx.upd (Kx.upd (Kx.upd (Kx.refl H) hx) upd_same) upd_same) upd_same
  have k1' := k1.upd (o' := .ins (cA K "Door") dx (putF "remembered" (.ref p1) (putF "period" (V.int 0) (putF "table" (.ref tab) (putF "secret" (natV s) (putF "capacity" (natV c) [])))))) i1
  have r1 : p1 ≠ x := fun z => by
    have := Kx.n (Kx.upd (Kx.upd (Kx.upd (Kx.upd (Kx.refl H) hx) upd_same) upd_same) upd_same) _ n1
    rw [z, hx] at this
    cases this
  have g1' : (upd H1 x (.ins (cA K "Door") dx (putF "remembered" (.ref p1) (putF "period" (V.int 0) (putF "table" (.ref tab) (putF "secret" (natV s) (putF "capacity" (natV c) []))))))) p1 = some (.lst []) := by rw [upd_ne r1]; exact g1
  have i2 := e2 _ _ upd_same
  have k2 := k1'.ex e2
  have k2' := k2.upd (o' := .ins (cA K "Door") dx (putF "connections" (.ref p2) (putF "remembered" (.ref p1) (putF "period" (V.int 0) (putF "table" (.ref tab) (putF "secret" (natV s) (putF "capacity" (natV c) []))))))) i2
  have r2 : p2 ≠ x := fun z => by
    have := k1'.n _ n2
    rw [z, hx] at this
    cases this
  have i3 := e3 _ _ upd_same
  have r3 : p3 ≠ x := fun z => by
    have := k2'.n _ n3
    rw [z, hx] at this
    cases this
  have g12 := e2 _ _ g1'
  have d12 : p1 ≠ p2 := fun z => by
    rw [← z, g1'] at n2
    cases n2
  have g13 := e3 _ _ (show (upd H2 x (.ins (cA K "Door") dx (putF "connections" (.ref p2) (putF "remembered" (.ref p1) (putF "period" (V.int 0) (putF "table" (.ref tab) (putF "secret" (natV s) (putF "capacity" (natV c) [])))))))) p1 = some (.lst []) by rw [upd_ne r1]; exact g12)
  have g23 := e3 _ _ (show (upd H2 x (.ins (cA K "Door") dx (putF "connections" (.ref p2) (putF "remembered" (.ref p1) (putF "period" (V.int 0) (putF "table" (.ref tab) (putF "secret" (natV s) (putF "capacity" (natV c) [])))))))) p2 = some (.lst []) by rw [upd_ne r2]; exact g2)
  have d13 : p1 ≠ p3 := fun z => by
    rw [← z, upd_ne r1, g12] at n3
    cases n3
  have d23 : p2 ≠ p3 := fun z => by
    rw [← z, upd_ne r2, g2] at n3
    cases n3
  refine q _ p1 p2 p3 (((k2'.ex e3).upd i3).upd upd_same).k (Kx.n (Kx.upd (Kx.upd (Kx.upd (Kx.upd (Kx.refl H) hx) upd_same) upd_same) upd_same) _ n1) (k1'.n _ n2) (k2'.n _ n3) d12 d13 d23 ?_ ?_ ?_ upd_same
  · rw [upd_ne r1, upd_ne r1]
    exact g13
  · rw [upd_ne r2, upd_ne r2]
    exact g23
  · rw [upd_ne r3, upd_ne r3]
    exact g3
/-- a new door -/
theorem mk_door {K : PySem.W.Frag} {H : Hp} {Q : Addr → Hp → Prop} {E : XK} {c s : Nat} {tab : Addr} {t : List Nat} (ht : H tab = some (.lst (t.map natV))) (ok : Tab t) (q : ∀ d H', H d.a = none → H d.rem = none → H d.con = none → H d.rec_ = none → d.tab = tab → Ex H H' → DoorAt K H' 0 d (R7293g.Spec.startDoor c s t 1) → Q d.a H') :
    ∀ x dx, H x = none → H dx = none → dx ≠ x → sp_Door___init__ K (.ref x :: ([natV c, natV s, .ref tab] ++ [])) (upd (upd H dx (.own x)) x (.ins (cA K "Door") dx [])) (fun v H2 => v = .non ∧ Q x H2) E := fun x dx hx hd dn =>
  ⟨rfl, x, dx, tab, c, s, rfl, upd_same, fun H' rem con rec_ h1 n1 n2 n3 d12 d13 d23 g1 g2 g3 g0 => ⟨rfl, by
    have e : Ex H H' := fun b u hb => by
      have b1 : b ≠ x := fun e => by rw [e, hx] at hb; cases hb
      have b2 : b ≠ dx := fun e => by rw [e, hd] at hb; cases hb
      exact h1 b u b1 (by rw [upd_ne b1, upd_ne b2]; exact hb)
    have f : ∀ {b}, (upd (upd H dx (.own x)) x (.ins (cA K "Door") dx [])) b = none → H b = none := fun {b} z => by
      by_cases b1 : b = x
      · rw [b1, upd_same] at z
        cases z
      by_cases b2 : b = dx
      · rw [upd_ne b1, b2, upd_same] at z
        cases z
      rw [upd_ne b1, upd_ne b2] at z
      exact z
    have tn : ∀ {b}, H b = none → tab ≠ b := fun {b} hb z => by rw [← z, ht] at hb; cases hb
    exact q ⟨x, dx, tab, rem, con, rec_⟩ H' hx (f n1) (f n2) (f n3) rfl e ⟨g0, e _ _ ht, ⟨[], g1, trivial⟩, ⟨[], g2, trivial⟩, ⟨[], g3, trivial⟩, ok, rfl, Nat.le_refl _, Nat.le_refl _, Nat.le_refl _, d12, d13, d23, tn (f n1), tn (f n2), tn (f n3)⟩⟩⟩
theorem ok_Door___init__ (T : Tx K mg) : Cp P w K mg base CX0 "Door" (cA K "Door") ["self", "capacity", "secret", "table"] 1 (sp_Door___init__ K) := by
  obtain ⟨fd, F⟩ := T.fn 38 (p := ("Door", some "__init__")) (n := "__init__") (q := "Door.__init__") (st := s_Door___init__)
  refine ⟨⟨_, fd, T.glo 76, T.mkr 78, F.bindsN fun _ _ _ _ _ _ us hl => match us, hl with | [_, _, _, _], _ => rfl, F.ok sc_Door___init__ (fun _ _ _ _ h => h.1) fun cdv A outer s H vs Q E hr h => ⟨t_Door___init__ K, PSs.nox ?_, pure_Door___init__ T vs H Q E h⟩⟩⟩
  exact (pss_cons (ps_fld (pv 0) (pv 1) rfl)
    (pss_cons (ps_fld (pv 0) (pv 2) rfl)
    (pss_cons (ps_fld (pv 0) (pv 3) rfl)
    (pss_cons (ps_fld (pv 0) pe_int rfl)
    (pss_cons (ps_fld (pv 0) (pe_lst pa_nil) rfl)
    (pss_cons (ps_fld (pv 0) (pe_lst pa_nil) rfl)
    (pss_cons (ps_fld (pv 0) (pe_lst pa_nil) rfl)
    (pss_one (ps_fld (pv 0) pe_int rfl)))))))))
end
end Dk
namespace Dk
open PySem PySem.Spec PyProof.Rows L2 Evl RZ
local macro_rules | `(tactic| walk_at "hp") => `(tactic| first | assumption | exact L2.upd_same | (apply Dk.Ex.at (by assumption); walk_at "hp"))
local macro_rules | `(tactic| walk_at "hq") => `(tactic| first | assumption | (apply Evl.sq_of; walk_at "hp") | (apply Evl.st_of; walk_at "hp") | (apply Evl.ex_l (by assumption); walk_at "hq") | (apply Evl.ex_t (by assumption); walk_at "hq"))
local macro_rules | `(tactic| walk_at "ex") => `(tactic| first | exact Evl.Ex.refl _ | assumption | (refine Evl.Ex.trans ?_ (by assumption); walk_at "ex"))
local macro_rules | `(tactic| walk_at "e1") => `(tactic| first
  | (with_reducible refine if_t ?_) | (with_reducible refine if_f ?_) | (with_reducible refine s_seq ?_) | (with_reducible refine s_asg ?_) | (with_reducible refine s_name ?_) | (with_reducible refine s_drop ?_) | (with_reducible refine s_ret ?_) | (with_reducible refine s_nil ?_) | (with_reducible refine s_cons ?_)
  | (with_reducible refine s_c ?_)
  | ((with_reducible refine' s_var ?h1 ?_); (case h1 => rfl))
  | (with_reducible refine s_op ?_) | (with_reducible refine s_call ?_) | (with_reducible refine s_cb ?_) | (with_reducible refine s_fld ?_) | (with_reducible refine s_tup ?_) | (with_reducible refine s_lst ?_) | (with_reducible refine s_meth ?_) | (with_reducible refine s_test ?_) | (with_reducible refine s_B ?_)
  | (with_reducible refine s_not ?_) | (with_reducible refine s_xb ?_) | (with_reducible refine s_if ?_) | (with_reducible refine s_ifS ?_) | (with_reducible refine s_next ?_) | (with_reducible refine s_sfld ?_)
  | (with_reducible refine s_I0 ?_) | ((with_reducible refine' s_I ?h1 ?_); (case h1 => first | exact ⟨by decide, by decide⟩ | exact .inr ⟨by decide, by decide⟩ | (show (0 : Int) < _; decide) | (show (0 : Int) ≤ _; first | decide | omega) | exact ⟨by omega, by omega⟩))
  | ((with_reducible refine' s_xf ?h1 ?h2 ?h3 ?h4 ?_); (case h1 => walk_at "hp"); (case h2 => exact Tx.clsK (by assumption) (by decide +kernel)); (case h3 => exact Tx.noatK (by assumption) (by decide +kernel)); (case h4 => rfl))
  | ((with_reducible refine' s_xs ?h1 ?h2 ?h3 ?h4 ?h5 ?_); (case h1 => walk_at "hp"); (case h2 => exact Tx.clsK (by assumption) (by decide +kernel)); (case h3 => exact Tx.noatK (by assumption) (by decide +kernel)); (case h4 => exact Dk.lt_ble rfl); (case h5 => rfl))
  | ((with_reducible refine' s_eq ?h1 ?_); (case h1 => rfl)) | ((with_reducible refine' s_ne ?h1 ?_); (case h1 => rfl)) | (with_reducible refine s_isN ?_)
  | ((with_reducible refine' s_xt ?h1 ?_); (case h1 => exact Nat.le_of_ble_eq_true rfl); intro _ _ _ _ _)
  | ((with_reducible refine' s_xl ?h1 ?_); (case h1 => exact Nat.le_of_ble_eq_true rfl); intro _ _ _ _ _)
  | ((with_reducible refine' s_lenL ?h1 ?_); (case h1 => walk_at "hq")) | ((with_reducible refine' s_lenT ?h1 ?_); (case h1 => walk_at "hq"))
  | ((with_reducible refine' s_ixL ?h1 ?h2 ?_); (case h1 => walk_at "hq"); (case h2 => first | assumption | exact atI_0 | exact atI_1 | rfl))
  | ((with_reducible refine' s_ixT ?h1 ?h2 ?_); (case h1 => walk_at "hq"); (case h2 => first | assumption | exact atI_0 | exact atI_1 | rfl))
  | (with_reducible refine s_or ?_) | (with_reducible refine s_and ?_)
  | ((with_reducible refine' s_nin ?h1 ?h2 ?h3 ?_); (case h1 => walk_at "hq"); (case h2 => rfl); (case h3 => rfl))
  | (with_reducible refine s_tru ?_)
  | (with_reducible refine s_ip ?_) | (with_reducible refine s_for1 ?_) | (with_reducible refine s_for2 ?_) | (with_reducible refine s_for3 ?_) | (with_reducible refine s_forL ?_) | (with_reducible refine s_forT ?_) | (with_reducible refine s_lcL ?_) | (with_reducible refine s_lcT ?_) | (with_reducible refine s_lcS ?_) | (with_reducible refine s_lcE ?_) | (with_reducible refine s_lcZ ?_) | (with_reducible refine s_lcZA ?_) | (with_reducible refine s_lcR ?_) | (with_reducible refine s_chain ?_) | (with_reducible refine s_av ?_) | (with_reducible refine s_ov ?_) | (with_reducible refine s_yes ?_) | (with_reducible refine s_tbm ?_) | (with_reducible refine s_ord ?_) | (with_reducible refine s_raise ?_) | (with_reducible refine s_fldaug ?_) | (with_reducible refine s_add ?_) | (with_reducible refine s_slc ?_) | (with_reducible refine s_part ?_) | (with_reducible refine x_p1 ?_) | (with_reducible refine s_nopart ?_)
  | ((with_reducible refine' x_bm ?h1 ?_); (case h1 => walk_at "hq")) | (with_reducible refine s_par1 ?_) | (with_reducible refine s_un ?_) | (with_reducible refine s_uI ?_))
local macro_rules | `(tactic| walk_at "ev") => `(tactic| repeat walk_at "e1")
-- plain
/-! ### what is handed out -/
theorem oc_address : (R7293g.Spec.units "address").map Rust.octetOf = octs "address" := by decide +kernel
theorem oc_number : (R7293g.Spec.units "number").map Rust.octetOf = octs "number" := by decide +kernel
theorem oc_offer : (R7293g.Spec.units "offer").map Rust.octetOf = octs "offer" := by decide +kernel
theorem oc_period : (R7293g.Spec.units "period").map Rust.octetOf = octs "period" := by decide +kernel
theorem oc_answer : (R7293g.Spec.units "answer").map Rust.octetOf = octs "answer" := by decide +kernel
theorem oc_until : (R7293g.Spec.units "until").map Rust.octetOf = octs "until" := by decide +kernel
theorem oc_class : (R7293g.Spec.units "class").map Rust.octetOf = octs "class" := by decide +kernel
theorem oc_letter : (R7293g.Spec.units "letter").map Rust.octetOf = octs "letter" := by decide +kernel
theorem oc_value : (R7293g.Spec.units "value").map Rust.octetOf = octs "value" := by decide +kernel
theorem oc_done : (R7293g.Spec.units "done").map Rust.octetOf = octs "done" := by decide +kernel
theorem oc_table : (R7293g.Spec.units "table").map Rust.octetOf = octs "table" := by decide +kernel
theorem oc_loss : (R7293g.Spec.units "loss").map Rust.octetOf = octs "loss" := by decide +kernel
theorem oc_remembered : (R7293g.Spec.units "remembered").map Rust.octetOf = octs "remembered" := by decide +kernel
theorem oc_connections : (R7293g.Spec.units "connections").map Rust.octetOf = octs "connections" := by decide +kernel
theorem oc_records : (R7293g.Spec.units "records").map Rust.octetOf = octs "records" := by decide +kernel
theorem oc_in : (R7293g.Spec.units "in").map Rust.octetOf = octs "in" := by decide +kernel
theorem oc_busy : (R7293g.Spec.units "busy").map Rust.octetOf = octs "busy" := by decide +kernel
theorem oc_used : (R7293g.Spec.units "used").map Rust.octetOf = octs "used" := by decide +kernel
theorem oc_refused : (R7293g.Spec.units "refused").map Rust.octetOf = octs "refused" := by decide +kernel
theorem given_all : ∀ l : List R7293g.Spec.Plain, Rust.givenAll l = l.map Rust.given
  | [] => rfl
  | v :: l => by rw [List.map_cons, ← given_all l]; rfl
theorem giv_nat (n : Nat) : Rust.given (R7293g.Spec.nat n) = .int (n : Int) := rfl
theorem giv_entry (e : R7293g.Spec.Entry) : Rust.given (R7293g.Spec.entryPlain e) = numsW [("address", e.address), ("number", e.number), ("offer", e.offer), ("period", e.period), ("answer", e.answer)] := by
  show RWire.Value.record [((R7293g.Spec.units "address").map Rust.octetOf, .int e.address), ((R7293g.Spec.units "number").map Rust.octetOf, .int e.number), ((R7293g.Spec.units "offer").map Rust.octetOf, .int e.offer), ((R7293g.Spec.units "period").map Rust.octetOf, .int e.period), ((R7293g.Spec.units "answer").map Rust.octetOf, .int e.answer)] = _
  rw [oc_address, oc_number, oc_offer, oc_period, oc_answer]
  rfl
theorem giv_conn (e : R7293g.Spec.Conn) : Rust.given (R7293g.Spec.connPlain e) = numsW [("address", e.address), ("number", e.number), ("offer", e.offer)] := by
  show RWire.Value.record [((R7293g.Spec.units "address").map Rust.octetOf, .int e.address), ((R7293g.Spec.units "number").map Rust.octetOf, .int e.number), ((R7293g.Spec.units "offer").map Rust.octetOf, .int e.offer)] = _
  rw [oc_address, oc_number, oc_offer]
  rfl
theorem giv_rec (e : R7293g.Spec.Rec_) : Rust.given (R7293g.Spec.recordPlain e) = numsW [("address", e.address), ("number", e.number), ("until", e.until_)] := by
  show RWire.Value.record [((R7293g.Spec.units "address").map Rust.octetOf, .int e.address), ((R7293g.Spec.units "number").map Rust.octetOf, .int e.number), ((R7293g.Spec.units "until").map Rust.octetOf, .int e.until_)] = _
  rw [oc_address, oc_number, oc_until]
  rfl
theorem giv_said (s : R7293g.Spec.Said) : Rust.given (R7293g.Spec.saidPlain s) = numsW [("period", s.period), ("address", s.address), ("number", s.number), ("class", s.cls)] := by
  show RWire.Value.record [((R7293g.Spec.units "period").map Rust.octetOf, .int s.period), ((R7293g.Spec.units "address").map Rust.octetOf, .int s.address), ((R7293g.Spec.units "number").map Rust.octetOf, .int s.number), ((R7293g.Spec.units "class").map Rust.octetOf, .int s.cls)] = _
  rw [oc_address, oc_number, oc_period, oc_class]
  rfl
theorem giv_letter (i : Nat) (e : R7293g.Spec.Letter) : Rust.given (R7293g.Spec.letterPlain i e) = numsW [("letter", i), ("address", e.address), ("number", e.number), ("offer", e.offer), ("period", e.period), ("answer", e.answer)] := by
  show RWire.Value.record [((R7293g.Spec.units "letter").map Rust.octetOf, .int i), ((R7293g.Spec.units "address").map Rust.octetOf, .int e.address), ((R7293g.Spec.units "number").map Rust.octetOf, .int e.number), ((R7293g.Spec.units "offer").map Rust.octetOf, .int e.offer), ((R7293g.Spec.units "period").map Rust.octetOf, .int e.period), ((R7293g.Spec.units "answer").map Rust.octetOf, .int e.answer)] = _
  rw [oc_letter, oc_address, oc_number, oc_offer, oc_period, oc_answer]
  rfl
theorem giv_state (g : R7293g.Spec.Gate) : Rust.given (R7293g.Spec.statePlain g) = .record [(octs "period", .int g.period), (octs "remembered", .list (g.entries.map fun e => Rust.given (R7293g.Spec.entryPlain e))), (octs "connections", .list (g.conns.map fun e => Rust.given (R7293g.Spec.connPlain e))), (octs "records", .list (g.records.map fun e => Rust.given (R7293g.Spec.recordPlain e)))] := by
  show RWire.Value.record [((R7293g.Spec.units "period").map Rust.octetOf, .int g.period), ((R7293g.Spec.units "remembered").map Rust.octetOf, .list (Rust.givenAll (g.entries.map R7293g.Spec.entryPlain))), ((R7293g.Spec.units "connections").map Rust.octetOf, .list (Rust.givenAll (g.conns.map R7293g.Spec.connPlain))), ((R7293g.Spec.units "records").map Rust.octetOf, .list (Rust.givenAll (g.records.map R7293g.Spec.recordPlain)))] = _
  rw [oc_period, oc_remembered, oc_connections, oc_records, given_all, given_all, given_all, List.map_map, List.map_map, List.map_map]
  rfl
theorem giv_iter (v : R7293g.Spec.Plain) (b : Bool) : Rust.given (R7293g.Spec.iteration v b) = .record [(octs "value", Rust.given v), (octs "done", .bool b)] := by
  show RWire.Value.record [((R7293g.Spec.units "value").map Rust.octetOf, Rust.given v), ((R7293g.Spec.units "done").map Rust.octetOf, .bool b)] = _
  rw [oc_value, oc_done]
theorem giv_best (b : Nat × List Nat) : Rust.given (R7293g.Spec.bestPlain b) = .record [(octs "table", .list (b.2.map fun n : Nat => RWire.Value.int (n : Int))), (octs "loss", .int b.1)] := by
  show RWire.Value.record [((R7293g.Spec.units "table").map Rust.octetOf, .list (Rust.givenAll (b.2.map R7293g.Spec.nat))), ((R7293g.Spec.units "loss").map Rust.octetOf, .int b.1)] = _
  rw [oc_table, oc_loss, given_all, List.map_map]
  rfl
theorem giv_ver (v : R7293g.Spec.Verdict) : Rust.given (R7293g.Spec.verdictText v) = .text (octs (verS v)) := by
  cases v
  · show RWire.Value.text ((R7293g.Spec.units "in").map Rust.octetOf) = _
    rw [oc_in]
    rfl
  · show RWire.Value.text ((R7293g.Spec.units "busy").map Rust.octetOf) = _
    rw [oc_busy]
    rfl
  · show RWire.Value.text ((R7293g.Spec.units "used").map Rust.octetOf) = _
    rw [oc_used]
    rfl
  · show RWire.Value.text ((R7293g.Spec.units "refused").map Rust.octetOf) = _
    rw [oc_refused]
    rfl
theorem ver_fine (v : R7293g.Spec.Verdict) : fineS (verS v) = true ∧ (verS v).cps.size ≤ 1000 := by
  cases v <;> exact ⟨by decide +kernel, by decide +kernel⟩
/-- references to values -/
theorem all2_vals {α : Type} {K : PySem.W.Frag} {H : Hp} {f : α → RWire.Value} : ∀ {l : List α} {acc : List V}, All2 (fun a y => ∃ t, y = V.ref t ∧ VAt K H (f a) t) l acc → ∃ xs, acc = xs.map V.ref ∧ VAll K H (l.map f) xs
  | [], [], _ => ⟨[], rfl, by unfold VAll; trivial⟩
  | a :: l, y :: acc, h => by
    obtain ⟨⟨t, rfl, ht⟩, hr⟩ := h
    obtain ⟨xs, rfl, hx⟩ := all2_vals hr
    refine ⟨t :: xs, rfl, ?_⟩
    rw [List.map_cons]
    unfold VAll
    exact ⟨ht, hx⟩

/-! ### state_of -/
abbrev s_state_of : Stmt := top 52
theorem sc_state_of : FnScope ["door", "remembered", "connections", "records", "own"] ["door"] (defScope s_state_of) := ⟨rfl, rfl, rfl, by decide +kernel, rfl, by decide +kernel, by decide +kernel⟩
def sp_state_of (K : PySem.W.Frag) : Sp := fun vs H Q _ => vs.length = 1 ∧ ∃ m d g, vs = [.ref d.a] ∧ DoorAt K H m d g ∧ m ≤ 1000 ∧ ∀ a H', Ex H H' → VAt K H' (Rust.given (R7293g.Spec.statePlain g)) a → Q (.ref a) H'
def t_state_of (K : PySem.W.Frag) : TS :=
  (tSeq (tAsg (tLc (iList K (tFld K (tVar 0) "remembered")) (gName 4) tYes (tCall (sp_numbers_record K) [] E0 (tCons (tTup (tCons (tC (.str "address")) (tCons (tC (.str "number")) (tCons (tC (.str "offer")) (tCons (tC (.str "period")) (tCons (tC (.str "answer")) tNil)))))) (tCons (tTup (tCons (tFld K (tVar 4) "address") (tCons (tFld K (tVar 4) "number") (tCons (tFld K (tVar 4) "offer") (tCons (tFld K (tVar 4) "period") (tCons (tFld K (tVar 4) "answer") tNil)))))) tNil))) [4]) (gName 1))
  (tSeq (tAsg (tLc (iList K (tFld K (tVar 0) "connections")) (gName 4) tYes (tCall (sp_numbers_record K) [] E0 (tCons (tTup (tCons (tC (.str "address")) (tCons (tC (.str "number")) (tCons (tC (.str "offer")) tNil)))) (tCons (tVar 4) tNil))) [4]) (gName 2))
  (tSeq (tAsg (tLc (iList K (tFld K (tVar 0) "records")) (gName 4) tYes (tCall (sp_numbers_record K) [] E0 (tCons (tTup (tCons (tC (.str "address")) (tCons (tC (.str "number")) (tCons (tC (.str "until")) tNil)))) (tCons (tVar 4) tNil))) [4]) (gName 3))
  (tRet (tCall (sp_record K) [] E0 (tCons (tLst (tCons (tTup (tCons (tC (.str "period")) (tCons (tCall (sp_integer K) [] E0 (tCons (tFld K (tVar 0) "period") tNil)) tNil))) (tCons (tTup (tCons (tC (.str "remembered")) (tCons (tCall (sp_row K) [] E0 (tCons (tVar 1) tNil)) tNil))) (tCons (tTup (tCons (tC (.str "connections")) (tCons (tCall (sp_row K) [] E0 (tCons (tVar 2) tNil)) tNil))) (tCons (tTup (tCons (tC (.str "records")) (tCons (tCall (sp_row K) [] E0 (tCons (tVar 3) tNil)) tNil))) tNil))))) tNil))))))
section
variable {P : Program} {w : World} {K : PySem.W.Frag} {mg : Str → Option Value} {base : Heap}
theorem pure_state_of (T : Tx K mg) (vs : List V) (H : Hp) (Q : VK) (E : XK) (h : sp_state_of K vs H Q E) : t_state_of K { nx := fun _ H' => Q .non H', rt := Q } (start ["door", "remembered", "connections", "records", "own"] vs) H := by
  obtain ⟨_, m, d, g, rfl, hd, hm, q⟩ := h
  have ho := hd.obj
  obtain ⟨es, hc, hl⟩ := hd.rem
  obtain ⟨rs, hrc, hrl⟩ := hd.rec_
  obtain ⟨cs, hcc, hcl⟩ := hd.con
  have n1 := hd.n1
  have n2 := hd.n2
  have n3 := hd.n3
  unfold t_state_of
  walk_at "ev"
  refine ⟨d.rem, rfl, ⟨_, sq_of hc⟩, lc_all (K := K) g.entries walk_list (by rw [List.length_map, hl.len]) (by rw [List.length_map, ← hl.len]; omega) (fun _ => true) (fun e y H => ∃ t, y = V.ref t ∧ VAt K H (Rust.given (R7293g.Spec.entryPlain e)) t) (fun H1 e => ex_l e (sq_of hc)) (fun e y H1 H2 h t => (by obtain ⟨z, e, h⟩ := h; exact ⟨z, e, VAt.mono t _ _ h⟩)) (fun i c x H1 H2 k1 k2 hi e hy f1 f2 => ?_) (fun D1 H1 acc hD e hx ha => ?_)⟩
  · obtain ⟨rfl, hx⟩ := hy
    obtain ⟨b, hb, rfl⟩ := map_get hx
    obtain ⟨c', hc', pc⟩ := hl.get hb
    rw [hi] at hc'
    cases hc'
    obtain ⟨kx, pc⟩ := pc.ex e
    refine ⟨rfl, ?_⟩
    walk_at "ev"
    rename_i t1 H3 ht1 x3 h3 t2 H4 ht2 x4 h4
    refine ⟨rfl, t1, t2, [("address", c.address), ("number", c.number), ("offer", c.offer), ("period", c.period), ("answer", c.answer)], rfl, st_of (x4 _ _ h3), st_of h4, (by show (5 : Nat) ≤ 1000; decide), (by kernel_rfl), fun a H5 ha x5 h5 => ?_⟩
    refine f1 rfl _ _ (x3.trans (x4.trans x5)) ⟨a, rfl, ?_⟩
    rw [giv_entry]
    exact h5
  rw [fil_yes] at ha
  obtain ⟨xs1, rfl, hv1⟩ := all2_vals ha
  have ho1 := e _ _ ho
  have hcc1 := e _ _ hcc
  walk_at "ev"
  refine ⟨d.con, rfl, ⟨_, sq_of hcc1⟩, lc_all (K := K) g.conns walk_list (by rw [List.length_map, hcl.len]) (by rw [List.length_map, ← hcl.len]; omega) (fun _ => true) (fun e y H => ∃ t, y = V.ref t ∧ VAt K H (Rust.given (R7293g.Spec.connPlain e)) t) (fun H1 e => ex_l e (sq_of hcc1)) (fun e y H1 H2 h t => (by obtain ⟨z, e, h⟩ := h; exact ⟨z, e, VAt.mono t _ _ h⟩)) (fun i c x H2 H3 k1 k2 hi e2 hy f1 f2 => ?_) (fun D2 H2 acc hD2 e2 hx2 ha2 => ?_)⟩
  · obtain ⟨rfl, hx⟩ := hy
    obtain ⟨b, hb, rfl⟩ := map_get hx
    obtain ⟨c', hc', pc⟩ := hcl.get hb
    rw [hi] at hc'
    cases hc'
    have pc := e2 _ _ (e _ _ pc)
    refine ⟨rfl, ?_⟩
    walk_at "ev"
    rename_i t1 H4 ht1 x4 h4
    refine ⟨rfl, t1, b, [("address", c.address), ("number", c.number), ("offer", c.offer)], rfl, st_of h4, st_of (x4 _ _ pc), (by show (3 : Nat) ≤ 1000; decide), (by kernel_rfl), fun a H5 ha x5 h5 => ?_⟩
    refine f1 rfl _ _ (x4.trans x5) ⟨a, rfl, ?_⟩
    rw [giv_conn]
    exact h5
  rw [fil_yes] at ha2
  obtain ⟨xs2, rfl, hv2⟩ := all2_vals ha2
  have ho2 := e2 _ _ ho1
  have hrc2 := e2 _ _ (e _ _ hrc)
  walk_at "ev"
  refine ⟨d.rec_, rfl, ⟨_, sq_of hrc2⟩, lc_all (K := K) g.records walk_list (by rw [List.length_map, hrl.len]) (by rw [List.length_map, ← hrl.len]; omega) (fun _ => true) (fun e y H => ∃ t, y = V.ref t ∧ VAt K H (Rust.given (R7293g.Spec.recordPlain e)) t) (fun H1 e => ex_l e (sq_of hrc2)) (fun e y H1 H2 h t => (by obtain ⟨z, e, h⟩ := h; exact ⟨z, e, VAt.mono t _ _ h⟩)) (fun i c x H3 H4 k1 k2 hi e3 hy f1 f2 => ?_) (fun D3 H3 acc hD3 e3 hx3 ha3 => ?_)⟩
  · obtain ⟨rfl, hx⟩ := hy
    obtain ⟨b, hb, rfl⟩ := map_get hx
    obtain ⟨c', hc', pc⟩ := hrl.get hb
    rw [hi] at hc'
    cases hc'
    have pc := e3 _ _ (e2 _ _ (e _ _ pc))
    refine ⟨rfl, ?_⟩
    walk_at "ev"
    rename_i t1 H4 ht1 x4 h4
    refine ⟨rfl, t1, b, [("address", c.address), ("number", c.number), ("until", c.until_)], rfl, st_of h4, st_of (x4 _ _ pc), (by show (3 : Nat) ≤ 1000; decide), (by kernel_rfl), fun a H5 ha x5 h5 => ?_⟩
    refine f1 rfl _ _ (x4.trans x5) ⟨a, rfl, ?_⟩
    rw [giv_rec]
    exact h5
  rw [fil_yes] at ha3
  obtain ⟨xs3, rfl, hv3⟩ := all2_vals ha3
  have ho3 := e3 _ _ ho2
  walk_at "ev"
  refine ⟨rfl, _, rfl, fun a1 H4 _ x4 v1 => ?_⟩
  walk_at "ev"
  rename_i t1 H5 _ x5 h5
  refine ⟨rfl, D1, _, xs1, rfl, sq_of (x5 _ _ (x4 _ _ (e3 _ _ (e2 _ _ hx)))), VAll.mono (TX.of (Ex.trans e2 (Ex.trans e3 (Ex.trans x4 x5)))) _ _ hv1, fun a2 H6 _ x6 v2 => ?_⟩
  walk_at "ev"
  rename_i t2 H7 _ x7 h7
  refine ⟨rfl, D2, _, xs2, rfl, sq_of (x7 _ _ (x6 _ _ (x5 _ _ (x4 _ _ (e3 _ _ hx2))))), VAll.mono (TX.of (Ex.trans e3 (Ex.trans x4 (Ex.trans x5 (Ex.trans x6 x7))))) _ _ hv2, fun a3 H8 _ x8 v3 => ?_⟩
  walk_at "ev"
  rename_i t3 H9 _ x9 h9
  refine ⟨rfl, D3, _, xs3, rfl, sq_of (x9 _ _ (x8 _ _ (x7 _ _ (x6 _ _ (x5 _ _ (x4 _ _ hx3)))))), VAll.mono (TX.of (Ex.trans x4 (Ex.trans x5 (Ex.trans x6 (Ex.trans x7 (Ex.trans x8 x9)))))) _ _ hv3, fun a4 H10 _ x10 v4 => ?_⟩
  walk_at "ev"
  rename_i t4 H11 _ x11 h11 l H12 _ x12 h12
  have y9 := Ex.trans x10 (Ex.trans x11 x12)
  have y7 := Ex.trans x8 (Ex.trans x9 y9)
  have y5 := Ex.trans x6 (Ex.trans x7 y7)
  refine ⟨rfl, l, [("period", _), ("remembered", _), ("connections", _), ("records", _)], _, rfl, sq_of h12, ⟨⟨t1, a1, rfl, st_of (y5 _ _ h5), v1.ex (Ex.trans x5 y5), (of_decide_eq_true (by kernel_rfl))⟩, ⟨t2, a2, rfl, st_of (y7 _ _ h7), v2.ex (Ex.trans x7 y7), (of_decide_eq_true (by kernel_rfl))⟩, ⟨t3, a3, rfl, st_of (y9 _ _ h9), v3.ex (Ex.trans x9 y9), (of_decide_eq_true (by kernel_rfl))⟩, ⟨t4, a4, rfl, st_of (x12 _ _ h11), v4.ex (Ex.trans x11 x12), (of_decide_eq_true (by kernel_rfl))⟩, trivial⟩, (by kernel_rfl), (by show (4 : Nat) ≤ 1000; decide), fun a H13 _ x13 v => ?_⟩
  refine q a H13 (Ex.trans e (Ex.trans e2 (Ex.trans e3 (Ex.trans x4 (Ex.trans x5 (Ex.trans y5 x13)))))) ?_
  rw [giv_state]
  exact v
theorem ok_state_of (T : Tx K mg) : Pk P w K mg base CX0 "state_of" ["door"] 4 (sp_state_of K) := by
  obtain ⟨fd, F⟩ := T.fn 28 (p := ("state_of", none)) (n := "state_of") (q := "state_of") (st := s_state_of)
  refine ⟨⟨_, fd, T.glo 28, F.kp, F.bindsN fun _ _ _ _ _ _ us hl => match us, hl with | [_], _ => rfl, F.ok sc_state_of (fun _ _ _ _ h => h.1) fun cdv A outer s H vs Q E hr h => ⟨t_state_of K, PSs.nox ?_, pure_state_of T vs H Q E h⟩⟩⟩
  exact (pss_cons (ps_setLc (i := 1) (own := [("own", 4)]) (g := (gName 4)) (tt := tYes) rfl sc_state_of.nd rfl rfl (sw_true rfl rfl rfl (by decide +kernel)) (pi_list (pe_fld (pv 0) rfl)) (blkOk_by (own := [("own", 4)]) (N := ["door", "remembered", "connections", "records", "own"]) (sc := defScope s_state_of) (by decide +kernel)) (fun _ _ _ _ _ => (pg_name (i := 4) sc_state_of.nd rfl (Or.inl rfl))) (fun _ _ _ _ _ => pts_nil) (fun _ _ _ _ _ => (pe_pk (ok_numbers_record T) (hr.mono (by decide)) pass0 (pa_cons (pe_tup (pa_cons pe_str (pa_cons pe_str (pa_cons pe_str (pa_cons pe_str (pa_cons pe_str pa_nil)))))) (pa_cons (pe_tup (pa_cons (pe_fld (pv 4) rfl) (pa_cons (pe_fld (pv 4) rfl) (pa_cons (pe_fld (pv 4) rfl) (pa_cons (pe_fld (pv 4) rfl) (pa_cons (pe_fld (pv 4) rfl) pa_nil)))))) pa_nil)))))
    (pss_cons (ps_setLc (i := 2) (own := [("own", 4)]) (g := (gName 4)) (tt := tYes) rfl sc_state_of.nd rfl rfl (sw_true rfl rfl rfl (by decide +kernel)) (pi_list (pe_fld (pv 0) rfl)) (blkOk_by (own := [("own", 4)]) (N := ["door", "remembered", "connections", "records", "own"]) (sc := defScope s_state_of) (by decide +kernel)) (fun _ _ _ _ _ => (pg_name (i := 4) sc_state_of.nd rfl (Or.inl rfl))) (fun _ _ _ _ _ => pts_nil) (fun _ _ _ _ _ => (pe_pk (ok_numbers_record T) (hr.mono (by decide)) pass0 (pa_cons (pe_tup (pa_cons pe_str (pa_cons pe_str (pa_cons pe_str pa_nil)))) (pa_cons (pv 4) pa_nil)))))
    (pss_cons (ps_setLc (i := 3) (own := [("own", 4)]) (g := (gName 4)) (tt := tYes) rfl sc_state_of.nd rfl rfl (sw_true rfl rfl rfl (by decide +kernel)) (pi_list (pe_fld (pv 0) rfl)) (blkOk_by (own := [("own", 4)]) (N := ["door", "remembered", "connections", "records", "own"]) (sc := defScope s_state_of) (by decide +kernel)) (fun _ _ _ _ _ => (pg_name (i := 4) sc_state_of.nd rfl (Or.inl rfl))) (fun _ _ _ _ _ => pts_nil) (fun _ _ _ _ _ => (pe_pk (ok_numbers_record T) (hr.mono (by decide)) pass0 (pa_cons (pe_tup (pa_cons pe_str (pa_cons pe_str (pa_cons pe_str pa_nil)))) (pa_cons (pv 4) pa_nil)))))
    (pss_one (ps_ret (pe_pk (ok_record T) (hr.mono (by decide)) pass0 (pa_cons (pe_lst (pa_cons (pe_tup (pa_cons pe_str (pa_cons (pe_pk (ok_integer T) (hr.mono (by decide)) pass0 (pa_cons (pe_fld (pv 0) rfl) pa_nil)) pa_nil))) (pa_cons (pe_tup (pa_cons pe_str (pa_cons (pe_pk (ok_row T) (hr.mono (by decide)) pass0 (pa_cons (pv 1) pa_nil)) pa_nil))) (pa_cons (pe_tup (pa_cons pe_str (pa_cons (pe_pk (ok_row T) (hr.mono (by decide)) pass0 (pa_cons (pv 2) pa_nil)) pa_nil))) (pa_cons (pe_tup (pa_cons pe_str (pa_cons (pe_pk (ok_row T) (hr.mono (by decide)) pass0 (pa_cons (pv 3) pa_nil)) pa_nil))) pa_nil))))) pa_nil)))))))
end
end Dk
namespace Dk
open PySem PySem.Spec PyProof.Rows L2 Evl RZ
local macro_rules | `(tactic| walk_at "hp") => `(tactic| first | assumption | exact L2.upd_same | (apply Dk.Ex.at (by assumption); walk_at "hp"))
local macro_rules | `(tactic| walk_at "hq") => `(tactic| first | assumption | (apply Evl.sq_of; walk_at "hp") | (apply Evl.st_of; walk_at "hp") | (apply Evl.ex_l (by assumption); walk_at "hq") | (apply Evl.ex_t (by assumption); walk_at "hq"))
local macro_rules | `(tactic| walk_at "ex") => `(tactic| first | exact Evl.Ex.refl _ | assumption | (refine Evl.Ex.trans ?_ (by assumption); walk_at "ex"))
local macro_rules | `(tactic| walk_at "e1") => `(tactic| first
  | (with_reducible refine if_t ?_) | (with_reducible refine if_f ?_) | (with_reducible refine s_seq ?_) | (with_reducible refine s_asg ?_) | (with_reducible refine s_name ?_) | (with_reducible refine s_drop ?_) | (with_reducible refine s_ret ?_) | (with_reducible refine s_nil ?_) | (with_reducible refine s_cons ?_)
  | (with_reducible refine s_c ?_)
  | ((with_reducible refine' s_var ?h1 ?_); (case h1 => rfl))
  | (with_reducible refine s_op ?_) | (with_reducible refine s_call ?_) | (with_reducible refine s_cb ?_) | (with_reducible refine s_fld ?_) | (with_reducible refine s_tup ?_) | (with_reducible refine s_lst ?_) | (with_reducible refine s_meth ?_) | (with_reducible refine s_test ?_) | (with_reducible refine s_B ?_)
  | (with_reducible refine s_not ?_) | (with_reducible refine s_xb ?_) | (with_reducible refine s_if ?_) | (with_reducible refine s_ifS ?_) | (with_reducible refine s_next ?_) | (with_reducible refine s_sfld ?_)
  | (with_reducible refine s_I0 ?_) | ((with_reducible refine' s_I ?h1 ?_); (case h1 => first | exact ⟨by decide, by decide⟩ | exact .inr ⟨by decide, by decide⟩ | (show (0 : Int) < _; decide) | (show (0 : Int) ≤ _; first | decide | omega) | exact ⟨by omega, by omega⟩))
  | ((with_reducible refine' s_xf ?h1 ?h2 ?h3 ?h4 ?_); (case h1 => walk_at "hp"); (case h2 => exact Tx.clsK (by assumption) (by decide +kernel)); (case h3 => exact Tx.noatK (by assumption) (by decide +kernel)); (case h4 => rfl))
  | ((with_reducible refine' s_xs ?h1 ?h2 ?h3 ?h4 ?h5 ?_); (case h1 => walk_at "hp"); (case h2 => exact Tx.clsK (by assumption) (by decide +kernel)); (case h3 => exact Tx.noatK (by assumption) (by decide +kernel)); (case h4 => exact Dk.lt_ble rfl); (case h5 => rfl))
  | ((with_reducible refine' s_eq ?h1 ?_); (case h1 => rfl)) | ((with_reducible refine' s_ne ?h1 ?_); (case h1 => rfl)) | (with_reducible refine s_isN ?_)
  | ((with_reducible refine' s_xt ?h1 ?_); (case h1 => exact Nat.le_of_ble_eq_true rfl); intro _ _ _ _ _)
  | ((with_reducible refine' s_xl ?h1 ?_); (case h1 => exact Nat.le_of_ble_eq_true rfl); intro _ _ _ _ _)
  | ((with_reducible refine' s_lenL ?h1 ?_); (case h1 => walk_at "hq")) | ((with_reducible refine' s_lenT ?h1 ?_); (case h1 => walk_at "hq"))
  | ((with_reducible refine' s_ixL ?h1 ?h2 ?_); (case h1 => walk_at "hq"); (case h2 => first | assumption | exact atI_0 | exact atI_1 | rfl))
  | ((with_reducible refine' s_ixT ?h1 ?h2 ?_); (case h1 => walk_at "hq"); (case h2 => first | assumption | exact atI_0 | exact atI_1 | rfl))
  | (with_reducible refine s_or ?_) | (with_reducible refine s_and ?_)
  | ((with_reducible refine' s_nin ?h1 ?h2 ?h3 ?_); (case h1 => walk_at "hq"); (case h2 => rfl); (case h3 => rfl))
  | (with_reducible refine s_tru ?_)
  | (with_reducible refine s_ip ?_) | (with_reducible refine s_for1 ?_) | (with_reducible refine s_for2 ?_) | (with_reducible refine s_for3 ?_) | (with_reducible refine s_forL ?_) | (with_reducible refine s_forT ?_) | (with_reducible refine s_lcL ?_) | (with_reducible refine s_lcT ?_) | (with_reducible refine s_lcS ?_) | (with_reducible refine s_lcE ?_) | (with_reducible refine s_lcZ ?_) | (with_reducible refine s_lcZA ?_) | (with_reducible refine s_lcR ?_) | (with_reducible refine s_chain ?_) | (with_reducible refine s_av ?_) | (with_reducible refine s_ov ?_) | (with_reducible refine s_yes ?_) | (with_reducible refine s_tbm ?_) | (with_reducible refine s_ord ?_) | (with_reducible refine s_raise ?_) | (with_reducible refine s_fldaug ?_) | (with_reducible refine s_add ?_) | (with_reducible refine s_slc ?_) | (with_reducible refine s_part ?_) | (with_reducible refine x_p1 ?_) | (with_reducible refine s_nopart ?_)
  | ((with_reducible refine' x_bm ?h1 ?_); (case h1 => walk_at "hq")) | (with_reducible refine s_par1 ?_) | (with_reducible refine s_un ?_) | (with_reducible refine s_uI ?_))
local macro_rules | `(tactic| walk_at "ev") => `(tactic| repeat walk_at "e1")
/-! ### on_door -/
abbrev s_on_door : Stmt := top 54
theorem sc_on_door : FnScope ["number", "door", "a", "found", "address", "own"] ["number", "door", "a"] (defScope s_on_door) := ⟨rfl, rfl, rfl, by decide +kernel, rfl, by decide +kernel, by decide +kernel⟩
section
open R7293g.Spec
def doorFn (number : Nat) (g : Gate) (x y z : RWire.Value) : Res (Gate × Plain) :=
  if number = 3 then doorKnockFn g (Rust.taken x) (Rust.taken y) (Rust.taken z)
  else if number = 4 then doorBackFn g (Rust.taken x) (Rust.taken y) (Rust.taken z)
  else if number = 5 then doorCloseFn g (Rust.taken x)
  else if number = 6 then doorNextFn g
  else if number = 8 then .ok (g, statePlain g)
  else andThen (doorReadFn g (Rust.taken x)) fun p => .ok (g, p)
theorem out_knock {β : Type} {K : PySem.W.Frag} {E : XK} {H : Hp} {x y z : Plain} {f : Nat × Nat × Nat → Res β} {ok : β → Prop} (h : Out K E H (andThen (knockArgs x y z) f) ok) :
    Out K E H (andThen (addressArg x) fun a => andThen (numberArg y) fun n => .ok (a, n)) fun r => Out K E H (offerArg z) fun o => Out K E H (f (r.1, r.2, o)) ok := by
  unfold knockArgs at h
  cases h1 : addressArg x with
  | error e => rw [h1] at h; exact h
  | ok a =>
    rw [h1] at h
    cases h2 : numberArg y with
    | error e =>
      have h : Out K E H (andThen (andThen (numberArg y) fun n => andThen (offerArg z) fun o => .ok (a, n, o)) f) ok := h
      rw [h2] at h
      exact h
    | ok n =>
      have h : Out K E H (andThen (andThen (numberArg y) fun n => andThen (offerArg z) fun o => .ok (a, n, o)) f) ok := h
      rw [h2] at h
      show Out K E H (offerArg z) _
      have h : Out K E H (andThen (andThen (offerArg z) fun o => .ok (a, n, o)) f) ok := h
      cases h3 : offerArg z with
      | error e => rw [h3] at h; exact h
      | ok o => rw [h3] at h; exact h
theorem out_back {β : Type} {K : PySem.W.Frag} {E : XK} {H : Hp} {x y z : Plain} {f : Nat × Nat × Nat → Res β} {ok : β → Prop} (h : Out K E H (andThen (backArgs x y z) f) ok) :
    Out K E H (andThen (addressArg x) fun a => andThen (numberArg y) fun n => .ok (a, n)) fun r => Out K E H (answerArg z) fun o => Out K E H (f (r.1, r.2, o)) ok := by
  unfold backArgs at h
  cases h1 : addressArg x with
  | error e => rw [h1] at h; exact h
  | ok a =>
    rw [h1] at h
    cases h2 : numberArg y with
    | error e =>
      have h : Out K E H (andThen (andThen (numberArg y) fun n => andThen (answerArg z) fun o => .ok (a, n, o)) f) ok := h
      rw [h2] at h
      exact h
    | ok n =>
      have h : Out K E H (andThen (andThen (numberArg y) fun n => andThen (answerArg z) fun o => .ok (a, n, o)) f) ok := h
      rw [h2] at h
      show Out K E H (answerArg z) _
      have h : Out K E H (andThen (andThen (answerArg z) fun o => .ok (a, n, o)) f) ok := h
      cases h3 : answerArg z with
      | error e => rw [h3] at h; exact h
      | ok o => rw [h3] at h; exact h
theorem giv_knock (g : Gate) (a n o : Nat) : (if g.hears a n then ((g.answer a n o).1, nat (g.answer a n o).2) else (g, .null)) = ((knockOf g a n o).1, match (knockOf g a n o).2 with | none => .null | some y => nat y) := by
  unfold knockOf
  cases g.hears a n <;> rfl
theorem giv_opt (o : Option Nat) : Rust.given (match o with | none => Plain.null | some y => nat y) = optW o := by
  cases o <;> rfl
end
def sp_on_door (K : PySem.W.Frag) : Sp := fun vs H Q E => vs.length = 3 ∧ ∃ m d g number p x y z, vs = [natV number, .ref d.a, .ref p] ∧ DoorAt K H m d g ∧ m < 1000 ∧ Args K H p [x, y, z] ∧
  Out K E H (doorFn number g x y z) fun r => ∀ d' H' a, DoorAt K H' (m + 1) d' r.1 → DFr H H' d d' → VAt K H' (Rust.given r.2) a → Q (.ref a) H'
def t_on_door (K : PySem.W.Frag) (E : XK) : TS :=
  (tSeq (tIfS (tTest (tOp rEq (tVar 0) (tC (.int 3)))) (tSeq (tAsg (tCall (sp_knocker K) [] E (tCons (tVar 2) tNil)) (gTup K 2 (gCons (gName 4) (gCons (gName 5) gNil))))
  (tRet (tCall (sp_number_or_null K) [] E0 (tCons (tMeth (cA K "Door") "knock" (sp_Door_knock K) [] E0 (tVar 1) (tCons (tVar 4) (tCons (tVar 5) (tCons (tCall (sp_number_for K) [] E (tCons (tOp (rIxL K) (tVar 2) (tC (.int 2))) (tCons (tC (.str "offer")) (tCons (tC (.int 65535)) tNil)))) tNil)))) tNil)))) tNext)
  (tSeq (tIfS (tTest (tOp rEq (tVar 0) (tC (.int 4)))) (tSeq (tAsg (tCall (sp_knocker K) [] E (tCons (tVar 2) tNil)) (gTup K 2 (gCons (gName 4) (gCons (gName 5) gNil))))
  (tRet (tCall (sp_text K) [] E0 (tCons (tMeth (cA K "Door") "back" (sp_Door_back K) [] E0 (tVar 1) (tCons (tVar 4) (tCons (tVar 5) (tCons (tCall (sp_number_for K) [] E (tCons (tOp (rIxL K) (tVar 2) (tC (.int 2))) (tCons (tC (.str "answer")) (tCons (tC (.int 9007199254740991)) tNil)))) tNil)))) tNil)))) tNext)
  (tSeq (tIfS (tTest (tOp rEq (tVar 0) (tC (.int 5)))) (tRet (tCall (sp_boolean K) [] E0 (tCons (tMeth (cA K "Door") "close" (sp_Door_close K) [] E0 (tVar 1) (tCons (tCall (sp_address_of K) [] E (tCons (tOp (rIxL K) (tVar 2) (tC (.int 0))) tNil)) tNil)) tNil))) tNext)
  (tSeq (tIfS (tTest (tOp rEq (tVar 0) (tC (.int 6)))) (tRet (tCall (sp_integer K) [] E0 (tCons (tMeth (cA K "Door") "go_on" (sp_Door_go_on K) [] E0 (tVar 1) tNil) tNil))) tNext)
  (tSeq (tIfS (tTest (tOp rEq (tVar 0) (tC (.int 8)))) (tRet (tCall (sp_state_of K) [] E0 (tCons (tVar 1) tNil))) tNext)
  (tSeq (tAsg (tMeth (cA K "Door") "read" (sp_Door_read K) [] E0 (tVar 1) (tCons (tCall (sp_number_for K) [] E (tCons (tOp (rIxL K) (tVar 2) (tC (.int 0))) (tCons (tC (.str "answer")) (tCons (tC (.int 9007199254740991)) tNil)))) tNil)) (gName 3))
  (tSeq (tIfS (tTest (tOp rIsN (tVar 3) (tC .non))) (tRet (tC (.ref (cA K "NULL")))) tNext)
  (tRet (tCall (sp_numbers_record K) [] E0 (tCons (tTup (tCons (tC (.str "period")) (tCons (tC (.str "address")) (tCons (tC (.str "number")) (tCons (tC (.str "class")) tNil))))) (tCons (tTup (tCons (tFld K (tVar 3) "period") (tCons (tFld K (tVar 3) "address") (tCons (tFld K (tVar 3) "number") (tCons (tFld K (tVar 3) "place") tNil))))) tNil)))))))))))
section
variable {P : Program} {w : World} {K : PySem.W.Frag} {mg : Str → Option Value} {base : Heap}
theorem pure_on_door (T : Tx K mg) (vs : List V) (H : Hp) (Q : VK) (E : XK) (h : sp_on_door K vs H Q E) : t_on_door K E { nx := fun _ H' => Q .non H', rt := Q } (start ["number", "door", "a", "found", "address", "own"] vs) H := by
  obtain ⟨_, m, d, g, number, p, x, y, z, rfl, hd, hm, hA, q⟩ := h
  have ho := hd.obj
  unfold t_on_door
  walk_at "ev"
  refine ite_num (k := 3) (fun e => ?_) (fun e3 => ?_)
  · subst e
    have q := out_knock (show Out K E H (R7293g.Spec.andThen _ _) _ from q)
    walk_at "ev"
    refine ⟨rfl, p, x, y, [z], rfl, hA, q.mono (Ex.refl H) fun r _ q t H1 x1 h1 => ?_⟩
    refine s_pair (st_of h1) ?_
    obtain ⟨zs, b, g1, g2, g3⟩ := (hA.ex x1).get (i := 2) rfl
    walk_at "ev"
    refine s_xm (x1 _ _ ho) rfl ?_
    walk_at "ev"
    refine ⟨rfl, b, z, "offer", 65535, R7293g.Spec.typeErr "offer must be an integer from 0 to 65535", rfl, g3, ⟨by decide +kernel, by decide +kernel, by decide +kernel⟩, err_ok rfl (by decide +kernel), q.mono x1 fun o _ q => ?_⟩
    walk_at "ev"
    refine ⟨rfl, m, d, g, r.1, r.2, o, rfl, hd.ex x1, hm, fun d' H2 hd2 fr2 => ?_⟩
    walk_at "ev"
    refine ⟨rfl, _, rfl, fun a H3 x3 v3 => ?_⟩
    rw [giv_knock] at q
    refine q d' H3 a (hd2.ex x3) ((fr2.pre x1).post x3) ?_
    rw [giv_opt]
    exact v3
  walk_at "ev"
  refine ite_num (k := 4) (fun e => ?_) (fun e4 => ?_)
  · subst e
    have q := out_back (show Out K E H (R7293g.Spec.andThen _ _) _ from q)
    walk_at "ev"
    refine ⟨rfl, p, x, y, [z], rfl, hA, q.mono (Ex.refl H) fun r _ q t H1 x1 h1 => ?_⟩
    refine s_pair (st_of h1) ?_
    obtain ⟨zs, b, g1, g2, g3⟩ := (hA.ex x1).get (i := 2) rfl
    walk_at "ev"
    refine s_xm (x1 _ _ ho) rfl ?_
    walk_at "ev"
    refine ⟨rfl, b, z, "answer", 9007199254740991, R7293g.Spec.typeErr "answer must be an integer from 0 to 9007199254740991", rfl, g3, ⟨by decide +kernel, by decide +kernel, by decide +kernel⟩, err_ok rfl (by decide +kernel), q.mono x1 fun o _ q => ?_⟩
    walk_at "ev"
    refine ⟨rfl, m, d, g, r.1, r.2, o, rfl, hd.ex x1, hm, fun d' H2 hd2 fr2 => ?_⟩
    walk_at "ev"
    refine ⟨rfl, _, rfl, (ver_fine _).2, fun a p2 H3 _ x3 v3 v4 => ?_⟩
    refine q d' H3 a (hd2.ex x3) ((fr2.pre x1).post x3) ?_
    rw [giv_ver]
    unfold VAt
    rw [codes_octs (ver_fine _).1] at v4
    exact ⟨p2, v3, v4⟩
  walk_at "ev"
  refine ite_num (k := 5) (fun e => ?_) (fun e5 => ?_)
  · subst e
    have q := out_bind (show Out K E H (R7293g.Spec.andThen _ _) _ from q)
    obtain ⟨zs, b, g1, g2, g3⟩ := hA.get (i := 0) rfl
    walk_at "ev"
    refine s_xm ho rfl ?_
    walk_at "ev"
    refine ⟨rfl, b, x, rfl, g3, q.mono (Ex.refl H) fun a _ q => ?_⟩
    walk_at "ev"
    refine ⟨rfl, m, d, g, a, rfl, hd, hm, fun d' H2 hd2 fr2 => ?_⟩
    walk_at "ev"
    refine ⟨rfl, _, rfl, fun b H3 _ x3 v3 => ?_⟩
    exact q d' H3 b (hd2.ex x3) (fr2.post x3) v3
  walk_at "ev"
  refine ite_num (k := 6) (fun e => ?_) (fun e6 => ?_)
  · subst e
    walk_at "ev"
    refine s_xm ho rfl ?_
    walk_at "ev"
    refine ⟨rfl, m, d, g, rfl, hd, hm, fun d' H2 hd2 fr2 => ?_⟩
    walk_at "ev"
    refine ⟨rfl, _, rfl, fun b H3 _ x3 v3 => ?_⟩
    exact q d' H3 b (hd2.ex x3) (fr2.post x3) v3
  walk_at "ev"
  refine ite_num (k := 8) (fun e => ?_) (fun e8 => ?_)
  · subst e
    walk_at "ev"
    refine ⟨rfl, m, d, g, rfl, hd, by omega, fun b H3 x3 v3 => ?_⟩
    exact q d H3 b (hd.ex x3).up (DFr.of x3) v3
  have q : Out K E H (R7293g.Spec.andThen (R7293g.Spec.doorReadFn g (Rust.taken x)) fun p => .ok (g, p)) fun r => ∀ d' H' a, DoorAt K H' (m + 1) d' r.1 → DFr H H' d d' → VAt K H' (Rust.given r.2) a → Q (.ref a) H' := by
    unfold doorFn at q
    rw [if_neg e3, if_neg e4, if_neg e5, if_neg e6, if_neg e8] at q
    exact q
  have q := out_bind (show Out K E H (R7293g.Spec.andThen _ _) _ from out_bind q)
  obtain ⟨zs, b, g1, g2, g3⟩ := hA.get (i := 0) rfl
  walk_at "ev"
  refine s_xm ho rfl ?_
  walk_at "ev"
  refine ⟨rfl, b, x, "answer", 9007199254740991, R7293g.Spec.typeErr "answer must be an integer from 0 to 9007199254740991", rfl, g3, ⟨by decide +kernel, by decide +kernel, by decide +kernel⟩, err_ok rfl (by decide +kernel), q.mono (Ex.refl H) fun o _ q => ?_⟩
  walk_at "ev"
  have q : ∀ d' H' a, DoorAt K H' (m + 1) d' g → DFr H H' d d' → VAt K H' (Rust.given (((R7293g.Spec.readCode g.secret g.period o).map R7293g.Spec.saidPlain).getD .null)) a → Q (.ref a) H' := q
  refine ⟨rfl, m, d, g, o, rfl, hd, fun hr H1 x1 => ?_, fun s hr w dx H1 hw x1 h1 => ?_⟩
  · rw [hr] at q
    walk_at "ev"
    refine if_t ?_
    walk_at "ev"
    refine q d H1 _ (hd.ex x1).up (DFr.of x1) ?_
    show VAt K H1 .null _
    unfold VAt
    exact He.tupB_ok (T.ex 1) H1
  · rw [hr] at q
    walk_at "ev"
    refine if_f ?_
    walk_at "ev"
    rename_i t1 H2 _ x2 h2 t2 H3 _ x3 h3
    refine ⟨rfl, t1, t2, [("period", s.period), ("address", s.address), ("number", s.number), ("class", s.cls)], rfl, st_of (x3 _ _ h2), st_of h3, (by show (4 : Nat) ≤ 1000; decide), (by kernel_rfl), fun b H4 _ x4 v4 => ?_⟩
    have y4 := Ex.trans x1 (Ex.trans x2 (Ex.trans x3 x4))
    refine q d H4 b (hd.ex y4).up (DFr.of y4) ?_
    show VAt K H4 (Rust.given (R7293g.Spec.saidPlain s)) b
    rw [giv_said]
    exact v4
theorem ok_on_door (T : Tx K mg) : Pk P w K mg base (L2N.CX P w) "on_door" ["number", "door", "a"] 7 (sp_on_door K) := by
  obtain ⟨fd, F⟩ := T.fn 30 (p := ("on_door", none)) (n := "on_door") (q := "on_door") (st := s_on_door)
  refine ⟨⟨_, fd, T.glo 30, F.kp, F.bindsN fun _ _ _ _ _ _ us hl => match us, hl with | [_, _, _], _ => rfl, F.ok sc_on_door (fun _ _ _ _ h => h.1) fun cdv A outer s H vs Q E hr h => ⟨t_on_door K E, ?_, pure_on_door T vs H Q E h⟩⟩⟩
  exact (pss_cons (ps_if (pt_cmpR op_eq (pv 0) pe_int (nomark _)) (pss_cons (ps_asg (pe_pk (ok_knocker T) (hr.mono (by decide)) (L2N.passes_call (L2N.takes_of rfl rfl rfl rfl) fun _ _ _ _ h => h) (pa_cons (pv 2) pa_nil)) (pg_tup rfl (pgs_cons (pg_name (i := 4) sc_on_door.nd rfl (Or.inl rfl)) (pgs_cons (pg_name (i := 5) sc_on_door.nd rfl (Or.inl rfl)) pgs_nil))))
    (pss_one (ps_ret (pe_pk (ok_number_or_null T) (hr.mono (by decide)) pass0 (pa_cons (pe_mp (pv 1) (T.cls 77) (ok_Door_knock T) (hr.mono (by decide)) pass0 (pa_cons (pv 4) (pa_cons (pv 5) (pa_cons (pe_pk (ok_number_for T) (hr.mono (by decide)) (L2N.passes_call (L2N.takes_of rfl rfl rfl rfl) fun _ _ _ _ h => h) (pa_cons (pe_ix ix_list (pv 2) pe_int (fun _ _ => rfl)) (pa_cons pe_str (pa_cons (pe_gi (T.int 58)) pa_nil)))) pa_nil)))) pa_nil))))) pss_nil)
    (pss_cons (ps_if (pt_cmpR op_eq (pv 0) pe_int (nomark _)) (pss_cons (ps_asg (pe_pk (ok_knocker T) (hr.mono (by decide)) (L2N.passes_call (L2N.takes_of rfl rfl rfl rfl) fun _ _ _ _ h => h) (pa_cons (pv 2) pa_nil)) (pg_tup rfl (pgs_cons (pg_name (i := 4) sc_on_door.nd rfl (Or.inl rfl)) (pgs_cons (pg_name (i := 5) sc_on_door.nd rfl (Or.inl rfl)) pgs_nil))))
    (pss_one (ps_ret (pe_pk (ok_text T) (hr.mono (by decide)) pass0 (pa_cons (pe_mp (pv 1) (T.cls 77) (ok_Door_back T) (hr.mono (by decide)) pass0 (pa_cons (pv 4) (pa_cons (pv 5) (pa_cons (pe_pk (ok_number_for T) (hr.mono (by decide)) (L2N.passes_call (L2N.takes_of rfl rfl rfl rfl) fun _ _ _ _ h => h) (pa_cons (pe_ix ix_list (pv 2) pe_int (fun _ _ => rfl)) (pa_cons pe_str (pa_cons (pe_gi (T.int 59)) pa_nil)))) pa_nil)))) pa_nil))))) pss_nil)
    (pss_cons (ps_if (pt_cmpR op_eq (pv 0) pe_int (nomark _)) (pss_one (ps_ret (pe_pk (ok_boolean T) (hr.mono (by decide)) pass0 (pa_cons (pe_mp (pv 1) (T.cls 77) (ok_Door_close T) (hr.mono (by decide)) pass0 (pa_cons (pe_pk (ok_address_of T) (hr.mono (by decide)) (L2N.passes_call (L2N.takes_of rfl rfl rfl rfl) fun _ _ _ _ h => h) (pa_cons (pe_ix ix_list (pv 2) pe_int (fun _ _ => rfl)) pa_nil)) pa_nil)) pa_nil)))) pss_nil)
    (pss_cons (ps_if (pt_cmpR op_eq (pv 0) pe_int (nomark _)) (pss_one (ps_ret (pe_pk (ok_integer T) (hr.mono (by decide)) pass0 (pa_cons (pe_mp0 (pv 1) (T.cls 77) (ok_Door_go_on T) (hr.mono (by decide)) pass0) pa_nil)))) pss_nil)
    (pss_cons (ps_if (pt_cmpR op_eq (pv 0) pe_int (nomark _)) (pss_one (ps_ret (pe_pk (ok_state_of T) (hr.mono (by decide)) pass0 (pa_cons (pv 1) pa_nil)))) pss_nil)
    (pss_cons (ps_set (i := 3) sc_on_door.nd rfl (Or.inl rfl) (pe_mp (pv 1) (T.cls 77) (ok_Door_read T) (hr.mono (by decide)) pass0 (pa_cons (pe_pk (ok_number_for T) (hr.mono (by decide)) (L2N.passes_call (L2N.takes_of rfl rfl rfl rfl) fun _ _ _ _ h => h) (pa_cons (pe_ix ix_list (pv 2) pe_int (fun _ _ => rfl)) (pa_cons pe_str (pa_cons (pe_gi (T.int 59)) pa_nil)))) pa_nil)))
    (pss_cons (ps_if (pt_cmpR op_isN1 (pv 3) pe_non (nomark _)) (pss_one (ps_ret (pe_glob rfl (T.glo 36) rfl))) pss_nil)
    (pss_one (ps_ret (pe_pk (ok_numbers_record T) (hr.mono (by decide)) pass0 (pa_cons (pe_tup (pa_cons pe_str (pa_cons pe_str (pa_cons pe_str (pa_cons pe_str pa_nil))))) (pa_cons (pe_tup (pa_cons (pe_fld (pv 3) rfl) (pa_cons (pe_fld (pv 3) rfl) (pa_cons (pe_fld (pv 3) rfl) (pa_cons (pe_fld (pv 3) rfl) pa_nil))))) pa_nil))))))))))))
end
end Dk
namespace Dk
open PySem PySem.Spec PyProof.Rows L2 Evl RZ
local macro_rules | `(tactic| walk_at "hp") => `(tactic| first | assumption | exact L2.upd_same | (apply Dk.Ex.at (by assumption); walk_at "hp"))
local macro_rules | `(tactic| walk_at "hq") => `(tactic| first | assumption | (apply Evl.sq_of; walk_at "hp") | (apply Evl.st_of; walk_at "hp") | (apply Evl.ex_l (by assumption); walk_at "hq") | (apply Evl.ex_t (by assumption); walk_at "hq"))
local macro_rules | `(tactic| walk_at "ex") => `(tactic| first | exact Evl.Ex.refl _ | assumption | (refine Evl.Ex.trans ?_ (by assumption); walk_at "ex"))
local macro_rules | `(tactic| walk_at "e1") => `(tactic| first
  | (with_reducible refine if_t ?_) | (with_reducible refine if_f ?_) | (with_reducible refine s_seq ?_) | (with_reducible refine s_asg ?_) | (with_reducible refine s_name ?_) | (with_reducible refine s_drop ?_) | (with_reducible refine s_ret ?_) | (with_reducible refine s_nil ?_) | (with_reducible refine s_cons ?_)
  | (with_reducible refine s_c ?_)
  | ((with_reducible refine' s_var ?h1 ?_); (case h1 => rfl))
  | (with_reducible refine s_op ?_) | (with_reducible refine s_call ?_) | (with_reducible refine s_cb ?_) | (with_reducible refine s_fld ?_) | (with_reducible refine s_tup ?_) | (with_reducible refine s_lst ?_) | (with_reducible refine s_meth ?_) | (with_reducible refine s_test ?_) | (with_reducible refine s_B ?_)
  | (with_reducible refine s_not ?_) | (with_reducible refine s_xb ?_) | (with_reducible refine s_if ?_) | (with_reducible refine s_ifS ?_) | (with_reducible refine s_next ?_) | (with_reducible refine s_sfld ?_)
  | (with_reducible refine s_I0 ?_) | ((with_reducible refine' s_I ?h1 ?_); (case h1 => first | exact ⟨by decide, by decide⟩ | exact .inr ⟨by decide, by decide⟩ | (show (0 : Int) < _; decide) | (show (0 : Int) ≤ _; first | decide | omega) | exact ⟨by omega, by omega⟩))
  | ((with_reducible refine' s_xf ?h1 ?h2 ?h3 ?h4 ?_); (case h1 => walk_at "hp"); (case h2 => exact Tx.clsK (by assumption) (by decide +kernel)); (case h3 => exact Tx.noatK (by assumption) (by decide +kernel)); (case h4 => rfl))
  | ((with_reducible refine' s_xs ?h1 ?h2 ?h3 ?h4 ?h5 ?_); (case h1 => walk_at "hp"); (case h2 => exact Tx.clsK (by assumption) (by decide +kernel)); (case h3 => exact Tx.noatK (by assumption) (by decide +kernel)); (case h4 => exact Dk.lt_ble rfl); (case h5 => rfl))
  | ((with_reducible refine' s_eq ?h1 ?_); (case h1 => rfl)) | ((with_reducible refine' s_ne ?h1 ?_); (case h1 => rfl)) | (with_reducible refine s_isN ?_)
  | ((with_reducible refine' s_xt ?h1 ?_); (case h1 => exact Nat.le_of_ble_eq_true rfl); intro _ _ _ _ _)
  | ((with_reducible refine' s_xl ?h1 ?_); (case h1 => exact Nat.le_of_ble_eq_true rfl); intro _ _ _ _ _)
  | ((with_reducible refine' s_lenL ?h1 ?_); (case h1 => walk_at "hq")) | ((with_reducible refine' s_lenT ?h1 ?_); (case h1 => walk_at "hq"))
  | ((with_reducible refine' s_ixL ?h1 ?h2 ?_); (case h1 => walk_at "hq"); (case h2 => first | assumption | exact atI_0 | exact atI_1 | rfl))
  | ((with_reducible refine' s_ixT ?h1 ?h2 ?_); (case h1 => walk_at "hq"); (case h2 => first | assumption | exact atI_0 | exact atI_1 | rfl))
  | (with_reducible refine s_or ?_) | (with_reducible refine s_and ?_)
  | ((with_reducible refine' s_nin ?h1 ?h2 ?h3 ?_); (case h1 => walk_at "hq"); (case h2 => rfl); (case h3 => rfl))
  | (with_reducible refine s_tru ?_)
  | (with_reducible refine s_ip ?_) | (with_reducible refine s_for1 ?_) | (with_reducible refine s_for2 ?_) | (with_reducible refine s_for3 ?_) | (with_reducible refine s_forL ?_) | (with_reducible refine s_forT ?_) | (with_reducible refine s_lcL ?_) | (with_reducible refine s_lcT ?_) | (with_reducible refine s_lcS ?_) | (with_reducible refine s_lcE ?_) | (with_reducible refine s_lcZ ?_) | (with_reducible refine s_lcZA ?_) | (with_reducible refine s_lcR ?_) | (with_reducible refine s_chain ?_) | (with_reducible refine s_av ?_) | (with_reducible refine s_ov ?_) | (with_reducible refine s_yes ?_) | (with_reducible refine s_tbm ?_) | (with_reducible refine s_ord ?_) | (with_reducible refine s_raise ?_) | (with_reducible refine s_fldaug ?_) | (with_reducible refine s_add ?_) | (with_reducible refine s_slc ?_) | (with_reducible refine s_part ?_) | (with_reducible refine x_p1 ?_) | (with_reducible refine s_nopart ?_)
  | ((with_reducible refine' x_bm ?h1 ?_); (case h1 => walk_at "hq")) | (with_reducible refine s_par1 ?_) | (with_reducible refine s_un ?_) | (with_reducible refine s_uI ?_))
local macro_rules | `(tactic| walk_at "ev") => `(tactic| repeat walk_at "e1")
-- plain
/-! ### fields -/
abbrev fField (a l : Addr) : List (Str × V) := [("door", .ref a), ("letters", .ref l)]
def LtAt (K : PySem.W.Frag) (H : Hp) (l : R7293g.Spec.Letter) (b : Addr) : Prop := KnAt K H ⟨l.address, l.number, l.offer, l.period, l.answer⟩ b
structure FL where
  f : Addr
  dx : Addr
  lt : Addr
  d : DL
structure FieldAt (K : PySem.W.Frag) (H : Hp) (n : Nat) (f : FL) (F : R7293g.Spec.Field) : Prop where
  obj : H f.f = some (.ins (cA K "Field") f.dx (fField f.d.a f.lt))
  door : DoorAt K H n f.d F.door
  lets : LsAt (LtAt K H) H f.lt F.letters
  nl : F.letters.length ≤ n
  e1 : f.lt ≠ f.d.rem
  e2 : f.lt ≠ f.d.con
  e3 : f.lt ≠ f.d.rec_
  e4 : f.lt ≠ f.d.tab
structure FFr (H H' : Hp) (f f' : FL) : Prop where
  ff : f'.f = f.f
  fdx : f'.dx = f.dx
  flt : f'.lt = f.lt
  a : f'.d.a = f.d.a
  tab : f'.d.tab = f.d.tab
  rem : f'.d.rem = f.d.rem ∨ H f'.d.rem = none
  con : f'.d.con = f.d.con ∨ H f'.d.con = none
  rec_ : f'.d.rec_ = f.d.rec_ ∨ H f'.d.rec_ = none
  fr : ∀ b o, H b = some o → b ≠ f.d.a → b ≠ f.d.rem → b ≠ f.d.con → b ≠ f.d.rec_ → b ≠ f.lt → H' b = some o
section
variable {K : PySem.W.Frag} {H H' H2 : Hp} {n : Nat} {f f' : FL} {F : R7293g.Spec.Field} {d' : DL} {g' : R7293g.Spec.Gate}
theorem FieldAt.ex (h : FieldAt K H n f F) (x : Ex H H') : FieldAt K H' n f F where
  obj := x _ _ h.obj
  door := h.door.ex x
  lets := by obtain ⟨xs, h1, h2⟩ := h.lets; exact ⟨xs, x _ _ h1, h2.mono fun _ _ q => KnAt.ex q x⟩
  nl := h.nl
  e1 := h.e1
  e2 := h.e2
  e3 := h.e3
  e4 := h.e4
theorem FieldAt.up (h : FieldAt K H n f F) : FieldAt K H (n + 1) f F := { h with door := h.door.up, nl := Nat.le_succ_of_le h.nl }
theorem FFr.of (x : Ex H H') : FFr H H' f f := ⟨rfl, rfl, rfl, rfl, rfl, .inl rfl, .inl rfl, .inl rfl, fun b o h _ _ _ _ _ => x b o h⟩
theorem FFr.pre {H0 : Hp} (x : Ex H0 H) (f1 : FFr H H' f f') : FFr H0 H' f f' := ⟨f1.ff, f1.fdx, f1.flt, f1.a, f1.tab, f1.rem.imp_right fun q => Ex.fr x q, f1.con.imp_right fun q => Ex.fr x q, f1.rec_.imp_right fun q => Ex.fr x q, fun b o h1 => f1.fr b o (x _ _ h1)⟩
theorem FFr.post (f1 : FFr H H' f f') (x : Ex H' H2) : FFr H H2 f f' := ⟨f1.ff, f1.fdx, f1.flt, f1.a, f1.tab, f1.rem, f1.con, f1.rec_, fun b o h1 h2 h3 h4 h5 h6 => x _ _ (f1.fr b o h1 h2 h3 h4 h5 h6)⟩
theorem FieldAt.objNe (h : FieldAt K H n f F) : f.f ≠ f.d.a ∧ f.f ≠ f.d.rem ∧ f.f ≠ f.d.con ∧ f.f ≠ f.d.rec_ ∧ f.f ≠ f.lt := by
  obtain ⟨_, h1, _⟩ := h.door.rem
  obtain ⟨_, h2, _⟩ := h.door.con
  obtain ⟨_, h3, _⟩ := h.door.rec_
  obtain ⟨_, h4, _⟩ := h.lets
  exact ⟨ne_of h.obj h.door.obj (fun z => by
    have z := congrArg List.length (HO.ins.inj z).2.2
    exact absurd (show (2 : Nat) = 8 from z) (by decide)), ne_of h.obj h1 (fun z => nomatch z), ne_of h.obj h2 (fun z => nomatch z), ne_of h.obj h3 (fun z => nomatch z), ne_of h.obj h4 (fun z => nomatch z)⟩
theorem FieldAt.ltNe (h : FieldAt K H n f F) : f.lt ≠ f.d.a := by
  obtain ⟨_, h4, _⟩ := h.lets
  exact ne_of h4 h.door.obj (fun z => nomatch z)
/-- the field after a call on its door alone -/
theorem FieldAt.door_step (h : FieldAt K H n f F) (hd : DoorAt K H' (n + 1) d' g') (fr : DFr H H' f.d d') : FieldAt K H' (n + 1) { f with d := d' } { F with door := g' } ∧ FFr H H' f { f with d := d' } := by
  obtain ⟨o1, o2, o3, o4, o5⟩ := h.objNe
  obtain ⟨xs, h1, h2⟩ := h.lets
  have nn : ∀ {b : Addr}, H b = none → f.lt ≠ b := fun {b} hb z => by
    rw [← z, h1] at hb
    cases hb
  refine ⟨⟨?_, hd, ⟨xs, fr.fr _ _ h1 h.ltNe h.e1 h.e2 h.e3, h2.mono fun u b q => fr.knAt h.door q⟩, Nat.le_succ_of_le h.nl, ?_, ?_, ?_, ?_⟩, ⟨rfl, rfl, rfl, fr.a, fr.tab, fr.rem, fr.con, fr.rec_, fun b o q q1 q2 q3 q4 _ => fr.fr b o q q1 q2 q3 q4⟩⟩
  · show H' f.f = some (.ins _ f.dx (fField d'.a f.lt))
    rw [fr.a]
    exact fr.fr _ _ h.obj o1 o2 o3 o4
  · rcases fr.rem with z | z
    · show f.lt ≠ d'.rem
      rw [z]
      exact h.e1
    · exact nn z
  · rcases fr.con with z | z
    · show f.lt ≠ d'.con
      rw [z]
      exact h.e2
    · exact nn z
  · rcases fr.rec_ with z | z
    · show f.lt ≠ d'.rec_
      rw [z]
      exact h.e3
    · exact nn z
  · show f.lt ≠ d'.tab
    rw [fr.tab]
    exact h.e4
end

/-! ### Field___init__ -/
abbrev s_Field___init__ : Stmt := inClass (top 17) 0
theorem sc_Field___init__ : FnScope ["self", "door"] ["self", "door"] (defScope s_Field___init__) := ⟨rfl, rfl, rfl, by decide +kernel, rfl, by decide +kernel, by decide +kernel⟩
def sp_Field___init__ (K : PySem.W.Frag) : Sp := fun vs H Q _ => vs.length = 2 ∧ ∃ x dx a, vs = [.ref x, .ref a] ∧ H x = some (.ins (cA K "Field") dx []) ∧
  ∀ H' l, (∀ b u, b ≠ x → H b = some u → H' b = some u) → H l = none → l ≠ x → H' l = some (.lst []) → H' x = some (.ins (cA K "Field") dx (fField a l)) → Q .non H'
def t_Field___init__ (K : PySem.W.Frag) : TS :=
  (tSeq (sFld K (tVar 0) (tVar 1) "door")
  (sFld K (tVar 0) (tLst tNil) "letters"))
section
variable {P : Program} {w : World} {K : PySem.W.Frag} {mg : Str → Option Value} {base : Heap}
theorem pure_Field___init__ (T : Tx K mg) (vs : List V) (H : Hp) (Q : VK) (E : XK) (h : sp_Field___init__ K vs H Q E) : t_Field___init__ K { nx := fun _ H' => Q .non H', rt := Q } (start ["self", "door"] vs) H := by
  obtain ⟨_, x, dx, a, rfl, hx, q⟩ := h
  unfold t_Field___init__
  walk_at "ev"
  rename_i l H1 n1 e1 g1
  have k0 : Kx x H (upd H x (.ins (cA K "Field") dx (putF "door" (.ref a) []))) := (Kx.refl H).upd hx
  have k1 : Kx x H H1 := k0.ex e1
  have nl := k0.n _ n1
  have lx : l ≠ x := fun z => by
    rw [z, hx] at nl
    cases nl
  refine q _ l (k1.upd (e1 _ _ upd_same)).k nl lx ?_ upd_same
  rw [upd_ne lx]
  exact g1
/-- a new field -/
theorem mk_field {K : PySem.W.Frag} {H : Hp} {Q : Addr → Hp → Prop} {E : XK} {d : DL} {g : R7293g.Spec.Gate} (hd : DoorAt K H 0 d g) (q : ∀ f H', H f.f = none → H f.lt = none → f.d = d → Ex H H' → FieldAt K H' 0 f (R7293g.Spec.startField g) → Q f.f H') :
    ∀ x dx, H x = none → H dx = none → dx ≠ x → sp_Field___init__ K (.ref x :: ([.ref d.a] ++ [])) (upd (upd H dx (.own x)) x (.ins (cA K "Field") dx [])) (fun v H2 => v = .non ∧ Q x H2) E := fun x dx hx hdx dn =>
  ⟨rfl, x, dx, d.a, rfl, upd_same, fun H' l h1 n1 lx g1 g0 => ⟨rfl, by
    have e : Ex H H' := fun b u hb => by
      have b1 : b ≠ x := fun e => by rw [e, hx] at hb; cases hb
      have b2 : b ≠ dx := fun e => by rw [e, hdx] at hb; cases hb
      exact h1 b u b1 (by rw [upd_ne b1, upd_ne b2]; exact hb)
    have f : ∀ {b}, (upd (upd H dx (.own x)) x (.ins (cA K "Field") dx [])) b = none → H b = none := fun {b} z => by
      by_cases b1 : b = x
      · rw [b1, upd_same] at z
        cases z
      by_cases b2 : b = dx
      · rw [upd_ne b1, b2, upd_same] at z
        cases z
      rw [upd_ne b1, upd_ne b2] at z
      exact z
    have tn : ∀ {b o}, H b = some o → l ≠ b := fun {b o} hb z => by rw [← z, f n1] at hb; cases hb
    obtain ⟨_, q1, _⟩ := hd.rem
    obtain ⟨_, q2, _⟩ := hd.con
    obtain ⟨_, q3, _⟩ := hd.rec_
    exact q ⟨x, dx, l, d⟩ H' hx (f n1) rfl e ⟨g0, hd.ex e, ⟨[], g1, trivial⟩, Nat.le_refl _, tn q1, tn q2, tn q3, tn hd.tab⟩⟩⟩
theorem ok_Field___init__ (T : Tx K mg) : Cp P w K mg base CX0 "Field" (cA K "Field") ["self", "door"] 1 (sp_Field___init__ K) := by
  obtain ⟨fd, F⟩ := T.fn 50 (p := ("Field", some "__init__")) (n := "__init__") (q := "Field.__init__") (st := s_Field___init__)
  refine ⟨⟨_, fd, T.glo 98, T.mkr 100, F.bindsN fun _ _ _ _ _ _ us hl => match us, hl with | [_, _], _ => rfl, F.ok sc_Field___init__ (fun _ _ _ _ h => h.1) fun cdv A outer s H vs Q E hr h => ⟨t_Field___init__ K, PSs.nox ?_, pure_Field___init__ T vs H Q E h⟩⟩⟩
  exact (pss_cons (ps_fld (pv 0) (pv 1) rfl)
    (pss_one (ps_fld (pv 0) (pe_lst pa_nil) rfl)))
end
/-! ### Field_knock -/
abbrev s_Field_knock : Stmt := inClass (top 17) 1
theorem sc_Field_knock : FnScope ["self", "address", "number", "offer", "answer"] ["self", "address", "number", "offer"] (defScope s_Field_knock) := ⟨rfl, rfl, rfl, by decide +kernel, rfl, by decide +kernel, by decide +kernel⟩
def fKnockOf (F : R7293g.Spec.Field) (a n o : Nat) : R7293g.Spec.Field × Option Nat :=
  if F.door.hears a n then (⟨(F.door.answer a n o).1, F.letters ++ [⟨a, n, o, F.door.period, (F.door.answer a n o).2⟩]⟩, some F.letters.length) else (F, none)
theorem answer_period (g : R7293g.Spec.Gate) (a n o : Nat) : (g.answer a n o).1.period = g.period := by
  unfold R7293g.Spec.Gate.answer
  split
  · rfl
  · split <;> rfl
def sp_Field_knock (K : PySem.W.Frag) : Sp := fun vs H Q _ => vs.length = 4 ∧ ∃ m f F a n o, vs = [.ref f.f, natV a, natV n, natV o] ∧ FieldAt K H m f F ∧ m < 1000 ∧ ∀ f' H', FieldAt K H' (m + 1) f' (fKnockOf F a n o).1 → FFr H H' f f' → Q (optV (fKnockOf F a n o).2) H'
def t_Field_knock (K : PySem.W.Frag) : TS :=
  (tSeq (tAsg (tMeth (cA K "Door") "knock" (sp_Door_knock K) [] E0 (tFld K (tVar 0) "door") (tCons (tVar 1) (tCons (tVar 2) (tCons (tVar 3) tNil)))) (gName 4))
  (tSeq (tIfS (tTest (tOp rIsN (tVar 4) (tC .non))) (tRet (tC .non)) tNext)
  (tSeq (tDrop (tBM K "list" rAppend (tFld K (tVar 0) "letters") (tCons (tMake (cA K "Knock") (sp_Knock___init__ K) [] E0 (tCons (tVar 1) (tCons (tVar 2) (tCons (tVar 3) (tCons (tFld K (tFld K (tVar 0) "door") "period") (tCons (tVar 4) tNil)))))) tNil)))
  (tRet (tOp rrSub (tCB (rLenS K) (tCons (tFld K (tVar 0) "letters") tNil)) (tC (.int 1)))))))
section
variable {P : Program} {w : World} {K : PySem.W.Frag} {mg : Str → Option Value} {base : Heap}
theorem pure_Field_knock (T : Tx K mg) (vs : List V) (H : Hp) (Q : VK) (E : XK) (h : sp_Field_knock K vs H Q E) : t_Field_knock K { nx := fun _ H' => Q .non H', rt := Q } (start ["self", "address", "number", "offer", "answer"] vs) H := by
  obtain ⟨_, m, f, F, a, n, o, rfl, hf, hm, q⟩ := h
  have ho := hf.obj
  unfold t_Field_knock
  walk_at "ev"
  refine s_xm hf.door.obj rfl ?_
  walk_at "ev"
  refine ⟨rfl, m, f.d, F.door, a, n, o, rfl, hf.door, hm, fun d' H1 hd1 fr1 => ?_⟩
  obtain ⟨hf1, ff1⟩ := hf.door_step hd1 fr1
  have ho1 := hf1.obj
  have hdo1 := hd1.obj
  walk_at "ev"
  cases hh : F.door.hears a n with
  | false =>
    have e1 : knockOf F.door a n o = (F.door, none) := by
      unfold knockOf
      rw [hh]
      rfl
    have e2 : fKnockOf F a n o = (F, none) := by
      unfold fKnockOf
      rw [hh]
      rfl
    rw [e2] at q
    rw [e1] at hf1 ⊢
    refine if_t ?_
    walk_at "ev"
    exact q _ H1 hf1 ff1
  | true =>
    have e1 : knockOf F.door a n o = ((F.door.answer a n o).1, some (F.door.answer a n o).2) := by
      unfold knockOf
      rw [hh]
      rfl
    have e2 : fKnockOf F a n o = (⟨(F.door.answer a n o).1, F.letters ++ [⟨a, n, o, F.door.period, (F.door.answer a n o).2⟩]⟩, some F.letters.length) := by
      unfold fKnockOf
      rw [hh]
      rfl
    rw [e2] at q
    rw [e1] at hf1 hd1 hdo1 ⊢
    dsimp only at hf1 hd1 hdo1
    rw [answer_period] at hdo1
    refine if_f ?_
    walk_at "ev"
    obtain ⟨ls, hlt, hll⟩ := hf1.lets
    have hlt : H1 f.lt = some (.lst (ls.map V.ref)) := hlt
    have hll : All2 (LtAt K H1) F.letters ls := hll
    walk_at "ev"
    refine s_make ?_
    walk_at "ev"
    refine mk_knock fun x H2 hx x2 hk => ?_
    walk_at "ev"
    have nl := hf.nl
    have hlt2 := x2 _ _ hlt
    refine s_app hlt2 (by rw [List.length_map, ← hll.len]; omega) ?_
    have hf2 := hf1.ex x2
    obtain ⟨o1, o2, o3, o4, o5⟩ := hf2.objNe
    have k : ∀ b u, b ≠ f.lt → H2 b = some u → (upd H2 f.lt (.lst (ls.map V.ref ++ [.ref x]))) b = some u := fun b u hb hu => by
      rw [upd_ne hb]
      exact hu
    have ho3 := k _ _ o5 hf2.obj
    have ho3 : (upd H2 f.lt (.lst (ls.map V.ref ++ [.ref x]))) f.f = some (.ins (cA K "Field") f.dx (fField d'.a f.lt)) := ho3
    have hlt3 : (upd H2 f.lt (.lst (ls.map V.ref ++ [.ref x]))) f.lt = some (.lst (ls.map V.ref ++ [.ref x])) := upd_same
    walk_at "ev"
    have e5 : (((ls.map V.ref ++ [V.ref x]).length : Nat) : Int) - 1 = ((F.letters.length : Nat) : Int) := by
      rw [List.length_append, List.length_map, List.length_singleton, ← hll.len]
      omega
    rw [e5]
    have hd2 := hf2.door
    have lta : f.lt ≠ d'.a := hf2.ltNe
    have ltk : ∀ {e : R7293g.Spec.Entry} {b : Addr}, KnAt K H2 e b → KnAt K (upd H2 f.lt (.lst (ls.map V.ref ++ [.ref x]))) e b := fun {e b} hb => by
      obtain ⟨kx, hb⟩ := hb
      exact ⟨kx, k _ _ (ne_of hb hlt2 (fun z => nomatch z)) hb⟩
    have tup : ∀ {b : Addr} {xs}, H2 b = some (.tup xs) → (upd H2 f.lt (.lst (ls.map V.ref ++ [.ref x]))) b = some (.tup xs) := fun {b xs} hb => k _ _ (ne_of hb hlt2 (fun z => nomatch z)) hb
    refine q { f with d := d' } _ ⟨ho3, ?_, ⟨ls ++ [x], ?_, ?_⟩, ?_, hf2.e1, hf2.e2, hf2.e3, hf2.e4⟩ ⟨rfl, rfl, rfl, ff1.a, ff1.tab, ff1.rem, ff1.con, ff1.rec_, fun b u hb h1 h2 h3 h4 h5 => k _ _ h5 (x2 _ _ (ff1.fr b u hb h1 h2 h3 h4 h5))⟩
    · obtain ⟨es, r1, r2⟩ := hd2.rem
      obtain ⟨cs, c1, c2⟩ := hd2.con
      obtain ⟨rs, s1, s2⟩ := hd2.rec_
      exact ⟨k _ _ (fun z => lta z.symm) hd2.obj, k _ _ (fun z => hf2.e4 z.symm) hd2.tab, ⟨es, k _ _ (fun z => hf2.e1 z.symm) r1, r2.mono fun _ _ q => ltk q⟩, ⟨cs, k _ _ (fun z => hf2.e2 z.symm) c1, c2.mono fun _ _ q => tup q⟩, ⟨rs, k _ _ (fun z => hf2.e3 z.symm) s1, s2.mono fun _ _ q => tup q⟩, hd2.ok, hd2.keep, hd2.n1, hd2.n2, hd2.n3, hd2.d1, hd2.d2, hd2.d3, hd2.d4, hd2.d5, hd2.d6⟩
    · rw [hlt3, List.map_append]
      rfl
    · exact All2.snoc (hll.mono fun _ _ q => ltk (KnAt.ex q x2)) (ltk hk)
    · show (F.letters ++ [_]).length ≤ m + 1
      rw [List.length_append, List.length_singleton]
      omega
theorem ok_Field_knock (T : Tx K mg) : Mp P w K mg base CX0 (cA K "Field") "knock" ["self", "address", "number", "offer"] 6 (sp_Field_knock K) := by
  obtain ⟨fd, F⟩ := T.fn 51 (p := ("Field", some "knock")) (n := "knock") (q := "Field.knock") (st := s_Field_knock)
  refine ⟨⟨_, fd, T.meth 103, F.bindsN fun _ _ _ _ _ _ us hl => match us, hl with | [_, _, _, _], _ => rfl, F.ok sc_Field_knock (fun _ _ _ _ h => h.1) fun cdv A outer s H vs Q E hr h => ⟨t_Field_knock K, PSs.nox ?_, pure_Field_knock T vs H Q E h⟩⟩⟩
  exact (pss_cons (ps_set (i := 4) sc_Field_knock.nd rfl (Or.inl rfl) (pe_mp (pe_fld (pv 0) rfl) (T.cls 77) (ok_Door_knock T) (hr.mono (by decide)) pass0 (pa_cons (pv 1) (pa_cons (pv 2) (pa_cons (pv 3) pa_nil)))))
    (pss_cons (ps_if (pt_cmpR op_isN1 (pv 4) pe_non (nomark _)) (pss_one (ps_ret pe_non)) pss_nil)
    (pss_cons (ps_expr (pe_bm PySem.F.plainAttrs_list PySem.F.slot_list_append PySem.F.type_list_append mt_append (pe_fld (pv 0) rfl) (pa_cons (pe_cp (ok_Knock___init__ T) (hr.mono (by decide)) pass0 (pa_cons (pv 1) (pa_cons (pv 2) (pa_cons (pv 3) (pa_cons (pe_fld (pe_fld (pv 0) rfl) rfl) (pa_cons (pv 4) pa_nil)))))) pa_nil)))
    (pss_one (ps_ret (pe_op op_sub (pe_callB call_len_seq (by rfl) (T.free 40) PySem.boot_len (pa_cons (pe_fld (pv 0) rfl) pa_nil)) pe_int))))))
end
/-! ### Field_back -/
abbrev s_Field_back : Stmt := inClass (top 17) 2
theorem sc_Field_back : FnScope ["self", "number", "own"] ["self", "number"] (defScope s_Field_back) := ⟨rfl, rfl, rfl, by decide +kernel, rfl, by decide +kernel, by decide +kernel⟩
def sp_Field_back (K : PySem.W.Frag) : Sp := fun vs H Q _ => vs.length = 2 ∧ ∃ m f F i l, vs = [.ref f.f, natV i] ∧ FieldAt K H m f F ∧ m < 1000 ∧ F.letters[i]? = some l ∧ ∀ f' H', FieldAt K H' (m + 1) f' { F with door := (F.door.back l.address l.number l.answer).1 } → FFr H H' f f' → Q (.str (verS (F.door.back l.address l.number l.answer).2)) H'
def t_Field_back (K : PySem.W.Frag) : TS :=
  (tSeq (tAsg (tOp (rIxL K) (tFld K (tVar 0) "letters") (tVar 1)) (gName 2))
  (tRet (tMeth (cA K "Door") "back" (sp_Door_back K) [] E0 (tFld K (tVar 0) "door") (tCons (tFld K (tVar 2) "address") (tCons (tFld K (tVar 2) "number") (tCons (tFld K (tVar 2) "answer") tNil))))))
section
variable {P : Program} {w : World} {K : PySem.W.Frag} {mg : Str → Option Value} {base : Heap}
theorem pure_Field_back (T : Tx K mg) (vs : List V) (H : Hp) (Q : VK) (E : XK) (h : sp_Field_back K vs H Q E) : t_Field_back K { nx := fun _ H' => Q .non H', rt := Q } (start ["self", "number", "own"] vs) H := by
  obtain ⟨_, m, f, F, i, l, rfl, hf, hm, hi, q⟩ := h
  have ho := hf.obj
  obtain ⟨ls, hlt, hll⟩ := hf.lets
  obtain ⟨b, hb, pb⟩ := hll.get' hi
  obtain ⟨kx, pb⟩ := pb
  unfold t_Field_back
  walk_at "ev"
  refine s_ixL (sq_of hlt) (atI_nat (j := i) (v := .ref b) (by rw [List.getElem?_map, hb]; rfl)) ?_
  walk_at "ev"
  refine s_xm hf.door.obj rfl ?_
  walk_at "ev"
  refine ⟨rfl, m, f.d, F.door, l.address, l.number, l.answer, rfl, hf.door, hm, fun d' H1 hd1 fr1 => ?_⟩
  obtain ⟨hf1, ff1⟩ := hf.door_step hd1 fr1
  exact q _ H1 hf1 ff1
theorem ok_Field_back (T : Tx K mg) : Mp P w K mg base CX0 (cA K "Field") "back" ["self", "number"] 7 (sp_Field_back K) := by
  obtain ⟨fd, F⟩ := T.fn 52 (p := ("Field", some "back")) (n := "back") (q := "Field.back") (st := s_Field_back)
  refine ⟨⟨_, fd, T.meth 104, F.bindsN fun _ _ _ _ _ _ us hl => match us, hl with | [_, _], _ => rfl, F.ok sc_Field_back (fun _ _ _ _ h => h.1) fun cdv A outer s H vs Q E hr h => ⟨t_Field_back K, PSs.nox ?_, pure_Field_back T vs H Q E h⟩⟩⟩
  exact (pss_cons (ps_set (i := 2) sc_Field_back.nd rfl (Or.inl rfl) (pe_ix ix_list (pe_fld (pv 0) rfl) (pv 1) (fun _ _ => rfl)))
    (pss_one (ps_ret (pe_mp (pe_fld (pv 0) rfl) (T.cls 77) (ok_Door_back T) (hr.mono (by decide)) pass0 (pa_cons (pe_fld (pv 2) rfl) (pa_cons (pe_fld (pv 2) rfl) (pa_cons (pe_fld (pv 2) rfl) pa_nil)))))))
end
end Dk
namespace Dk
open PySem PySem.Spec PyProof.Rows L2 Evl RZ
local macro_rules | `(tactic| walk_at "hp") => `(tactic| first | assumption | exact L2.upd_same | (apply Dk.Ex.at (by assumption); walk_at "hp"))
local macro_rules | `(tactic| walk_at "hq") => `(tactic| first | assumption | (apply Evl.sq_of; walk_at "hp") | (apply Evl.st_of; walk_at "hp") | (apply Evl.ex_l (by assumption); walk_at "hq") | (apply Evl.ex_t (by assumption); walk_at "hq"))
local macro_rules | `(tactic| walk_at "ex") => `(tactic| first | exact Evl.Ex.refl _ | assumption | (refine Evl.Ex.trans ?_ (by assumption); walk_at "ex"))
local macro_rules | `(tactic| walk_at "e1") => `(tactic| first
  | (with_reducible refine if_t ?_) | (with_reducible refine if_f ?_) | (with_reducible refine s_seq ?_) | (with_reducible refine s_asg ?_) | (with_reducible refine s_name ?_) | (with_reducible refine s_drop ?_) | (with_reducible refine s_ret ?_) | (with_reducible refine s_nil ?_) | (with_reducible refine s_cons ?_)
  | (with_reducible refine s_c ?_)
  | ((with_reducible refine' s_var ?h1 ?_); (case h1 => rfl))
  | (with_reducible refine s_op ?_) | (with_reducible refine s_call ?_) | (with_reducible refine s_cb ?_) | (with_reducible refine s_fld ?_) | (with_reducible refine s_tup ?_) | (with_reducible refine s_lst ?_) | (with_reducible refine s_meth ?_) | (with_reducible refine s_test ?_) | (with_reducible refine s_B ?_)
  | (with_reducible refine s_not ?_) | (with_reducible refine s_xb ?_) | (with_reducible refine s_if ?_) | (with_reducible refine s_ifS ?_) | (with_reducible refine s_next ?_) | (with_reducible refine s_sfld ?_)
  | (with_reducible refine s_I0 ?_) | ((with_reducible refine' s_I ?h1 ?_); (case h1 => first | exact ⟨by decide, by decide⟩ | exact .inr ⟨by decide, by decide⟩ | (show (0 : Int) < _; decide) | (show (0 : Int) ≤ _; first | decide | omega) | exact ⟨by omega, by omega⟩))
  | ((with_reducible refine' s_xf ?h1 ?h2 ?h3 ?h4 ?_); (case h1 => walk_at "hp"); (case h2 => exact Tx.clsK (by assumption) (by decide +kernel)); (case h3 => exact Tx.noatK (by assumption) (by decide +kernel)); (case h4 => rfl))
  | ((with_reducible refine' s_xs ?h1 ?h2 ?h3 ?h4 ?h5 ?_); (case h1 => walk_at "hp"); (case h2 => exact Tx.clsK (by assumption) (by decide +kernel)); (case h3 => exact Tx.noatK (by assumption) (by decide +kernel)); (case h4 => exact Dk.lt_ble rfl); (case h5 => rfl))
  | ((with_reducible refine' s_eq ?h1 ?_); (case h1 => rfl)) | ((with_reducible refine' s_ne ?h1 ?_); (case h1 => rfl)) | (with_reducible refine s_isN ?_)
  | ((with_reducible refine' s_xt ?h1 ?_); (case h1 => exact Nat.le_of_ble_eq_true rfl); intro _ _ _ _ _)
  | ((with_reducible refine' s_xl ?h1 ?_); (case h1 => exact Nat.le_of_ble_eq_true rfl); intro _ _ _ _ _)
  | ((with_reducible refine' s_lenL ?h1 ?_); (case h1 => walk_at "hq")) | ((with_reducible refine' s_lenT ?h1 ?_); (case h1 => walk_at "hq"))
  | ((with_reducible refine' s_ixL ?h1 ?h2 ?_); (case h1 => walk_at "hq"); (case h2 => first | assumption | exact atI_0 | exact atI_1 | rfl))
  | ((with_reducible refine' s_ixT ?h1 ?h2 ?_); (case h1 => walk_at "hq"); (case h2 => first | assumption | exact atI_0 | exact atI_1 | rfl))
  | (with_reducible refine s_or ?_) | (with_reducible refine s_and ?_)
  | ((with_reducible refine' s_nin ?h1 ?h2 ?h3 ?_); (case h1 => walk_at "hq"); (case h2 => rfl); (case h3 => rfl))
  | (with_reducible refine s_tru ?_)
  | (with_reducible refine s_ip ?_) | (with_reducible refine s_for1 ?_) | (with_reducible refine s_for2 ?_) | (with_reducible refine s_for3 ?_) | (with_reducible refine s_forL ?_) | (with_reducible refine s_forT ?_) | (with_reducible refine s_lcL ?_) | (with_reducible refine s_lcT ?_) | (with_reducible refine s_lcS ?_) | (with_reducible refine s_lcE ?_) | (with_reducible refine s_lcZ ?_) | (with_reducible refine s_lcZA ?_) | (with_reducible refine s_lcR ?_) | (with_reducible refine s_chain ?_) | (with_reducible refine s_av ?_) | (with_reducible refine s_ov ?_) | (with_reducible refine s_yes ?_) | (with_reducible refine s_tbm ?_) | (with_reducible refine s_ord ?_) | (with_reducible refine s_raise ?_) | (with_reducible refine s_fldaug ?_) | (with_reducible refine s_add ?_) | (with_reducible refine s_slc ?_) | (with_reducible refine s_part ?_) | (with_reducible refine x_p1 ?_) | (with_reducible refine s_nopart ?_)
  | ((with_reducible refine' x_bm ?h1 ?_); (case h1 => walk_at "hq")) | (with_reducible refine s_par1 ?_) | (with_reducible refine s_un ?_) | (with_reducible refine s_uI ?_))
local macro_rules | `(tactic| walk_at "ev") => `(tactic| repeat walk_at "e1")
/-! ### on_field -/
abbrev s_on_field : Stmt := top 55
theorem sc_on_field : FnScope ["number", "field", "a", "address", "own"] ["number", "field", "a"] (defScope s_on_field) := ⟨rfl, rfl, rfl, by decide +kernel, rfl, by decide +kernel, by decide +kernel⟩
section
open R7293g.Spec
def fieldFn (number : Nat) (F : Field) (x y z : RWire.Value) : Res (Field × Plain) :=
  if number = 10 then fieldKnockFn F (Rust.taken x) (Rust.taken y) (Rust.taken z)
  else if number = 11 then fieldBackFn F (Rust.taken x)
  else if number = 12 then fieldCloseFn F (Rust.taken x)
  else if number = 13 then fieldNextFn F
  else .ok (F, statePlain F.door)
theorem fk_eq (F : Field) (a n o : Nat) : ((F.knock a n o).1, seenPlain (F.knock a n o).2) = ((fKnockOf F a n o).1, match (fKnockOf F a n o).2 with | none => .null | some y => nat y) := by
  unfold fKnockOf Field.knock
  cases F.door.hears a n <;> rfl
/-- 12, 13 and 14 go by the door -/
def subOf (number : Nat) : Nat := if number = 12 then 5 else if number = 13 then 6 else 8
theorem out_sub {K : PySem.W.Frag} {E : XK} {H : Hp} {number : Nat} {F : Field} {x y z : RWire.Value} {ok : Field × Plain → Prop} (h1 : number = 12 ∨ number = 13 ∨ number = 14) (h : Out K E H (fieldFn number F x y z) ok) :
    Out K E H (doorFn (subOf number) F.door x y z) fun r => ok ({ F with door := r.1 }, r.2) := by
  rcases h1 with rfl | rfl | rfl
  · have h : Out K E H (fieldCloseFn F (Rust.taken x)) ok := h
    show Out K E H (doorCloseFn F.door (Rust.taken x)) _
    unfold fieldCloseFn at h
    unfold doorCloseFn
    revert h
    cases addressArg (Rust.taken x) with
    | error e => exact fun h => h
    | ok a => exact fun h => h
  · exact h
  · exact h
theorem back_some {F : Field} {i : Nat} {l : Letter} (h : F.letters[i]? = some l) : F.back i = ({ F with door := (F.door.back l.address l.number l.answer).1 }, .verdict (F.door.back l.address l.number l.answer).2) := by
  unfold Field.back
  rw [h]
end
theorem numIn_val {lo hi : Int} {v : RWire.Value} (h : numIn lo hi v = true) : ∃ i, v = .int i ∧ lo ≤ i ∧ i ≤ hi := by
  cases v
  case int i =>
    have g : (decide (lo ≤ i) && decide (i ≤ hi)) = true := h
    rw [Bool.and_eq_true] at g
    exact ⟨i, rfl, of_decide_eq_true g.1, of_decide_eq_true g.2⟩
  all_goals cases h
theorem s_disp {σ : L2.St} {H : Hp} {Q : VK} (q : ∀ p H', H p = none → Ex H H' → H' p = some (.dK [(.inl 12, .int 5), (.inl 13, .int 6), (.inl 14, .int 8)]) → Q (.ref p) H') :
    tDisp [((tC (.int 12)), (tC (.int 5))), ((tC (.int 13)), (tC (.int 6))), ((tC (.int 14)), (tC (.int 8)))] σ H Q := fun p hp =>
  ⟨upd_same, [(.inl 12, .int 5), (.inl 13, .int 6), (.inl 14, .int 8)], rfl, by decide, q p _ hp (Ex.mut (Ex.new hp) hp) (by rw [upd_same]; rfl)⟩
def XDG (Q : VK) (x y : V) (H : Hp) : Prop := ∃ a v, x = .ref a ∧ DGet H a y (some v) ∧ Q v H
theorem s_dget {td ty : TE} {σ : L2.St} {H : Hp} {Q : VK} (h : td σ H fun x H1 => ty σ H1 fun y H2 => XDG Q x y H2) : tDGet td ty σ H Q := h
theorem x_dg {H : Hp} {Q : VK} {a : Addr} {kvs : List (Key × V)} {i : Int} {v : V} (h : H a = some (.dK kvs)) (hv : valV kvs (.inl i) = some v) (q : Q v H) : XDG Q (.ref a) (.int i) H :=
  ⟨a, v, rfl, by rw [← hv]; exact DGet.k (k := .inl i) h, q⟩
def sp_on_field (K : PySem.W.Frag) : Sp := fun vs H Q E => vs.length = 3 ∧ ∃ m f F number p x y z, vs = [natV number, .ref f.f, .ref p] ∧ FieldAt K H m f F ∧ m < 1000 ∧ Args K H p [x, y, z] ∧ (10 ≤ number ∧ number ≤ 14) ∧
  Out K E H (fieldFn number F x y z) fun r => ∀ f' H' a, FieldAt K H' (m + 1) f' r.1 → FFr H H' f f' → VAt K H' (Rust.given r.2) a → Q (.ref a) H'
def t_on_field (K : PySem.W.Frag) (E : XK) : TS :=
  (tSeq (tIfS (tTest (tOp rEq (tVar 0) (tC (.int 10)))) (tSeq (tAsg (tCall (sp_knocker K) [] E (tCons (tVar 2) tNil)) (gTup K 2 (gCons (gName 3) (gCons (gName 4) gNil))))
  (tRet (tCall (sp_number_or_null K) [] E0 (tCons (tMeth (cA K "Field") "knock" (sp_Field_knock K) [] E0 (tVar 1) (tCons (tVar 3) (tCons (tVar 4) (tCons (tCall (sp_number_for K) [] E (tCons (tOp (rIxL K) (tVar 2) (tC (.int 2))) (tCons (tC (.str "offer")) (tCons (tC (.int 65535)) tNil)))) tNil)))) tNil)))) tNext)
  (tSeq (tIfS (tTest (tOp rEq (tVar 0) (tC (.int 11)))) (tSeq (tDrop (tCall (sp_need_kind K) [] E (tCons (tCall (sp_number_in K) [] E0 (tCons (tOp (rIxL K) (tVar 2) (tC (.int 0))) (tCons (tC (.int 0)) (tCons (tOp rrSub (tCB (rLenS K) (tCons (tFld K (tVar 1) "letters") tNil)) (tC (.int 1))) tNil)))) (tCons (tC (.str "letter must be the number of a letter")) tNil))))
  (tRet (tCall (sp_text K) [] E0 (tCons (tMeth (cA K "Field") "back" (sp_Field_back K) [] E0 (tVar 1) (tCons (tOp (rIxT K) (tOp (rIxL K) (tVar 2) (tC (.int 0))) (tC (.int 1))) tNil)) tNil)))) tNext)
  (tRet (tCall (sp_on_door K) [] E (tCons (tDGet (tDisp [((tC (.int 12)), (tC (.int 5))), ((tC (.int 13)), (tC (.int 6))), ((tC (.int 14)), (tC (.int 8)))]) (tVar 0)) (tCons (tFld K (tVar 1) "door") (tCons (tVar 2) tNil)))))))
section
variable {P : Program} {w : World} {K : PySem.W.Frag} {mg : Str → Option Value} {base : Heap}
theorem pure_on_field (T : Tx K mg) (vs : List V) (H : Hp) (Q : VK) (E : XK) (h : sp_on_field K vs H Q E) : t_on_field K E { nx := fun _ H' => Q .non H', rt := Q } (start ["number", "field", "a", "address", "own"] vs) H := by
  obtain ⟨_, m, f, F, number, p, x, y, z, rfl, hf, hm, hA, hnum, q⟩ := h
  have ho := hf.obj
  unfold t_on_field
  walk_at "ev"
  refine ite_num (k := 10) (fun e => ?_) (fun e3 => ?_)
  · subst e
    have q := out_knock (show Out K E H (R7293g.Spec.andThen _ _) _ from q)
    walk_at "ev"
    refine ⟨rfl, p, x, y, [z], rfl, hA, q.mono (Ex.refl H) fun r _ q t H1 x1 h1 => ?_⟩
    refine s_pair (st_of h1) ?_
    obtain ⟨zs, b, g1, g2, g3⟩ := (hA.ex x1).get (i := 2) rfl
    walk_at "ev"
    refine s_xm (x1 _ _ ho) rfl ?_
    walk_at "ev"
    refine ⟨rfl, b, z, "offer", 65535, R7293g.Spec.typeErr "offer must be an integer from 0 to 65535", rfl, g3, ⟨by decide +kernel, by decide +kernel, by decide +kernel⟩, err_ok rfl (by decide +kernel), q.mono x1 fun o _ q => ?_⟩
    walk_at "ev"
    refine ⟨rfl, m, f, F, r.1, r.2, o, rfl, hf.ex x1, hm, fun f' H2 hf2 fr2 => ?_⟩
    walk_at "ev"
    refine ⟨rfl, _, rfl, fun a H3 x3 v3 => ?_⟩
    rw [fk_eq] at q
    refine q f' H3 a (hf2.ex x3) ((fr2.pre x1).post x3) ?_
    exact (congrArg (fun v => VAt K H3 v a) (giv_opt (fKnockOf F r.1 r.2 o).2)).mpr v3
  walk_at "ev"
  refine ite_num (k := 11) (fun e => ?_) (fun e4 => ?_)
  · subst e
    have q : Out K E H (R7293g.Spec.andThen (R7293g.Spec.letterArg F (Rust.taken x)) fun i => .ok ((F.back i).1, R7293g.Spec.seenPlain (F.back i).2)) _ := q
    have q := out_bind q
    obtain ⟨zs, b, g1, g2, g3⟩ := hA.get (i := 0) rfl
    obtain ⟨ls, hlt, hll⟩ := hf.lets
    have nl := hf.nl
    walk_at "ev"
    refine ⟨rfl, b, x, 0, _, rfl, g3, ?_⟩
    walk_at "ev"
    rw [List.length_map, ← hll.len]
    refine ⟨rfl, _, _, rfl, fun g => ?_, fun g => ?_⟩
    · obtain ⟨n, rfl, hn1⟩ : ∃ n : Nat, x = .int n ∧ ((n : Int) ≤ (F.letters.length : Nat) - 1) := by
        obtain ⟨i, rfl, a1, a2⟩ := numIn_val g
        exact ⟨i.toNat, by rw [Int.toNat_of_nonneg a1], by omega⟩
      have hn2 : n < F.letters.length := by omega
      have hL : R7293g.Spec.letterArg F (Rust.taken (.int (n : Int))) = .ok n := by
        unfold R7293g.Spec.letterArg
        obtain ⟨n', e1, e2⟩ := numIn_some (v := .int (n : Int)) (most := R7293g.Spec.maxInt) (by
          show (decide ((0 : Int) ≤ n) && decide ((n : Int) ≤ ((R7293g.Spec.maxInt : Nat) : Int))) = true
          rw [decide_eq_true (by omega), decide_eq_true (by unfold R7293g.Spec.maxInt; omega)]
          rfl)
        have e1 := RWire.Value.int.inj e1
        rw [e2]
        have : n' = n := by omega
        subst this
        dsimp only
        rw [if_pos hn2]
      rw [hL] at q
      have q : ∀ f' H' a, FieldAt K H' (m + 1) f' (F.back n).1 → FFr H H' f f' → VAt K H' (Rust.given (R7293g.Spec.seenPlain (F.back n).2)) a → Q (.ref a) H' := q
      have hl : F.letters[n]? = some F.letters[n] := by simp [hn2]
      rw [back_some hl] at q
      have g3 : SqT K H b [.str "integer", .int n] := by unfold VAt at g3; exact g3
      walk_at "ev"
      refine s_xm ho rfl ?_
      walk_at "ev"
      refine ⟨rfl, m, f, F, n, _, rfl, hf, hm, hl, fun f' H2 hf2 fr2 => ?_⟩
      walk_at "ev"
      refine ⟨rfl, _, rfl, (ver_fine _).2, fun a p2 H3 _ x3 v3 v4 => ?_⟩
      refine q f' H3 a (hf2.ex x3) (fr2.post x3) ?_
      show VAt K H3 (Rust.given (R7293g.Spec.verdictText _)) a
      rw [giv_ver]
      unfold VAt
      rw [codes_octs (ver_fine _).1] at v4
      exact ⟨p2, v3, v4⟩
    · have hL : R7293g.Spec.letterArg F (Rust.taken x) = .error (R7293g.Spec.typeErr "letter must be the number of a letter") := by
        unfold R7293g.Spec.letterArg
        cases hI : R7293g.Spec.integerIn 0 R7293g.Spec.maxInt (Rust.taken x) with
        | none => rfl
        | some n =>
          dsimp only
          rw [if_neg]
          intro hn
          have hx : numIn 0 R7293g.Spec.maxInt x = true := by
            cases hh : numIn 0 R7293g.Spec.maxInt x with
            | true => rfl
            | false =>
              rw [numIn_none (lo := 0) hh] at hI
              cases hI
          obtain ⟨n', rfl, e2⟩ := numIn_some hx
          rw [hI] at e2
          have e2 := Option.some.inj e2
          subst e2
          have g : (decide ((0 : Int) ≤ (n : Int)) && decide ((n : Int) ≤ ((F.letters.length : Nat) : Int) - 1)) = false := g
          rw [decide_eq_true (by omega), decide_eq_true (by omega)] at g
          cases g
      rw [hL] at q
      exact q 1 _ (err_ok rfl (by decide +kernel))
  have h1 : number = 12 ∨ number = 13 ∨ number = 14 := by omega
  have q := out_sub h1 q
  have hdv : valV [(.inl 12, V.int 5), (.inl 13, V.int 6), (.inl 14, V.int 8)] (.inl ((number : Nat) : Int) : Key) = some (natV (subOf number)) := by
    rcases h1 with rfl | rfl | rfl <;> rfl
  walk_at "ev"
  refine s_dget ?_
  refine s_disp fun dp H1 hdp x1 h1 => ?_
  walk_at "ev"
  refine x_dg h1 hdv ?_
  walk_at "ev"
  refine ⟨rfl, m, f.d, F.door, subOf number, p, x, y, z, rfl, hf.door.ex x1, hm, hA.ex x1, q.mono x1 fun r _ q d' H2 a hd2 fr2 v2 => ?_⟩
  obtain ⟨a1, a2⟩ := (hf.ex x1).door_step hd2 fr2
  exact q _ H2 a a1 (a2.pre x1) v2
theorem ok_on_field (T : Tx K mg) : Pk P w K mg base (L2N.CX P w) "on_field" ["number", "field", "a"] 8 (sp_on_field K) := by
  obtain ⟨fd, F⟩ := T.fn 31 (p := ("on_field", none)) (n := "on_field") (q := "on_field") (st := s_on_field)
  refine ⟨⟨_, fd, T.glo 31, F.kp, F.bindsN fun _ _ _ _ _ _ us hl => match us, hl with | [_, _, _], _ => rfl, F.ok sc_on_field (fun _ _ _ _ h => h.1) fun cdv A outer s H vs Q E hr h => ⟨t_on_field K E, ?_, pure_on_field T vs H Q E h⟩⟩⟩
  exact (pss_cons (ps_if (pt_cmpR op_eq (pv 0) pe_int (nomark _)) (pss_cons (ps_asg (pe_pk (ok_knocker T) (hr.mono (by decide)) (L2N.passes_call (L2N.takes_of rfl rfl rfl rfl) fun _ _ _ _ h => h) (pa_cons (pv 2) pa_nil)) (pg_tup rfl (pgs_cons (pg_name (i := 3) sc_on_field.nd rfl (Or.inl rfl)) (pgs_cons (pg_name (i := 4) sc_on_field.nd rfl (Or.inl rfl)) pgs_nil))))
    (pss_one (ps_ret (pe_pk (ok_number_or_null T) (hr.mono (by decide)) pass0 (pa_cons (pe_mp (pv 1) (T.cls 99) (ok_Field_knock T) (hr.mono (by decide)) pass0 (pa_cons (pv 3) (pa_cons (pv 4) (pa_cons (pe_pk (ok_number_for T) (hr.mono (by decide)) (L2N.passes_call (L2N.takes_of rfl rfl rfl rfl) fun _ _ _ _ h => h) (pa_cons (pe_ix ix_list (pv 2) pe_int (fun _ _ => rfl)) (pa_cons pe_str (pa_cons (pe_gi (T.int 58)) pa_nil)))) pa_nil)))) pa_nil))))) pss_nil)
    (pss_cons (ps_if (pt_cmpR op_eq (pv 0) pe_int (nomark _)) (pss_cons (ps_expr (pe_pk (ok_need_kind T) (hr.mono (by decide)) (L2N.passes_call (L2N.takes_of rfl rfl rfl rfl) fun _ _ _ _ h => h) (pa_cons (pe_pk (ok_number_in T) (hr.mono (by decide)) pass0 (pa_cons (pe_ix ix_list (pv 2) pe_int (fun _ _ => rfl)) (pa_cons pe_int (pa_cons (pe_op op_sub (pe_callB call_len_seq (by rfl) (T.free 40) PySem.boot_len (pa_cons (pe_fld (pv 1) rfl) pa_nil)) pe_int) pa_nil)))) (pa_cons pe_str pa_nil))))
    (pss_one (ps_ret (pe_pk (ok_text T) (hr.mono (by decide)) pass0 (pa_cons (pe_mp (pv 1) (T.cls 99) (ok_Field_back T) (hr.mono (by decide)) pass0 (pa_cons (pe_ix ix_tup (pe_ix ix_list (pv 2) pe_int (fun _ _ => rfl)) pe_int (fun _ _ => rfl)) pa_nil)) pa_nil))))) pss_nil)
    (pss_one (ps_ret (pe_pk (ok_on_door T) (hr.mono (by decide)) (L2N.passes_call (L2N.takes_of rfl rfl rfl rfl) fun _ _ _ _ h => h) (pa_cons (pe_dget (hu_of hr) (pe_disp (pps_cons pe_int pe_int (pps_cons pe_int pe_int (pps_cons pe_int pe_int pps_nil))) (by rfl) (by rfl) (fun z => by cases z) (by decide)) (pv 0) (fun _ _ => rfl)) (pa_cons (pe_fld (pv 1) rfl) (pa_cons (pv 2) pa_nil))))))))
end
end Dk
namespace Dk
open PySem PySem.Spec PyProof.Rows L2 Evl RZ
local macro_rules | `(tactic| walk_at "hp") => `(tactic| first | assumption | exact L2.upd_same | (apply Dk.Ex.at (by assumption); walk_at "hp"))
local macro_rules | `(tactic| walk_at "hq") => `(tactic| first | assumption | (apply Evl.sq_of; walk_at "hp") | (apply Evl.st_of; walk_at "hp") | (apply Evl.ex_l (by assumption); walk_at "hq") | (apply Evl.ex_t (by assumption); walk_at "hq"))
local macro_rules | `(tactic| walk_at "ex") => `(tactic| first | exact Evl.Ex.refl _ | assumption | (refine Evl.Ex.trans ?_ (by assumption); walk_at "ex"))
local macro_rules | `(tactic| walk_at "e1") => `(tactic| first
  | (with_reducible refine if_t ?_) | (with_reducible refine if_f ?_) | (with_reducible refine s_seq ?_) | (with_reducible refine s_asg ?_) | (with_reducible refine s_name ?_) | (with_reducible refine s_drop ?_) | (with_reducible refine s_ret ?_) | (with_reducible refine s_nil ?_) | (with_reducible refine s_cons ?_)
  | (with_reducible refine s_c ?_)
  | ((with_reducible refine' s_var ?h1 ?_); (case h1 => rfl))
  | (with_reducible refine s_op ?_) | (with_reducible refine s_call ?_) | (with_reducible refine s_cb ?_) | (with_reducible refine s_fld ?_) | (with_reducible refine s_tup ?_) | (with_reducible refine s_lst ?_) | (with_reducible refine s_meth ?_) | (with_reducible refine s_test ?_) | (with_reducible refine s_B ?_)
  | (with_reducible refine s_not ?_) | (with_reducible refine s_xb ?_) | (with_reducible refine s_if ?_) | (with_reducible refine s_ifS ?_) | (with_reducible refine s_next ?_) | (with_reducible refine s_sfld ?_)
  | (with_reducible refine s_I0 ?_) | ((with_reducible refine' s_I ?h1 ?_); (case h1 => first | exact ⟨by decide, by decide⟩ | exact .inr ⟨by decide, by decide⟩ | (show (0 : Int) < _; decide) | (show (0 : Int) ≤ _; first | decide | omega) | exact ⟨by omega, by omega⟩))
  | ((with_reducible refine' s_xf ?h1 ?h2 ?h3 ?h4 ?_); (case h1 => walk_at "hp"); (case h2 => exact Tx.clsK (by assumption) (by decide +kernel)); (case h3 => exact Tx.noatK (by assumption) (by decide +kernel)); (case h4 => rfl))
  | ((with_reducible refine' s_xs ?h1 ?h2 ?h3 ?h4 ?h5 ?_); (case h1 => walk_at "hp"); (case h2 => exact Tx.clsK (by assumption) (by decide +kernel)); (case h3 => exact Tx.noatK (by assumption) (by decide +kernel)); (case h4 => exact Dk.lt_ble rfl); (case h5 => rfl))
  | ((with_reducible refine' s_eq ?h1 ?_); (case h1 => rfl)) | ((with_reducible refine' s_ne ?h1 ?_); (case h1 => rfl)) | (with_reducible refine s_isN ?_)
  | ((with_reducible refine' s_xt ?h1 ?_); (case h1 => exact Nat.le_of_ble_eq_true rfl); intro _ _ _ _ _)
  | ((with_reducible refine' s_xl ?h1 ?_); (case h1 => exact Nat.le_of_ble_eq_true rfl); intro _ _ _ _ _)
  | ((with_reducible refine' s_lenL ?h1 ?_); (case h1 => walk_at "hq")) | ((with_reducible refine' s_lenT ?h1 ?_); (case h1 => walk_at "hq"))
  | ((with_reducible refine' s_ixL ?h1 ?h2 ?_); (case h1 => walk_at "hq"); (case h2 => first | assumption | exact atI_0 | exact atI_1 | rfl))
  | ((with_reducible refine' s_ixT ?h1 ?h2 ?_); (case h1 => walk_at "hq"); (case h2 => first | assumption | exact atI_0 | exact atI_1 | rfl))
  | (with_reducible refine s_or ?_) | (with_reducible refine s_and ?_)
  | ((with_reducible refine' s_nin ?h1 ?h2 ?h3 ?_); (case h1 => walk_at "hq"); (case h2 => rfl); (case h3 => rfl))
  | (with_reducible refine s_tru ?_)
  | (with_reducible refine s_ip ?_) | (with_reducible refine s_for1 ?_) | (with_reducible refine s_for2 ?_) | (with_reducible refine s_for3 ?_) | (with_reducible refine s_forL ?_) | (with_reducible refine s_forT ?_) | (with_reducible refine s_lcL ?_) | (with_reducible refine s_lcT ?_) | (with_reducible refine s_lcS ?_) | (with_reducible refine s_lcE ?_) | (with_reducible refine s_lcZ ?_) | (with_reducible refine s_lcZA ?_) | (with_reducible refine s_lcR ?_) | (with_reducible refine s_chain ?_) | (with_reducible refine s_av ?_) | (with_reducible refine s_ov ?_) | (with_reducible refine s_yes ?_) | (with_reducible refine s_tbm ?_) | (with_reducible refine s_ord ?_) | (with_reducible refine s_raise ?_) | (with_reducible refine s_fldaug ?_) | (with_reducible refine s_add ?_) | (with_reducible refine s_slc ?_) | (with_reducible refine s_part ?_) | (with_reducible refine x_p1 ?_) | (with_reducible refine s_nopart ?_)
  | ((with_reducible refine' x_bm ?h1 ?_); (case h1 => walk_at "hq")) | (with_reducible refine s_par1 ?_) | (with_reducible refine s_un ?_) | (with_reducible refine s_uI ?_))
local macro_rules | `(tactic| walk_at "ev") => `(tactic| repeat walk_at "e1")
-- plain
/-! ### walks -/
abbrev fWalk (f : Addr) (n : Nat) (b : Bool) : List (Str × V) := [("field", .ref f), ("at", natV n), ("has_ended", .bl b)]

/-! ### Walk___init__ -/
abbrev s_Walk___init__ : Stmt := inClass (top 18) 0
theorem sc_Walk___init__ : FnScope ["self", "field", "since"] ["self", "field", "since"] (defScope s_Walk___init__) := ⟨rfl, rfl, rfl, by decide +kernel, rfl, by decide +kernel, by decide +kernel⟩
def sp_Walk___init__ (K : PySem.W.Frag) : Sp := fun vs H Q _ => vs.length = 3 ∧ ∃ x dx f n, vs = [.ref x, .ref f, natV n] ∧ H x = some (.ins (cA K "Walk") dx []) ∧
  ∀ H', (∀ b, b ≠ x → H' b = H b) → H' x = some (.ins (cA K "Walk") dx (fWalk f n false)) → Q .non H'
def t_Walk___init__ (K : PySem.W.Frag) : TS :=
  (tSeq (sFld K (tVar 0) (tVar 1) "field")
  (tSeq (sFld K (tVar 0) (tVar 2) "at")
  (sFld K (tVar 0) (tC (.bl false)) "has_ended")))
section
variable {P : Program} {w : World} {K : PySem.W.Frag} {mg : Str → Option Value} {base : Heap}
theorem pure_Walk___init__ (T : Tx K mg) (vs : List V) (H : Hp) (Q : VK) (E : XK) (h : sp_Walk___init__ K vs H Q E) : t_Walk___init__ K { nx := fun _ H' => Q .non H', rt := Q } (start ["self", "field", "since"] vs) H := by
  obtain ⟨_, x, dx, f, n, rfl, hx, q⟩ := h
  unfold t_Walk___init__
  walk_at "ev"
  refine q _ (fun b hb => ?_) upd_same
  repeat rw [upd_ne hb]
theorem mk_walk {K : PySem.W.Frag} {H : Hp} {Q : Addr → Hp → Prop} {E : XK} {f : Addr} {n : Nat} (q : ∀ x dx H', H x = none → Ex H H' → H' x = some (.ins (cA K "Walk") dx (fWalk f n false)) → Q x H') :
    ∀ x dx, H x = none → H dx = none → dx ≠ x → sp_Walk___init__ K (.ref x :: ([.ref f, natV n] ++ [])) (upd (upd H dx (.own x)) x (.ins (cA K "Walk") dx [])) (fun v H2 => v = .non ∧ Q x H2) E := fun x dx hx hd _ =>
  ⟨rfl, x, dx, f, n, rfl, upd_same, fun H' h1 h2 => ⟨rfl, q x dx H' hx (fun b u hb => by
    have b1 : b ≠ x := fun e => by rw [e, hx] at hb; cases hb
    have b2 : b ≠ dx := fun e => by rw [e, hd] at hb; cases hb
    rw [h1 b b1, upd_ne b1, upd_ne b2, hb]) h2⟩⟩
theorem ok_Walk___init__ (T : Tx K mg) : Cp P w K mg base CX0 "Walk" (cA K "Walk") ["self", "field", "since"] 1 (sp_Walk___init__ K) := by
  obtain ⟨fd, F⟩ := T.fn 53 (p := ("Walk", some "__init__")) (n := "__init__") (q := "Walk.__init__") (st := s_Walk___init__)
  refine ⟨⟨_, fd, T.glo 105, T.mkr 107, F.bindsN fun _ _ _ _ _ _ us hl => match us, hl with | [_, _, _], _ => rfl, F.ok sc_Walk___init__ (fun _ _ _ _ h => h.1) fun cdv A outer s H vs Q E hr h => ⟨t_Walk___init__ K, PSs.nox ?_, pure_Walk___init__ T vs H Q E h⟩⟩⟩
  exact (pss_cons (ps_fld (pv 0) (pv 1) rfl)
    (pss_cons (ps_fld (pv 0) (pv 2) rfl)
    (pss_one (ps_fld (pv 0) pe_bl rfl))))
end
/-! ### Walk_next_letter -/
abbrev s_Walk_next_letter : Stmt := inClass (top 18) 1
theorem sc_Walk_next_letter : FnScope ["self"] ["self"] (defScope s_Walk_next_letter) := ⟨rfl, rfl, rfl, by decide +kernel, rfl, by decide +kernel, by decide +kernel⟩
/-- a step of a walk: where it stands then, the number -/
def nextOf (F : R7293g.Spec.Field) (n : Nat) (b : Bool) : (Nat × Bool) × Option Nat := if b = true ∨ F.letters.length ≤ n then ((n, true), none) else ((n + 1, false), some n)
def sp_Walk_next_letter (K : PySem.W.Frag) : Sp := fun vs H Q _ => vs.length = 1 ∧ ∃ m f F w dx n b, vs = [.ref w] ∧ H w = some (.ins (cA K "Walk") dx (fWalk f.f n b)) ∧ FieldAt K H m f F ∧
  ∀ H', H' w = some (.ins (cA K "Walk") dx (fWalk f.f (nextOf F n b).1.1 (nextOf F n b).1.2)) → (∀ c, c ≠ w → H' c = H c) → Q (optV (nextOf F n b).2) H'
def t_Walk_next_letter (K : PySem.W.Frag) : TS :=
  (tSeq (tIfS (tOr (tB (tFld K (tVar 0) "has_ended")) (tTest (tOp rrGe (tFld K (tVar 0) "at") (tCB (rLenS K) (tCons (tFld K (tFld K (tVar 0) "field") "letters") tNil))))) (tSeq (sFld K (tVar 0) (tC (.bl true)) "has_ended")
  (tRet (tC .non))) tNext)
  (tSeq (sFldAug K (tVar 0) (tC (.int 1)) rAdd "at")
  (tRet (tOp rrSub (tFld K (tVar 0) "at") (tC (.int 1))))))
section
variable {P : Program} {w : World} {K : PySem.W.Frag} {mg : Str → Option Value} {base : Heap}
theorem pure_Walk_next_letter (T : Tx K mg) (vs : List V) (H : Hp) (Q : VK) (E : XK) (h : sp_Walk_next_letter K vs H Q E) : t_Walk_next_letter K { nx := fun _ H' => Q .non H', rt := Q } (start ["self"] vs) H := by
  obtain ⟨_, m, f, F, w, dx, n, b, rfl, hw, hf, q⟩ := h
  have ho := hf.obj
  obtain ⟨ls, hlt, hll⟩ := hf.lets
  unfold t_Walk_next_letter
  walk_at "ev"
  have no : (b = true ∨ F.letters.length ≤ n) → nextOf F n b = ((n, true), none) := fun z => by
    unfold nextOf
    rw [if_pos z]
  refine ite_b (fun c => ?_) (fun c => ?_)
  · rw [no (.inl c)] at q
    walk_at "ev"
    exact q _ upd_same (fun c hc => upd_ne hc)
  walk_at "ev"
  rw [List.length_map, ← hll.len]
  refine ite_b (fun z => ?_) (fun z => ?_)
  · have z := of_decide_eq_true z
    rw [no (.inr (by omega))] at q
    walk_at "ev"
    exact q _ upd_same (fun c hc => upd_ne hc)
  · have z := of_decide_eq_false z
    have e : nextOf F n b = ((n + 1, false), some n) := by
      unfold nextOf
      rw [if_neg]
      rintro (z2 | z2)
      · rw [c] at z2
        cases z2
      · omega
    rw [e] at q
    subst c
    walk_at "ev"
    refine s_fa hw (Tx.clsK T (by decide +kernel)) (Tx.noatK T (by decide +kernel)) rfl ?_
    walk_at "ev"
    refine s_xfa (gs := fWalk f.f (n + 1) false) hw (lt_ble rfl) rfl ?_
    walk_at "ev"
    have e1 : ((n : Int) + 1) - 1 = (n : Int) := by omega
    have e2 : (((n + 1 : Nat) : Int)) - 1 = (n : Int) := by omega
    first
      | rw [e1]
      | rw [e2]
    exact q _ upd_same (fun c hc => upd_ne hc)
theorem ok_Walk_next_letter (T : Tx K mg) : Mp P w K mg base CX0 (cA K "Walk") "next_letter" ["self"] 1 (sp_Walk_next_letter K) := by
  obtain ⟨fd, F⟩ := T.fn 54 (p := ("Walk", some "next_letter")) (n := "next_letter") (q := "Walk.next_letter") (st := s_Walk_next_letter)
  refine ⟨⟨_, fd, T.meth 111, F.bindsN fun _ _ _ _ _ _ us hl => match us, hl with | [_], _ => rfl, F.ok sc_Walk_next_letter (fun _ _ _ _ h => h.1) fun cdv A outer s H vs Q E hr h => ⟨t_Walk_next_letter K, PSs.nox ?_, pure_Walk_next_letter T vs H Q E h⟩⟩⟩
  exact (pss_cons (ps_if (PW.pt (pw_or (pt_val (pe_fld (pv 0) rfl)) (pw_or1 (pt_cmpR op_ge (pe_fld (pv 0) rfl) (pe_callB call_len_seq (by rfl) (T.free 40) PySem.boot_len (pa_cons (pe_fld (pe_fld (pv 0) rfl) rfl) pa_nil)) (nomark _))))) (pss_cons (ps_fld (pv 0) pe_bl rfl)
    (pss_one (ps_ret pe_non))) pss_nil)
    (pss_cons (ps_fldaug (pv 0) pe_int in_add)
    (pss_one (ps_ret (pe_op op_sub (pe_fld (pv 0) rfl) pe_int)))))
end
/-! ### next_of -/
abbrev s_next_of : Stmt := top 56
theorem sc_next_of : FnScope ["walk", "number", "own", "value"] ["walk"] (defScope s_next_of) := ⟨rfl, rfl, rfl, by decide +kernel, rfl, by decide +kernel, by decide +kernel⟩
def nextPlain (F : R7293g.Spec.Field) (n : Nat) (b : Bool) : R7293g.Spec.Plain := match (nextOf F n b).2 with
  | none => R7293g.Spec.iteration .undef true
  | some i => match F.letters[i]? with
    | some l => R7293g.Spec.iteration (R7293g.Spec.letterPlain i l) false
    | none => .undef
def sp_next_of (K : PySem.W.Frag) : Sp := fun vs H Q _ => vs.length = 1 ∧ ∃ m f F w dx n b, vs = [.ref w] ∧ H w = some (.ins (cA K "Walk") dx (fWalk f.f n b)) ∧ FieldAt K H m f F ∧
  ∀ a H', H' w = some (.ins (cA K "Walk") dx (fWalk f.f (nextOf F n b).1.1 (nextOf F n b).1.2)) → (∀ c u, c ≠ w → H c = some u → H' c = some u) → VAt K H' (Rust.given (nextPlain F n b)) a → Q (.ref a) H'
def t_next_of (K : PySem.W.Frag) : TS :=
  (tSeq (tAsg (tMeth (cA K "Walk") "next_letter" (sp_Walk_next_letter K) [] E0 (tVar 0) tNil) (gName 1))
  (tSeq (tIfS (tTest (tOp rIsN (tVar 1) (tC .non))) (tRet (tCall (sp_record K) [] E0 (tCons (tLst (tCons (tTup (tCons (tC (.str "value")) (tCons (tC (.ref (cA K "NOTHING"))) tNil))) (tCons (tTup (tCons (tC (.str "done")) (tCons (tCall (sp_boolean K) [] E0 (tCons (tC (.bl true)) tNil)) tNil))) tNil))) tNil))) tNext)
  (tSeq (tAsg (tOp (rIxL K) (tFld K (tFld K (tVar 0) "field") "letters") (tVar 1)) (gName 2))
  (tSeq (tAsg (tCall (sp_numbers_record K) [] E0 (tCons (tTup (tCons (tC (.str "letter")) (tCons (tC (.str "address")) (tCons (tC (.str "number")) (tCons (tC (.str "offer")) (tCons (tC (.str "period")) (tCons (tC (.str "answer")) tNil))))))) (tCons (tTup (tCons (tVar 1) (tCons (tFld K (tVar 2) "address") (tCons (tFld K (tVar 2) "number") (tCons (tFld K (tVar 2) "offer") (tCons (tFld K (tVar 2) "period") (tCons (tFld K (tVar 2) "answer") tNil))))))) tNil))) (gName 3))
  (tRet (tCall (sp_record K) [] E0 (tCons (tLst (tCons (tTup (tCons (tC (.str "value")) (tCons (tVar 3) tNil))) (tCons (tTup (tCons (tC (.str "done")) (tCons (tCall (sp_boolean K) [] E0 (tCons (tC (.bl false)) tNil)) tNil))) tNil))) tNil)))))))
section
variable {P : Program} {w : World} {K : PySem.W.Frag} {mg : Str → Option Value} {base : Heap}
theorem pure_next_of (T : Tx K mg) (vs : List V) (H : Hp) (Q : VK) (E : XK) (h : sp_next_of K vs H Q E) : t_next_of K { nx := fun _ H' => Q .non H', rt := Q } (start ["walk", "number", "own", "value"] vs) H := by
  obtain ⟨_, m, f, F, w, dx, n, b, rfl, hw, hf, q⟩ := h
  unfold t_next_of
  walk_at "ev"
  refine s_xm hw rfl ?_
  walk_at "ev"
  refine ⟨rfl, m, f, F, w, dx, n, b, rfl, hw, hf, fun H1 h1 k1 => ?_⟩
  have wf : w ≠ f.f := ne_of hw hf.obj (fun z => by
    have z := congrArg List.length (HO.ins.inj z).2.2
    exact absurd (show (3 : Nat) = 2 from z) (by decide))
  obtain ⟨ls, hlt, hll⟩ := hf.lets
  have wl : w ≠ f.lt := ne_of hw hlt (fun z => nomatch z)
  have ho1 : H1 f.f = some _ := (k1 _ (fun z => wf z.symm)).trans hf.obj
  have hlt1 : H1 f.lt = some _ := (k1 _ (fun z => wl z.symm)).trans hlt
  walk_at "ev"
  by_cases c : b = true ∨ F.letters.length ≤ n
  · have e : nextOf F n b = ((n, true), none) := by
      unfold nextOf
      rw [if_pos c]
    have e2 : nextPlain F n b = R7293g.Spec.iteration .undef true := by
      unfold nextPlain
      rw [e]
    rw [e2] at q
    rw [e] at h1 q ⊢
    refine if_t ?_
    walk_at "ev"
    rename_i t1 H2 _ x2 h2
    refine ⟨rfl, _, rfl, fun a H3 _ x3 v3 => ?_⟩
    walk_at "ev"
    rename_i t2 H4 _ x4 h4 l H5 _ x5 h5
    have y3 := Ex.trans x3 (Ex.trans x4 x5)
    refine ⟨rfl, l, [("value", .nothing), ("done", .bool true)], _, rfl, sq_of h5, ⟨⟨t1, _, rfl, st_of (y3 _ _ h2), (by unfold VAt; exact He.tupB_ok (T.ex 0) H5), (of_decide_eq_true (by kernel_rfl))⟩, ⟨t2, a, rfl, st_of (x5 _ _ h4), v3.ex (Ex.trans x4 x5), (of_decide_eq_true (by kernel_rfl))⟩, trivial⟩, (by kernel_rfl), (by show (2 : Nat) ≤ 1000; decide), fun r H6 _ x6 v6 => ?_⟩
    have y6 := Ex.trans x2 (Ex.trans y3 x6)
    refine q r H6 (y6 _ _ h1) (fun c u hc hu => y6 _ _ ((k1 c hc).trans hu)) ?_
    rw [giv_iter]
    exact v6
  · have hn : n < F.letters.length := by
      by_cases z : n < F.letters.length
      · exact z
      · exact absurd (.inr (by omega)) c
    have e : nextOf F n b = ((n + 1, false), some n) := by
      unfold nextOf
      rw [if_neg c]
    have hl : F.letters[n]? = some F.letters[n] := by simp [hn]
    have e2 : nextPlain F n b = R7293g.Spec.iteration (R7293g.Spec.letterPlain n F.letters[n]) false := by
      unfold nextPlain
      rw [e]
      dsimp only
      rw [hl]
    rw [e2] at q
    rw [e] at h1 q ⊢
    obtain ⟨bb, hb, kx, pb⟩ := hll.get' hl
    have wb : w ≠ bb := ne_of hw pb (fun z => by
      have z := congrArg List.length (HO.ins.inj z).2.2
      exact absurd (show (3 : Nat) = 5 from z) (by decide))
    have pb1 : H1 bb = some _ := (k1 _ (fun z => wb z.symm)).trans pb
    refine if_f ?_
    have h1' : H1 w = some (.ins (cA K "Walk") dx (fWalk f.f (n + 1) false)) := h1
    walk_at "ev"
    refine s_ixL (sq_of hlt1) (atI_nat (j := n) (v := .ref bb) (by rw [List.getElem?_map, hb]; rfl)) ?_
    walk_at "ev"
    rename_i t1 H2 _ x2 h2 t2 H3 _ x3 h3
    generalize F.letters[n] = L at *
    refine ⟨rfl, t1, t2, [("letter", n), ("address", L.address), ("number", L.number), ("offer", L.offer), ("period", L.period), ("answer", L.answer)], rfl, st_of (x3 _ _ h2), st_of h3, (by show (6 : Nat) ≤ 1000; decide), (by kernel_rfl), fun a H4 _ x4 v4 => ?_⟩
    walk_at "ev"
    rename_i s1 H5 _ x5 h5
    refine ⟨rfl, _, rfl, fun a2 H6 _ x6 v6 => ?_⟩
    walk_at "ev"
    rename_i s2 H7 _ x7 h7 l H8 _ x8 h8
    have y6 := Ex.trans x6 (Ex.trans x7 x8)
    refine ⟨rfl, l, [("value", _), ("done", .bool false)], _, rfl, sq_of h8, ⟨⟨s1, _, rfl, st_of (y6 _ _ h5), v4.ex (Ex.trans x5 y6), (of_decide_eq_true (by kernel_rfl))⟩, ⟨s2, a2, rfl, st_of (x8 _ _ h7), v6.ex (Ex.trans x7 x8), (of_decide_eq_true (by kernel_rfl))⟩, trivial⟩, (by kernel_rfl), (by show (2 : Nat) ≤ 1000; decide), fun r H9 _ x9 v9 => ?_⟩
    have y9 := Ex.trans x2 (Ex.trans x3 (Ex.trans x4 (Ex.trans x5 (Ex.trans y6 x9))))
    refine q r H9 (y9 _ _ h1) (fun c u hc hu => y9 _ _ ((k1 c hc).trans hu)) ?_
    rw [giv_iter, giv_letter]
    exact v9
theorem ok_next_of (T : Tx K mg) : Pk P w K mg base CX0 "next_of" ["walk"] 4 (sp_next_of K) := by
  obtain ⟨fd, F⟩ := T.fn 32 (p := ("next_of", none)) (n := "next_of") (q := "next_of") (st := s_next_of)
  refine ⟨⟨_, fd, T.glo 32, F.kp, F.bindsN fun _ _ _ _ _ _ us hl => match us, hl with | [_], _ => rfl, F.ok sc_next_of (fun _ _ _ _ h => h.1) fun cdv A outer s H vs Q E hr h => ⟨t_next_of K, PSs.nox ?_, pure_next_of T vs H Q E h⟩⟩⟩
  exact (pss_cons (ps_set (i := 1) sc_next_of.nd rfl (Or.inl rfl) (pe_mp0 (pv 0) (T.cls 106) (ok_Walk_next_letter T) (hr.mono (by decide)) pass0))
    (pss_cons (ps_if (pt_cmpR op_isN1 (pv 1) pe_non (nomark _)) (pss_one (ps_ret (pe_pk (ok_record T) (hr.mono (by decide)) pass0 (pa_cons (pe_lst (pa_cons (pe_tup (pa_cons pe_str (pa_cons (pe_glob rfl (T.glo 35) rfl) pa_nil))) (pa_cons (pe_tup (pa_cons pe_str (pa_cons (pe_pk (ok_boolean T) (hr.mono (by decide)) pass0 (pa_cons pe_bl pa_nil)) pa_nil))) pa_nil))) pa_nil)))) pss_nil)
    (pss_cons (ps_set (i := 2) sc_next_of.nd rfl (Or.inl rfl) (pe_ix ix_list (pe_fld (pe_fld (pv 0) rfl) rfl) (pv 1) (fun _ _ => rfl)))
    (pss_cons (ps_set (i := 3) sc_next_of.nd rfl (Or.inl rfl) (pe_pk (ok_numbers_record T) (hr.mono (by decide)) pass0 (pa_cons (pe_tup (pa_cons pe_str (pa_cons pe_str (pa_cons pe_str (pa_cons pe_str (pa_cons pe_str (pa_cons pe_str pa_nil))))))) (pa_cons (pe_tup (pa_cons (pv 1) (pa_cons (pe_fld (pv 2) rfl) (pa_cons (pe_fld (pv 2) rfl) (pa_cons (pe_fld (pv 2) rfl) (pa_cons (pe_fld (pv 2) rfl) (pa_cons (pe_fld (pv 2) rfl) pa_nil))))))) pa_nil))))
    (pss_one (ps_ret (pe_pk (ok_record T) (hr.mono (by decide)) pass0 (pa_cons (pe_lst (pa_cons (pe_tup (pa_cons pe_str (pa_cons (pv 3) pa_nil))) (pa_cons (pe_tup (pa_cons pe_str (pa_cons (pe_pk (ok_boolean T) (hr.mono (by decide)) pass0 (pa_cons pe_bl pa_nil)) pa_nil))) pa_nil))) pa_nil))))))))
end
end Dk
namespace Dk
open PySem PySem.Spec PyProof.Rows L2 Evl RZ
local macro_rules | `(tactic| walk_at "hp") => `(tactic| first | assumption | exact L2.upd_same | (apply Dk.Ex.at (by assumption); walk_at "hp"))
local macro_rules | `(tactic| walk_at "hq") => `(tactic| first | assumption | (apply Evl.sq_of; walk_at "hp") | (apply Evl.st_of; walk_at "hp") | (apply Evl.ex_l (by assumption); walk_at "hq") | (apply Evl.ex_t (by assumption); walk_at "hq"))
local macro_rules | `(tactic| walk_at "ex") => `(tactic| first | exact Evl.Ex.refl _ | assumption | (refine Evl.Ex.trans ?_ (by assumption); walk_at "ex"))
local macro_rules | `(tactic| walk_at "e1") => `(tactic| first
  | (with_reducible refine if_t ?_) | (with_reducible refine if_f ?_) | (with_reducible refine s_seq ?_) | (with_reducible refine s_asg ?_) | (with_reducible refine s_name ?_) | (with_reducible refine s_drop ?_) | (with_reducible refine s_ret ?_) | (with_reducible refine s_nil ?_) | (with_reducible refine s_cons ?_)
  | (with_reducible refine s_c ?_)
  | ((with_reducible refine' s_var ?h1 ?_); (case h1 => rfl))
  | (with_reducible refine s_op ?_) | (with_reducible refine s_call ?_) | (with_reducible refine s_cb ?_) | (with_reducible refine s_fld ?_) | (with_reducible refine s_tup ?_) | (with_reducible refine s_lst ?_) | (with_reducible refine s_meth ?_) | (with_reducible refine s_test ?_) | (with_reducible refine s_B ?_)
  | (with_reducible refine s_not ?_) | (with_reducible refine s_xb ?_) | (with_reducible refine s_if ?_) | (with_reducible refine s_ifS ?_) | (with_reducible refine s_next ?_) | (with_reducible refine s_sfld ?_)
  | (with_reducible refine s_I0 ?_) | ((with_reducible refine' s_I ?h1 ?_); (case h1 => first | exact ⟨by decide, by decide⟩ | exact .inr ⟨by decide, by decide⟩ | (show (0 : Int) < _; decide) | (show (0 : Int) ≤ _; first | decide | omega) | exact ⟨by omega, by omega⟩))
  | ((with_reducible refine' s_xf ?h1 ?h2 ?h3 ?h4 ?_); (case h1 => walk_at "hp"); (case h2 => exact Tx.clsK (by assumption) (by decide +kernel)); (case h3 => exact Tx.noatK (by assumption) (by decide +kernel)); (case h4 => rfl))
  | ((with_reducible refine' s_xs ?h1 ?h2 ?h3 ?h4 ?h5 ?_); (case h1 => walk_at "hp"); (case h2 => exact Tx.clsK (by assumption) (by decide +kernel)); (case h3 => exact Tx.noatK (by assumption) (by decide +kernel)); (case h4 => exact Dk.lt_ble rfl); (case h5 => rfl))
  | ((with_reducible refine' s_eq ?h1 ?_); (case h1 => rfl)) | ((with_reducible refine' s_ne ?h1 ?_); (case h1 => rfl)) | (with_reducible refine s_isN ?_)
  | ((with_reducible refine' s_xt ?h1 ?_); (case h1 => exact Nat.le_of_ble_eq_true rfl); intro _ _ _ _ _)
  | ((with_reducible refine' s_xl ?h1 ?_); (case h1 => exact Nat.le_of_ble_eq_true rfl); intro _ _ _ _ _)
  | ((with_reducible refine' s_lenL ?h1 ?_); (case h1 => walk_at "hq")) | ((with_reducible refine' s_lenT ?h1 ?_); (case h1 => walk_at "hq"))
  | ((with_reducible refine' s_ixL ?h1 ?h2 ?_); (case h1 => walk_at "hq"); (case h2 => first | assumption | exact atI_0 | exact atI_1 | rfl))
  | ((with_reducible refine' s_ixT ?h1 ?h2 ?_); (case h1 => walk_at "hq"); (case h2 => first | assumption | exact atI_0 | exact atI_1 | rfl))
  | (with_reducible refine s_or ?_) | (with_reducible refine s_and ?_)
  | ((with_reducible refine' s_nin ?h1 ?h2 ?h3 ?_); (case h1 => walk_at "hq"); (case h2 => rfl); (case h3 => rfl))
  | (with_reducible refine s_tru ?_)
  | (with_reducible refine s_ip ?_) | (with_reducible refine s_for1 ?_) | (with_reducible refine s_for2 ?_) | (with_reducible refine s_for3 ?_) | (with_reducible refine s_forL ?_) | (with_reducible refine s_forT ?_) | (with_reducible refine s_lcL ?_) | (with_reducible refine s_lcT ?_) | (with_reducible refine s_lcS ?_) | (with_reducible refine s_lcE ?_) | (with_reducible refine s_lcZ ?_) | (with_reducible refine s_lcZA ?_) | (with_reducible refine s_lcR ?_) | (with_reducible refine s_chain ?_) | (with_reducible refine s_av ?_) | (with_reducible refine s_ov ?_) | (with_reducible refine s_yes ?_) | (with_reducible refine s_tbm ?_) | (with_reducible refine s_ord ?_) | (with_reducible refine s_raise ?_) | (with_reducible refine s_fldaug ?_) | (with_reducible refine s_add ?_) | (with_reducible refine s_slc ?_) | (with_reducible refine s_part ?_) | (with_reducible refine x_p1 ?_) | (with_reducible refine s_nopart ?_)
  | ((with_reducible refine' x_bm ?h1 ?_); (case h1 => walk_at "hq")) | (with_reducible refine s_par1 ?_) | (with_reducible refine s_un ?_) | (with_reducible refine s_uI ?_))
local macro_rules | `(tactic| walk_at "ev") => `(tactic| repeat walk_at "e1")
/-! ### best_table -/
abbrev s_best_table : Stmt := top 2
theorem sc_best_table : FnScope ["offers", "many", "own", "size", "values", "known", "place", "at", "left", "earlier", "loss", "entries", "value", "found", "other", "more"] ["offers", "many"] (defScope s_best_table) := ⟨rfl, rfl, rfl, by decide +kernel, rfl, by decide +kernel, by decide +kernel⟩
section
open R7293g.Spec
theorem ins_perm (o : Nat) : ∀ l : List Nat, (insertOffer o l).Perm (o :: l)
  | [] => List.Perm.refl _
  | x :: l => by
    unfold insertOffer
    by_cases h : o ≤ x
    · rw [if_pos h]
    · rw [if_neg h]
      exact ((ins_perm o l).cons x).trans (List.Perm.swap o x l)
theorem ins_sorted (o : Nat) : ∀ l : List Nat, l.Pairwise (· ≤ ·) → (insertOffer o l).Pairwise (· ≤ ·)
  | [], _ => List.pairwise_cons.mpr ⟨(fun _ h => by cases h), List.Pairwise.nil⟩
  | x :: l, h => by
    unfold insertOffer
    obtain ⟨h1, h2⟩ := List.pairwise_cons.mp h
    by_cases c : o ≤ x
    · rw [if_pos c]
      refine List.pairwise_cons.mpr ⟨fun y hy => ?_, h⟩
      rcases List.mem_cons.mp hy with rfl | hy
      · exact c
      · exact Nat.le_trans c (h1 y hy)
    · rw [if_neg c]
      refine List.pairwise_cons.mpr ⟨fun y hy => ?_, ins_sorted o l h2⟩
      rcases List.mem_cons.mp ((ins_perm o l).mem_iff.mp hy) with rfl | hy
      · omega
      · exact h1 y hy
theorem sort_perm : ∀ l : List Nat, (sortOffers l).Perm l
  | [] => List.Perm.refl _
  | o :: l => (ins_perm o _).trans ((sort_perm l).cons o)
theorem sort_sorted : ∀ l : List Nat, (sortOffers l).Pairwise (· ≤ ·)
  | [] => List.Pairwise.nil
  | o :: l => ins_sorted o _ (sort_sorted l)
theorem sorted_is {os : List Nat} {ns : List Int} (h1 : ns.Perm (os.map fun n : Nat => (n : Int))) (h2 : ns.Pairwise (· ≤ ·)) : ns = (sortOffers os).map fun n : Nat => (n : Int) :=
  List.Perm.eq_of_pairwise (le := (· ≤ ·)) (fun a b _ _ x y => Int.le_antisymm x y) h2 (List.pairwise_map.mpr ((sort_sorted os).imp fun {a b} h => by omega)) (h1.trans ((sort_perm os).map _).symm)
theorem best0 (v : Nat) : ∀ l : List Nat, (bestFrom v l 0).2 = []
  | [] => by unfold bestFrom; rfl
  | _ :: _ => by unfold bestFrom; rfl
/-- the entry at a place, 0 before the first -/
def valP (own : List Nat) : Nat → Nat
  | 0 => 0
  | p + 1 => own.getD p 0
/-- one turn -/
def cellOf (o v : Nat) (keep new : Nat × List Nat) (l : Nat) : Nat × List Nat := if 0 < l ∧ new.1 < keep.1 + o - v then (new.1, o :: new.2) else (keep.1 + o - v, keep.2)
theorem best_step {own : List Nat} {i p l : Nat} (hs : own.Pairwise (· ≤ ·)) (hi : i < own.length) (hp : p ≤ i) :
    bestFrom (valP own p) (own.drop i) l = cellOf (own.getD i 0) (valP own p) (bestFrom (valP own p) (own.drop (i + 1)) l) (bestFrom (valP own (i + 1)) (own.drop (i + 1)) (l - 1)) l := by
  have e : own.getD i 0 = own[i] := by simp [List.getD, hi]
  have hv : valP own p ≤ own[i] := by
    cases p with
    | zero => exact Nat.zero_le _
    | succ p =>
      show own.getD p 0 ≤ _
      have hp2 : p < own.length := by omega
      have e2 : own.getD p 0 = own[p] := by simp [List.getD, hp2]
      rw [e2]
      exact List.pairwise_iff_getElem.mp hs p i hp2 hi (by omega)
  rw [List.drop_eq_getElem_cons hi]
  unfold cellOf
  rw [e]
  have ev : valP own (i + 1) = own[i] := e
  rw [ev]
  cases l with
  | zero =>
    rw [if_neg (fun z => absurd z.1 (Nat.lt_irrefl 0)), best0]
    show ((own[i] - valP own p) + (bestFrom (valP own p) (own.drop (i + 1)) 0).1, ([] : List Nat)) = _
    congr 1
    omega
  | succ m =>
    show (if (own[i] - valP own p) + (bestFrom (valP own p) (own.drop (i + 1)) (m + 1)).1 ≤ (bestFrom own[i] (own.drop (i + 1)) m).1 then ((own[i] - valP own p) + (bestFrom (valP own p) (own.drop (i + 1)) (m + 1)).1, (bestFrom (valP own p) (own.drop (i + 1)) (m + 1)).2) else ((bestFrom own[i] (own.drop (i + 1)) m).1, own[i] :: (bestFrom own[i] (own.drop (i + 1)) m).2)) = _
    rw [Nat.add_sub_cancel]
    by_cases c : (bestFrom own[i] (own.drop (i + 1)) m).1 < (bestFrom (valP own p) (own.drop (i + 1)) (m + 1)).1 + own[i] - valP own p
    · rw [if_neg (by omega), if_pos ⟨Nat.succ_pos m, c⟩]
    · rw [if_pos (by omega), if_neg (fun z => c z.2)]
      congr 1
      omega
end
theorem best_len : ∀ (l : List Nat) (v m : Nat), (R7293g.Spec.bestFrom v l m).2.length ≤ m
  | [], v, m => by
    unfold R7293g.Spec.bestFrom
    exact Nat.zero_le _
  | o :: r, v, 0 => by
    unfold R7293g.Spec.bestFrom
    exact Nat.le_refl _
  | o :: r, v, m + 1 => by
    have h1 := best_len r v (m + 1)
    have h2 := best_len r o m
    unfold R7293g.Spec.bestFrom
    split
    · exact h1
    · exact Nat.succ_le_succ h2
abbrev keyK (p l : Nat) : List Key := [.inl ((p : Int) - 1), .inl (l : Int)]
theorem keyK_inj {p l p' l' : Nat} (h : keyK p l = keyK p' l') : p = p' ∧ l = l' := by
  have h1 := (List.cons.inj h).1
  have h2 := (List.cons.inj (List.cons.inj h).2).1
  have h1 := Sum.inl.inj h1
  have h2 := Sum.inl.inj h2
  omega
/-- a table of the places in S -/
def DTab (K : PySem.W.Frag) (H : Hp) (kvs : List (List Key × V)) (S : Nat → Nat → Prop) (f : Nat → Nat → Nat × List Nat) : Prop := ∀ p l, S p l → ∃ t e, valV kvs (keyK p l) = some (.ref t) ∧ SqT K H t [natV (f p l).1, .ref e] ∧ SqT K H e ((f p l).2.map natV)
theorem DTab.put {K : PySem.W.Frag} {H H' : Hp} {kvs : List (List Key × V)} {S S' : Nat → Nat → Prop} {f : Nat → Nat → Nat × List Nat} {p l : Nat} {t e : Addr} (h : DTab K H kvs S f) (x : TX K H H') (h1 : SqT K H' t [natV (f p l).1, .ref e]) (h2 : SqT K H' e ((f p l).2.map natV)) (hS : ∀ p' l', S' p' l' → S p' l' ∨ (p' = p ∧ l' = l)) :
    DTab K H' (putK kvs (keyK p l) (.ref t)) S' f := fun p' l' hs => by
  rw [valV_put]
  by_cases c : keyK p' l' = keyK p l
  · obtain ⟨rfl, rfl⟩ := keyK_inj c
    rw [if_pos rfl]
    exact ⟨t, e, rfl, h1, h2⟩
  · rw [if_neg c]
    rcases hS p' l' hs with z | ⟨rfl, rfl⟩
    · obtain ⟨t', e', a1, a2, a3⟩ := h p' l' z
      exact ⟨t', e', a1, x _ _ a2, x _ _ a3⟩
    · exact absurd rfl c
theorem DTab.mono {K : PySem.W.Frag} {H H' : Hp} {kvs : List (List Key × V)} {S : Nat → Nat → Prop} {f : Nat → Nat → Nat × List Nat} (h : DTab K H kvs S f) (x : TX K H H') : DTab K H' kvs S f := fun p l hs => by
  obtain ⟨t, e, a1, a2, a3⟩ := h p l hs
  exact ⟨t, e, a1, x _ _ a2, x _ _ a3⟩
theorem put_len {κ : Type} [DecidableEq κ] (kvs : List (κ × V)) (k : κ) (v : V) : (putK kvs k v).length ≤ kvs.length + 1 := by
  unfold putK
  split
  · rw [List.length_map]
    omega
  · rw [List.length_append, List.length_singleton]
    exact Nat.le_refl _
def XDP (D : Ends) (σ : L2.St) (v x y : V) (H : Hp) : Prop := ∃ a H4, x = .ref a ∧ DPut H a y v H4 ∧ D.nx σ H4
theorem s_dput {td ty tv : TE} {D : Ends} {σ : L2.St} {H : Hp} (h : tv σ H fun v H1 => td σ H1 fun x H2 => ty σ H2 fun y H3 => XDP D σ v x y H3) : sDPut td ty tv D σ H := h
theorem x_dpT {D : Ends} {σ : L2.St} {H : Hp} {a b : Addr} {v : V} {kvs : List (List Key × V)} {k : List Key} (h : H a = some (.dT kvs)) (hb : H b = some (.tup (k.map kV))) (hl : kvs.length ≤ 1000000) (q : D.nx σ (upd H a (.dT (putK kvs k v)))) : XDP D σ v (.ref a) (.ref b) H :=
  ⟨a, _, rfl, DPut.t h hb (Nat.lt_of_le_of_lt hl (by decide)), q⟩
theorem x_dgT {H : Hp} {Q : VK} {a b : Addr} {kvs : List (List Key × V)} {k : List Key} {v : V} (h : H a = some (.dT kvs)) (hb : H b = some (.tup (k.map kV))) (hv : valV kvs k = some v) (q : Q v H) : XDG Q (.ref a) (.ref b) H :=
  ⟨a, v, rfl, by rw [← hv]; exact DGet.t h hb, q⟩
theorem s_dnewT {σ : L2.St} {H : Hp} {Q : VK} (q : ∀ p H', H p = none → Ex H H' → H' p = some (.dT []) → Q (.ref p) H') : tDNewT σ H Q := fun p hp => q p _ hp (Ex.new hp) upd_same
theorem s_catA {K : PySem.W.Frag} {H : Hp} {Q : VK} {a b : Addr} {x : V} {ys : List V} (ha : SqT K H a [x]) (hb : SqT K H b ys) (hl : ys.length ≤ 1000) (q : ∀ p H', Ex H H' → SqT K H' p (x :: ys) → Q (.ref p) H') : rCatA K (.ref a) (.ref b) H Q :=
  ⟨a, b, [x], ys, rfl, rfl, ha, hb, Nat.le_trans (show 1 + ys.length ≤ 1001 by omega) (by decide), (fun z => by cases z), (fun _ z => by subst z; exact q a H (Ex.refl H) ha), fun _ _ p hp => q p _ (Ex.new hp) (st_of upd_same)⟩
def sp_best_table (K : PySem.W.Frag) : Sp := fun vs H Q _ => vs.length = 2 ∧ ∃ p os m, vs = [.ref p, natV m] ∧ SqL K H p (os.map natV) ∧ os.length ≤ 100 ∧ 1 ≤ m ∧ m ≤ 8 ∧
  ∀ t l H', Ex H H' → SqT K H' t [.ref l, natV (R7293g.Spec.bestTable os (m - 1)).1] → H' l = some (.lst ((R7293g.Spec.bestTable os (m - 1)).2.map natV)) → Q (.ref t) H'
def t_best_table (K : PySem.W.Frag) : TS :=
  (tSeq (tAsg (tCB (rSortedI K) (tCons (tVar 0) tNil)) (gName 2))
  (tSeq (tAsg (tCB (rLenS K) (tCons (tVar 2) tNil)) (gName 3))
  (tSeq (tAsg (tOp rCat (tVar 2) (tLst (tCons (tC (.int 0)) tNil))) (gName 4))
  (tSeq (tAsg tDNewT (gName 5))
  (tSeq (tFor (iRng2 (tCons (tUn (rU fun i => .int (-i)) (tC (.int 1))) (tCons (tVar 3) tNil))) (gName 6) (tFor (iRng1 (tCons (tVar 1) tNil)) (gName 8) (sDPut (tVar 5) (tTup (tCons (tVar 6) (tCons (tVar 8) tNil))) (tTup (tCons (tC (.int 0)) (tCons (tTup tNil) tNil))))))
  (tSeq (tFor (iRng3 (tCons (tOp rrSub (tVar 3) (tC (.int 1))) (tCons (tUn (rU fun i => .int (-i)) (tC (.int 1))) (tCons (tUn (rU fun i => .int (-i)) (tC (.int 1))) tNil)))) (gName 7) (tSeq (tAsg tDNewT (gName 9))
  (tSeq (tFor (iRng2 (tCons (tUn (rU fun i => .int (-i)) (tC (.int 1))) (tCons (tVar 7) tNil))) (gName 6) (tSeq (tAsg (tOp (rIxL K) (tVar 4) (tVar 6)) (gName 12))
  (tFor (iRng1 (tCons (tVar 1) tNil)) (gName 8) (tSeq (tAsg (tDGet (tVar 5) (tTup (tCons (tVar 6) (tCons (tVar 8) tNil)))) (gTup K 2 (gCons (gName 10) (gCons (gName 11) gNil))))
  (tSeq (tAsg (tTup (tCons (tOp rrSub (tOp rrAdd (tVar 10) (tOp (rIxL K) (tVar 2) (tVar 7))) (tVar 12)) (tCons (tVar 11) tNil))) (gName 13))
  (tSeq (tIfS (tTest (tOp rrGt (tVar 8) (tC (.int 0)))) (tSeq (tAsg (tDGet (tVar 5) (tTup (tCons (tVar 7) (tCons (tOp rrSub (tVar 8) (tC (.int 1))) tNil)))) (gTup K 2 (gCons (gName 14) (gCons (gName 15) gNil))))
  (tIfS (tTest (tOp rrLt (tVar 14) (tOp (rIxT K) (tVar 13) (tC (.int 0))))) (tAsg (tTup (tCons (tVar 14) (tCons (tOp (rCatA K) (tTup (tCons (tOp (rIxL K) (tVar 2) (tVar 7)) tNil)) (tVar 15)) tNil))) (gName 13)) tNext)) tNext)
  (sDPut (tVar 9) (tTup (tCons (tVar 6) (tCons (tVar 8) tNil))) (tVar 13))))))))
  (tAsg (tVar 9) (gName 5)))))
  (tSeq (tAsg (tDGet (tVar 5) (tTup (tCons (tUn (rU fun i => .int (-i)) (tC (.int 1))) (tCons (tOp rrSub (tVar 1) (tC (.int 1))) tNil)))) (gTup K 2 (gCons (gName 10) (gCons (gName 11) gNil))))
  (tRet (tTup (tCons (tOp rCat (tLst (tCons (tC (.int 0)) tNil)) (tCB (rListS K) (tCons (tVar 11) tNil))) (tCons (tVar 10) tNil)))))))))))
section
variable {P : Program} {w : World} {K : PySem.W.Frag} {mg : Str → Option Value} {base : Heap}
theorem pure_best_table (T : Tx K mg) (vs : List V) (H : Hp) (Q : VK) (E : XK) (h : sp_best_table K vs H Q E) : t_best_table K { nx := fun _ H' => Q .non H', rt := Q } (start ["offers", "many", "own", "size", "values", "known", "place", "at", "left", "earlier", "loss", "entries", "value", "found", "other", "more"] vs) H := by
  obtain ⟨_, p, os, m, rfl, hp, hn, hm1, hm8, q⟩ := h
  unfold t_best_table
  walk_at "ev"
  refine ⟨p, os.map (fun n : Nat => (n : Int)), rfl, by rw [List.map_map]; exact hp, fun ns O h1 h2 hO => ?_⟩
  obtain rfl := sorted_is h1 h2
  generalize hown : R7293g.Spec.sortOffers os = own
  have hlen : own.length = os.length := by rw [← hown]; exact (sort_perm os).length_eq
  have hsort : own.Pairwise (· ≤ ·) := by rw [← hown]; exact sort_sorted os
  have eO : ((own.map fun n : Nat => (n : Int)).map V.int) = own.map natV := by rw [List.map_map]; rfl
  rw [eO]
  generalize hH1 : upd H O (.lst (own.map natV)) = H1
  have x1 : Ex H H1 := by rw [← hH1]; exact Ex.new hO
  have hO1 : H1 O = some (.lst (own.map natV)) := by rw [← hH1]; exact upd_same
  walk_at "ev"
  rename_i z1 A1 hz1 xA1 hA1
  refine s_cat (xA1 _ _ hO1) hA1 (by rw [List.length_map]; show own.length + 1 ≤ sizeLine; exact Nat.le_trans (show own.length + 1 ≤ 101 by omega) (by decide)) fun VA H2 hVA x2 hVA2 => ?_
  have hO2 := x2 _ _ (xA1 _ _ hO1)
  have x2 : Ex H H2 := Ex.trans x1 (Ex.trans xA1 x2)
  walk_at "ev"
  refine s_dnewT fun k H3 hk x3 hk3 => ?_
  walk_at "ev"
  rw [List.length_map]
  have kN : ∀ {H' : Hp}, Ex H2 H' → H' O = some (.lst (own.map natV)) := fun e => e _ _ hO2
  let f0 : Nat → Nat → Nat × List Nat := fun p l => R7293g.Spec.bestFrom (valP own p) (own.drop own.length) l
  refine x_r2 (n := own.length + 1) (.inl (by omega)) ⟨by decide, by decide⟩ ⟨by omega, by omega⟩ (fun i σ H' => Ex H2 H' ∧ (∃ kvs, H' k = some (.dT kvs) ∧ kvs.length ≤ i * m ∧ DTab K H' kvs (fun p l => p < i ∧ l < m) f0) ∧ ∃ a6 a8, σ = [some (.ref p), some (natV m), some (.ref O), some (natV own.length), some (.ref VA), some (.ref k), a6, none, a8, none, none, none, none, none, none, none])
    ⟨x3, ⟨[], hk3, Nat.zero_le _, fun p l z => absurd z.1 (Nat.not_lt_zero _)⟩, none, none, rfl⟩ (fun i σ H' hi P => ?_) (fun σ H' P => ?_)
  · obtain ⟨xh, ⟨kvs, hkv, hkl, hT⟩, a6, a8, rfl⟩ := P
    walk_at "ev"
    refine x_r1 (n := m) (by omega) (fun j σ H' => Ex H2 H' ∧ (∃ kvs, H' k = some (.dT kvs) ∧ kvs.length ≤ i * m + j ∧ DTab K H' kvs (fun p l => (p < i ∧ l < m) ∨ (p = i ∧ l < j)) f0) ∧ ∃ a8, σ = [some (.ref p), some (natV m), some (.ref O), some (natV own.length), some (.ref VA), some (.ref k), some (.int (-1 + i)), none, a8, none, none, none, none, none, none, none])
      ⟨xh, ⟨kvs, hkv, hkl, fun p l z => hT p l (z.elim id fun z => absurd z.2 (Nat.not_lt_zero _))⟩, _, rfl⟩ (fun j σ H' hj P => ?_) (fun σ H' P => ?_)
    · obtain ⟨xh, ⟨kvs, hkv, hkl, hT⟩, a8, rfl⟩ := P
      walk_at "ev"
      with_reducible refine s_dput ?_
      walk_at "ev"
      rename_i e1 G1 _ y1 g1 t1 G2 _ y2 g2 b1 G3 _ y3 g3
      have y := Ex.trans y1 (Ex.trans y2 y3)
      have bnd : i * m ≤ 101 * 8 := Nat.mul_le_mul (by omega) hm8
      refine x_dpT (k := keyK i j) (y _ _ hkv) (by rw [g3]; show some (HO.tup [V.int (-1 + (i : Int)), natV j]) = some (HO.tup [V.int ((i : Int) - 1), natV j]); rw [show (-1 + (i : Int)) = (i : Int) - 1 by omega]) (by omega) ?_
      walk_at "ev"
      have yk := y _ _ hkv
      have t4 : TX K G3 (upd G3 k (.dT (putK kvs (keyK i j) (.ref t1)))) := tx_upd yk rfl
      have hf : f0 i j = (0, []) := by
        show R7293g.Spec.bestFrom _ (own.drop own.length) _ = _
        rw [List.drop_length]
        unfold R7293g.Spec.bestFrom
        rfl
      refine ⟨Ex.mut (Ex.trans xh y) (hk), ⟨_, upd_same, Nat.le_trans (put_len _ _ _) (by omega), (hT.put (e := e1) ((TX.of y).trans t4) (t4 _ _ (by rw [hf]; exact st_of (y3 _ _ g2))) (t4 _ _ (by rw [hf]; exact st_of (y3 _ _ (y2 _ _ g1)))) fun p' l' z => ?_)⟩, _, rfl⟩
      rcases z with z | ⟨z1, z2⟩
      · exact .inl (.inl z)
      · by_cases c : l' = j
        · exact .inr ⟨z1, c⟩
        · exact .inl (.inr ⟨z1, by omega⟩)
    · obtain ⟨xh, ⟨kvs, hkv, hkl, hT⟩, a8, rfl⟩ := P
      refine ⟨xh, ⟨kvs, hkv, by rw [Nat.succ_mul]; exact hkl, fun p l z => hT p l ?_⟩, _, _, rfl⟩
      by_cases c : p = i
      · exact .inr ⟨c, z.2⟩
      · exact .inl ⟨by omega, z.2⟩
  obtain ⟨xh, ⟨kvs, hkv, hkl, hT⟩, a6, a8, rfl⟩ := P
  clear hkl
  walk_at "ev"
  have hrg : RgC ((own.length : Int) - 1) (-1) (-1) own.length := by
    have := RgC.neg (i := (own.length : Int) - 1) (j := -1) (by omega) (by omega) (by decide) (by decide)
    rw [show ((own.length : Int) - 1 - -1).toNat = own.length by omega] at this
    exact this
  let fs : Nat → Nat → Nat → Nat × List Nat := fun s p l => R7293g.Spec.bestFrom (valP own p) (own.drop s) l
  refine x_r3 (n := own.length) hrg (fun i σ H' => Ex H2 H' ∧ ∃ k, H2 k = none ∧ (∃ kvs, H' k = some (.dT kvs) ∧ DTab K H' kvs (fun p l => p < own.length - i + 1 ∧ l < m) (fs (own.length - i))) ∧ ∃ a6 a7 a8 a9 a10 a11 a12 a13 a14 a15, σ = [some (.ref p), some (natV m), some (.ref O), some (natV own.length), some (.ref VA), some (.ref k), a6, a7, a8, a9, a10, a11, a12, a13, a14, a15])
    ⟨xh, k, hk, ⟨kvs, hkv, hT⟩, _, _, _, _, _, _, _, _, _, _, rfl⟩ (fun i σ H' hi P => ?_) (fun σ H' P => ?_)
  · clear hT hkv xh x3 hk3 hk k kvs
    obtain ⟨xh, k, hk, ⟨kvs, hkv, hT⟩, a6, a7, a8, a9, a10, a11, a12, a13, a14, a15, rfl⟩ := P
    obtain ⟨t, ht⟩ : ∃ t, t + 1 + i = own.length := ⟨own.length - 1 - i, by omega⟩
    have et : ((own.length : Int) - 1 + (i : Nat) * -1) = (t : Int) := by omega
    have es : own.length - i = t + 1 := by omega
    have es2 : own.length - (i + 1) = t := by omega
    rw [et]
    rw [es] at hT
    rw [es2]
    have htl : t < own.length := by omega
    walk_at "ev"
    refine s_dnewT fun e H5 he x5 he5 => ?_
    walk_at "ev"
    have hek : e ≠ k := fun z => by
      rw [z, hkv] at he
      cases he
    have he2 : H2 e = none := Ex.fr xh he
    refine x_r2 (n := t + 1) (.inl (by omega)) ⟨by decide, by decide⟩ ⟨by omega, by omega⟩ (fun j σ H' => Ex H2 H' ∧ H' k = some (.dT kvs) ∧ DTab K H' kvs (fun p l => p < t + 1 + 1 ∧ l < m) (fs (t + 1)) ∧ (∃ kve, H' e = some (.dT kve) ∧ kve.length ≤ j * m ∧ DTab K H' kve (fun p l => p < j ∧ l < m) (fs t)) ∧
        ∃ a6 a8 a10 a11 a12 a13 a14 a15, σ = [some (.ref p), some (natV m), some (.ref O), some (natV own.length), some (.ref VA), some (.ref k), a6, some (natV t), a8, some (.ref e), a10, a11, a12, a13, a14, a15])
      ⟨Ex.trans xh x5, x5 _ _ hkv, hT.mono (TX.of x5), ⟨[], he5, Nat.zero_le _, fun p l z => absurd z.1 (Nat.not_lt_zero _)⟩, _, _, _, _, _, _, _, _, rfl⟩ (fun j σ H' hj P => ?_) (fun σ H' P => ?_)
    · clear hT hkv xh x5 he5
      obtain ⟨xh, hkv, hT, ⟨kve, hke, hkl, hE⟩, a6, a8, a10, a11, a12, a13, a14, a15, rfl⟩ := P
      have hva := xh _ _ hVA2
      have hat : atI (own.map natV ++ [V.int 0]) (-1 + (j : Int)) = some (natV (valP own j)) := by
        cases j with
        | zero =>
          unfold atI ixN
          rw [if_neg (by decide), List.length_append, List.length_map, List.length_singleton, if_pos (by omega)]
          show (own.map natV ++ [V.int 0])[(-1 + ((0 : Nat) : Int) + ((own.length + 1 : Nat) : Int)).toNat]? = _
          rw [show (-1 + ((0 : Nat) : Int) + ((own.length + 1 : Nat) : Int)).toNat = (own.map natV).length by rw [List.length_map]; omega, List.getElem?_append_right (Nat.le_refl _), Nat.sub_self]
          rfl
        | succ j =>
          rw [show (-1 + ((j + 1 : Nat) : Int)) = (j : Int) by omega]
          refine atI_nat ?_
          have hjl : j < own.length := by omega
          rw [List.getElem?_append_left (by rw [List.length_map]; exact hjl), List.getElem?_map]
          show _ = some (natV (own.getD j 0))
          simp [hjl]
      walk_at "ev"
      try (refine s_ixL (sq_of hva) hat ?_; walk_at "ev")
      refine x_r1 (n := m) (by omega) (fun l σ H' => Ex H2 H' ∧ H' k = some (.dT kvs) ∧ DTab K H' kvs (fun p l => p < t + 1 + 1 ∧ l < m) (fs (t + 1)) ∧ (∃ kve, H' e = some (.dT kve) ∧ kve.length ≤ j * m + l ∧ DTab K H' kve (fun p l' => (p < j ∧ l' < m) ∨ (p = j ∧ l' < l)) (fs t)) ∧
          ∃ a8 a10 a11 a13 a14 a15, σ = [some (.ref p), some (natV m), some (.ref O), some (natV own.length), some (.ref VA), some (.ref k), some (.int (-1 + j)), some (natV t), a8, some (.ref e), a10, a11, some (natV (valP own j)), a13, a14, a15])
        ⟨xh, hkv, hT, ⟨kve, hke, hkl, fun p l z => hE p l (z.elim id fun z => absurd z.2 (Nat.not_lt_zero _))⟩, _, _, _, _, _, _, rfl⟩ (fun l σ H' hl P => ?_) (fun σ H' P => ?_)
      · clear hT hkv xh hke hkl hE hva
        obtain ⟨xh, hkv, hT, ⟨kve, hke, hkl, hE⟩, a8, a10, a11, a13, a14, a15, rfl⟩ := P
        have bnd : j * m ≤ 101 * 8 := Nat.mul_le_mul (by omega) hm8
        have hown' := xh _ _ hO2
        have hat2 : atI (own.map natV) ((t : Nat) : Int) = some (natV (own.getD t 0)) := atI_nat (by
          rw [List.getElem?_map]
          simp [htl])
        have hv : valP own j ≤ own.getD t 0 := by
          cases j with
          | zero => exact Nat.zero_le _
          | succ j =>
            show own.getD j 0 ≤ _
            have hjl : j < own.length := by omega
            have q1 : own.getD j 0 = own[j] := by simp [List.getD, hjl]
            have q2 : own.getD t 0 = own[t] := by simp [List.getD, htl]
            rw [q1, q2]
            exact List.pairwise_iff_getElem.mp hsort j t hjl htl (by omega)
        have hcell : fs t j l = cellOf (own.getD t 0) (valP own j) (fs (t + 1) j l) (fs (t + 1) (t + 1) (l - 1)) l := best_step hsort htl (by omega)
        obtain ⟨tk, ek, v1, v2, v3⟩ := hT j l ⟨by omega, hl⟩
        walk_at "ev"
        refine s_dget ?_
        walk_at "ev"
        rename_i b1 G1 _ y1 g1
        refine x_dgT (k := keyK j l) (y1 _ _ hkv) (by rw [g1]; show some (HO.tup [V.int (-1 + (j : Int)), natV l]) = some (HO.tup [V.int ((j : Int) - 1), natV l]); rw [show (-1 + (j : Int)) = (j : Int) - 1 by omega]) v1 ?_
        refine s_pair (ex_t y1 v2) ?_
        have hown1 := y1 _ _ hown'
        walk_at "ev"
        try (refine s_ixL (sq_of hown1) hat2 ?_; walk_at "ev")
        rename_i F G2 _ y2 g2
        have hfi : (((fs (t + 1) j l).1 : Int) + ((own.getD t 0 : Nat) : Int)) - ((valP own j : Nat) : Int) = (((fs (t + 1) j l).1 + own.getD t 0 - valP own j : Nat) : Int) := by omega
        have g2 : G2 F = some (.tup [natV ((fs (t + 1) j l).1 + own.getD t 0 - valP own j), .ref ek]) := by
          rw [g2]
          show some (HO.tup [V.int ((((fs (t + 1) j l).1 : Int) + ((own.getD t 0 : Nat) : Int)) - ((valP own j : Nat) : Int)), .ref ek]) = _
          rw [hfi]
        have y12 := Ex.trans y1 y2
        have sF := st_of (K := K) g2
        have sE := ex_t y12 v3
        refine ite_b (fun c => ?_) (fun c => ?_)
        · have c := of_decide_eq_true c
          obtain ⟨tn, en, w1, w2, w3⟩ := hT (t + 1) (l - 1) ⟨by omega, by omega⟩
          walk_at "ev"
          refine s_dget ?_
          walk_at "ev"
          rename_i b3 G3 _ y3 g3
          have y13 := Ex.trans y12 y3
          refine x_dgT (k := keyK (t + 1) (l - 1)) (y13 _ _ hkv) (by rw [g3]; show some (HO.tup [V.int ((t : Nat) : Int), V.int ((l : Int) - 1)]) = some (HO.tup [V.int (((t + 1 : Nat) : Int) - 1), V.int ((l - 1 : Nat) : Int)]); rw [show ((t + 1 : Nat) : Int) - 1 = (t : Int) by omega, show ((l - 1 : Nat) : Int) = (l : Int) - 1 by omega]) w1 ?_
          refine s_pair (ex_t y13 w2) ?_
          have hown3 := y13 _ _ hown'
          have sF3 := ex_t y3 sF
          walk_at "ev"
          try (refine s_ixT sF3 rfl ?_; walk_at "ev")
          have ec : decide (((fs (t + 1) (t + 1) (l - 1)).1 : Int) < (((fs (t + 1) j l).1 + own.getD t 0 - valP own j : Nat) : Int)) = decide ((fs (t + 1) (t + 1) (l - 1)).1 < (fs (t + 1) j l).1 + own.getD t 0 - valP own j) := by
            rw [Bool.eq_iff_iff]
            simp only [decide_eq_true_eq]
            omega
          show (if decide (((fs (t + 1) (t + 1) (l - 1)).1 : Int) < (((fs (t + 1) j l).1 + own.getD t 0 - valP own j : Nat) : Int)) = true then _ else _)
          rw [ec]
          refine ite_b (fun c2 => ?_) (fun c2 => ?_)
          · have c2 := of_decide_eq_true c2
            have hcell : fs t j l = ((fs (t + 1) (t + 1) (l - 1)).1, own.getD t 0 :: (fs (t + 1) (t + 1) (l - 1)).2) := by
              rw [hcell]
              unfold cellOf
              rw [if_pos ⟨by omega, c2⟩]
            walk_at "ev"
            try (refine s_ixL (sq_of hown3) hat2 ?_; walk_at "ev")
            rename_i O1 G4 _ y4 g4
            have hen := ex_t (Ex.trans y13 y4) w3
            have hl8 := best_len (own.drop (t + 1)) (valP own (t + 1)) (l - 1)
            refine s_catA (st_of g4) hen (by rw [List.length_map]; show (R7293g.Spec.bestFrom _ _ _).2.length ≤ 1000; omega) fun N G5 y5 g5 => ?_
            walk_at "ev"
            rename_i F2 G6 _ y6 g6
            have y16 := Ex.trans y13 (Ex.trans y4 (Ex.trans y5 y6))
            with_reducible refine s_dput ?_
            walk_at "ev"
            rename_i B1 G9 _ y9 g9
            have yk := y9 _ _ (y16 _ _ hke)
            have t9 : TX K G9 (upd G9 e (.dT (putK kve (keyK j l) (.ref F2)))) := tx_upd yk rfl
            refine x_dpT (k := keyK j l) yk (by rw [g9]; show some (HO.tup [V.int (-1 + (j : Int)), natV l]) = some (HO.tup [V.int ((j : Int) - 1), natV l]); rw [show (-1 + (j : Int)) = (j : Int) - 1 by omega]) (by omega) ?_
            walk_at "ev"
            have yy : Ex H' G9 := Ex.trans y16 y9
            refine ⟨Ex.mut (Ex.trans xh yy) he2, (by rw [upd_ne (fun z => hek z.symm)]; exact yy _ _ hkv), hT.mono ((TX.of yy).trans t9), ⟨_, upd_same, Nat.le_trans (put_len _ _ _) (by omega), (hE.put (e := N) ((TX.of yy).trans t9) (t9 _ _ (by rw [hcell]; exact ex_t y9 (st_of g6))) (t9 _ _ (by rw [hcell]; exact ex_t (Ex.trans y6 y9) g5)) fun p' l' z => ?_)⟩, _, _, _, _, _, _, rfl⟩
            rcases z with z | ⟨z1, z2⟩
            · exact .inl (.inl z)
            · by_cases c9 : l' = l
              · exact .inr ⟨z1, c9⟩
              · exact .inl (.inr ⟨z1, by omega⟩)
          · have c2 := of_decide_eq_false c2
            have hcell : fs t j l = ((fs (t + 1) j l).1 + own.getD t 0 - valP own j, (fs (t + 1) j l).2) := by
              rw [hcell]
              unfold cellOf
              rw [if_neg (fun z => c2 z.2)]
            walk_at "ev"
            with_reducible refine s_dput ?_
            walk_at "ev"
            rename_i B1 G9 _ y9 g9
            have yk := y9 _ _ (y13 _ _ hke)
            have t9 : TX K G9 (upd G9 e (.dT (putK kve (keyK j l) (.ref F)))) := tx_upd yk rfl
            refine x_dpT (k := keyK j l) yk (by rw [g9]; show some (HO.tup [V.int (-1 + (j : Int)), natV l]) = some (HO.tup [V.int ((j : Int) - 1), natV l]); rw [show (-1 + (j : Int)) = (j : Int) - 1 by omega]) (by omega) ?_
            walk_at "ev"
            have yy : Ex H' G9 := Ex.trans y13 y9
            refine ⟨Ex.mut (Ex.trans xh yy) he2, (by rw [upd_ne (fun z => hek z.symm)]; exact yy _ _ hkv), hT.mono ((TX.of yy).trans t9), ⟨_, upd_same, Nat.le_trans (put_len _ _ _) (by omega), (hE.put (e := ek) ((TX.of yy).trans t9) (t9 _ _ (by rw [hcell]; exact ex_t (Ex.trans y3 y9) sF)) (t9 _ _ (by rw [hcell]; exact ex_t (Ex.trans y3 y9) sE)) fun p' l' z => ?_)⟩, _, _, _, _, _, _, rfl⟩
            rcases z with z | ⟨z1, z2⟩
            · exact .inl (.inl z)
            · by_cases c9 : l' = l
              · exact .inr ⟨z1, c9⟩
              · exact .inl (.inr ⟨z1, by omega⟩)
        · have c := of_decide_eq_false c
          have hcell : fs t j l = ((fs (t + 1) j l).1 + own.getD t 0 - valP own j, (fs (t + 1) j l).2) := by
            rw [hcell]
            unfold cellOf
            rw [if_neg (fun z => by omega)]
          walk_at "ev"
          with_reducible refine s_dput ?_
          walk_at "ev"
          rename_i B1 G9 _ y9 g9
          have yk := y9 _ _ (y12 _ _ hke)
          have t9 : TX K G9 (upd G9 e (.dT (putK kve (keyK j l) (.ref F)))) := tx_upd yk rfl
          refine x_dpT (k := keyK j l) yk (by rw [g9]; show some (HO.tup [V.int (-1 + (j : Int)), natV l]) = some (HO.tup [V.int ((j : Int) - 1), natV l]); rw [show (-1 + (j : Int)) = (j : Int) - 1 by omega]) (by omega) ?_
          walk_at "ev"
          have yy : Ex H' G9 := Ex.trans y12 y9
          refine ⟨Ex.mut (Ex.trans xh yy) he2, (by rw [upd_ne (fun z => hek z.symm)]; exact yy _ _ hkv), hT.mono ((TX.of yy).trans t9), ⟨_, upd_same, Nat.le_trans (put_len _ _ _) (by omega), (hE.put (e := ek) ((TX.of yy).trans t9) (t9 _ _ (by rw [hcell]; exact ex_t y9 sF)) (t9 _ _ (by rw [hcell]; exact ex_t y9 sE)) fun p' l' z => ?_)⟩, _, _, _, _, _, _, rfl⟩
          rcases z with z | ⟨z1, z2⟩
          · exact .inl (.inl z)
          · by_cases c9 : l' = l
            · exact .inr ⟨z1, c9⟩
            · exact .inl (.inr ⟨z1, by omega⟩)
      · clear hT hkv xh hke hkl hE hva
        obtain ⟨xh, hkv, hT, ⟨kve, hke, hkl, hE⟩, a8, a10, a11, a13, a14, a15, rfl⟩ := P
        refine ⟨xh, hkv, hT, ⟨kve, hke, by rw [Nat.succ_mul]; exact hkl, fun p l z => hE p l ?_⟩, _, _, _, _, _, _, _, _, rfl⟩
        by_cases c : p = j
        · exact .inr ⟨c, z.2⟩
        · exact .inl ⟨by omega, z.2⟩
    · clear hT hkv xh x5 he5
      obtain ⟨xh, hkv, hT, ⟨kve, hke, hkl, hE⟩, a6, a8, a10, a11, a12, a13, a14, a15, rfl⟩ := P
      walk_at "ev"
      exact ⟨xh, e, he2, ⟨kve, hke, hE⟩, _, _, _, _, _, _, _, _, _, _, rfl⟩
  · clear hT hkv xh x3 hk3 hk k kvs
    obtain ⟨xh, k, hk, ⟨kvs, hkv, hT⟩, a6, a7, a8, a9, a10, a11, a12, a13, a14, a15, rfl⟩ := P
    rw [Nat.sub_self] at hT
    obtain ⟨tk, ek, v1, v2, v3⟩ := hT 0 (m - 1) ⟨by omega, by omega⟩
    walk_at "ev"
    refine s_dget ?_
    walk_at "ev"
    rename_i b1 G1 _ y1 g1
    refine x_dgT (k := keyK 0 (m - 1)) (y1 _ _ hkv) (by rw [g1]; show some (HO.tup [V.int (-1), V.int ((m : Int) - 1)]) = some (HO.tup [V.int (((0 : Nat) : Int) - 1), V.int ((m - 1 : Nat) : Int)]); rw [show ((0 : Nat) : Int) - 1 = -1 by omega, show ((m - 1 : Nat) : Int) = (m : Int) - 1 by omega]) v1 ?_
    refine s_pair (ex_t y1 v2) ?_
    have v3 := ex_t y1 v3
    walk_at "ev"
    rename_i Z G2 _ y2 g2
    refine s_listT (ex_t y2 v3) fun M G3 _ y3 g3 => ?_
    walk_at "ev"
    have hl8 := best_len (own.drop 0) (valP own 0) (m - 1)
    refine s_cat (y3 _ _ g2) g3 (by rw [List.length_map]; exact Nat.le_trans (show 1 + (fs 0 0 (m - 1)).2.length ≤ 9 by show 1 + (R7293g.Spec.bestFrom _ _ _).2.length ≤ 9; omega) (by decide)) fun L G4 _ y4 g4 => ?_
    walk_at "ev"
    rename_i TT G5 _ y5 g5
    have eB : R7293g.Spec.bestTable os (m - 1) = ((fs 0 0 (m - 1)).1, 0 :: (fs 0 0 (m - 1)).2) := by
      unfold R7293g.Spec.bestTable
      rw [hown]
      rfl
    rw [eB] at q
    exact q TT L G5 (Ex.trans x2 (Ex.trans xh (Ex.trans y1 (Ex.trans y2 (Ex.trans y3 (Ex.trans y4 y5)))))) (st_of g5) (y5 _ _ g4)
theorem ok_best_table (T : Tx K mg) : Pk P w K mg base CX0 "best_table" ["offers", "many"] 1 (sp_best_table K) := by
  obtain ⟨fd, F⟩ := T.fn 1 (p := ("best_table", none)) (n := "best_table") (q := "best_table") (st := s_best_table)
  refine ⟨⟨_, fd, T.glo 1, F.kp, F.bindsN fun _ _ _ _ _ _ us hl => match us, hl with | [_, _], _ => rfl, F.ok sc_best_table (fun _ _ _ _ h => h.1) fun cdv A outer s H vs Q E hr h => ⟨t_best_table K, PSs.nox ?_, pure_best_table T vs H Q E h⟩⟩⟩
  exact (pss_cons (ps_set (i := 2) sc_best_table.nd rfl (Or.inl rfl) (pe_callB cr_sortedI (by rfl) (T.free 45) (by decide +kernel) (pa_cons (pv 0) pa_nil)))
    (pss_cons (ps_set (i := 3) sc_best_table.nd rfl (Or.inl rfl) (pe_callB call_len_seq (by rfl) (T.free 40) PySem.boot_len (pa_cons (pv 2) pa_nil)))
    (pss_cons (ps_set (i := 4) sc_best_table.nd rfl (Or.inl rfl) (pe_op op_cat (pv 2) (pe_lst (pa_cons pe_int pa_nil))))
    (pss_cons (ps_set (i := 5) sc_best_table.nd rfl (Or.inl rfl) pe_dnewT)
    (pss_cons (ps_for PassesOwn.never rfl (pi_range2 (by rfl) (T.free 44) (pa_cons (pe_un un_neg pe_int) (pa_cons (pv 3) pa_nil))) (pg_name (i := 6) sc_best_table.nd rfl (Or.inl rfl)) (pss_one (ps_for PassesOwn.never rfl (pi_range1 (by rfl) (T.free 44) (pa_cons (pv 1) pa_nil)) (pg_name (i := 8) sc_best_table.nd rfl (Or.inl rfl)) (pss_one (ps_dput (hu_of hr) (pv 5) (pe_tup (pa_cons (pv 6) (pa_cons (pv 8) pa_nil))) (pe_tup (pa_cons pe_int (pa_cons (pe_tup pa_nil) pa_nil))) rfl)))))
    (pss_cons (ps_for PassesOwn.never rfl (pi_range3 (by rfl) (T.free 44) (pa_cons (pe_op op_sub (pv 3) pe_int) (pa_cons (pe_un un_neg pe_int) (pa_cons (pe_un un_neg pe_int) pa_nil)))) (pg_name (i := 7) sc_best_table.nd rfl (Or.inl rfl)) (pss_cons (ps_set (i := 9) sc_best_table.nd rfl (Or.inl rfl) pe_dnewT)
    (pss_cons (ps_for PassesOwn.never rfl (pi_range2 (by rfl) (T.free 44) (pa_cons (pe_un un_neg pe_int) (pa_cons (pv 7) pa_nil))) (pg_name (i := 6) sc_best_table.nd rfl (Or.inl rfl)) (pss_cons (ps_set (i := 12) sc_best_table.nd rfl (Or.inl rfl) (pe_ix ix_list (pv 4) (pv 6) (fun _ _ => rfl)))
    (pss_one (ps_for PassesOwn.never rfl (pi_range1 (by rfl) (T.free 44) (pa_cons (pv 1) pa_nil)) (pg_name (i := 8) sc_best_table.nd rfl (Or.inl rfl)) (pss_cons (ps_asg (pe_dget (hu_of hr) (pv 5) (pe_tup (pa_cons (pv 6) (pa_cons (pv 8) pa_nil))) (fun _ _ => rfl)) (pg_tup rfl (pgs_cons (pg_name (i := 10) sc_best_table.nd rfl (Or.inl rfl)) (pgs_cons (pg_name (i := 11) sc_best_table.nd rfl (Or.inl rfl)) pgs_nil))))
    (pss_cons (ps_set (i := 13) sc_best_table.nd rfl (Or.inl rfl) (pe_tup (pa_cons (pe_op op_sub (pe_op op_add (pv 10) (pe_ix ix_list (pv 2) (pv 7) (fun _ _ => rfl))) (pv 12)) (pa_cons (pv 11) pa_nil))))
    (pss_cons (ps_if (pt_cmpR op_gt (pv 8) pe_int (nomark _)) (pss_cons (ps_asg (pe_dget (hu_of hr) (pv 5) (pe_tup (pa_cons (pv 7) (pa_cons (pe_op op_sub (pv 8) pe_int) pa_nil))) (fun _ _ => rfl)) (pg_tup rfl (pgs_cons (pg_name (i := 14) sc_best_table.nd rfl (Or.inl rfl)) (pgs_cons (pg_name (i := 15) sc_best_table.nd rfl (Or.inl rfl)) pgs_nil))))
    (pss_one (ps_if (pt_cmpR op_lt (pv 14) (pe_ix ix_tup (pv 13) pe_int (fun _ _ => rfl)) (nomark _)) (pss_one (ps_set (i := 13) sc_best_table.nd rfl (Or.inl rfl) (pe_tup (pa_cons (pv 14) (pa_cons (pe_op op_catA (pe_tup (pa_cons (pe_ix ix_list (pv 2) (pv 7) (fun _ _ => rfl)) pa_nil)) (pv 15)) pa_nil))))) pss_nil))) pss_nil)
    (pss_one (ps_dput (hu_of hr) (pv 9) (pe_tup (pa_cons (pv 6) (pa_cons (pv 8) pa_nil))) (pv 13) rfl)))))))))
    (pss_one (ps_set (i := 5) sc_best_table.nd rfl (Or.inl rfl) (pv 9))))))
    (pss_cons (ps_asg (pe_dget (hu_of hr) (pv 5) (pe_tup (pa_cons (pe_un un_neg pe_int) (pa_cons (pe_op op_sub (pv 1) pe_int) pa_nil))) (fun _ _ => rfl)) (pg_tup rfl (pgs_cons (pg_name (i := 10) sc_best_table.nd rfl (Or.inl rfl)) (pgs_cons (pg_name (i := 11) sc_best_table.nd rfl (Or.inl rfl)) pgs_nil))))
    (pss_one (ps_ret (pe_tup (pa_cons (pe_op op_cat (pe_lst (pa_cons pe_int pa_nil)) (pe_callTy call_list_of (by rfl) (T.free 41) (by decide +kernel) (pa_cons (pv 11) pa_nil))) (pa_cons (pv 10) pa_nil))))))))))))
end
end Dk
namespace Dk
open PySem PySem.Spec PyProof.Rows L2 Evl RZ
local macro_rules | `(tactic| walk_at "hp") => `(tactic| first | assumption | exact L2.upd_same | (apply Dk.Ex.at (by assumption); walk_at "hp"))
local macro_rules | `(tactic| walk_at "hq") => `(tactic| first | assumption | (apply Evl.sq_of; walk_at "hp") | (apply Evl.st_of; walk_at "hp") | (apply Evl.ex_l (by assumption); walk_at "hq") | (apply Evl.ex_t (by assumption); walk_at "hq"))
local macro_rules | `(tactic| walk_at "ex") => `(tactic| first | exact Evl.Ex.refl _ | assumption | (refine Evl.Ex.trans ?_ (by assumption); walk_at "ex"))
local macro_rules | `(tactic| walk_at "e1") => `(tactic| first
  | (with_reducible refine if_t ?_) | (with_reducible refine if_f ?_) | (with_reducible refine s_seq ?_) | (with_reducible refine s_asg ?_) | (with_reducible refine s_name ?_) | (with_reducible refine s_drop ?_) | (with_reducible refine s_ret ?_) | (with_reducible refine s_nil ?_) | (with_reducible refine s_cons ?_)
  | (with_reducible refine s_c ?_)
  | ((with_reducible refine' s_var ?h1 ?_); (case h1 => rfl))
  | (with_reducible refine s_op ?_) | (with_reducible refine s_call ?_) | (with_reducible refine s_cb ?_) | (with_reducible refine s_fld ?_) | (with_reducible refine s_tup ?_) | (with_reducible refine s_lst ?_) | (with_reducible refine s_meth ?_) | (with_reducible refine s_test ?_) | (with_reducible refine s_B ?_)
  | (with_reducible refine s_not ?_) | (with_reducible refine s_xb ?_) | (with_reducible refine s_if ?_) | (with_reducible refine s_ifS ?_) | (with_reducible refine s_next ?_) | (with_reducible refine s_sfld ?_)
  | (with_reducible refine s_I0 ?_) | ((with_reducible refine' s_I ?h1 ?_); (case h1 => first | exact ⟨by decide, by decide⟩ | exact .inr ⟨by decide, by decide⟩ | (show (0 : Int) < _; decide) | (show (0 : Int) ≤ _; first | decide | omega) | exact ⟨by omega, by omega⟩))
  | ((with_reducible refine' s_xf ?h1 ?h2 ?h3 ?h4 ?_); (case h1 => walk_at "hp"); (case h2 => exact Tx.clsK (by assumption) (by decide +kernel)); (case h3 => exact Tx.noatK (by assumption) (by decide +kernel)); (case h4 => rfl))
  | ((with_reducible refine' s_xs ?h1 ?h2 ?h3 ?h4 ?h5 ?_); (case h1 => walk_at "hp"); (case h2 => exact Tx.clsK (by assumption) (by decide +kernel)); (case h3 => exact Tx.noatK (by assumption) (by decide +kernel)); (case h4 => exact Dk.lt_ble rfl); (case h5 => rfl))
  | ((with_reducible refine' s_eq ?h1 ?_); (case h1 => rfl)) | ((with_reducible refine' s_ne ?h1 ?_); (case h1 => rfl)) | (with_reducible refine s_isN ?_)
  | ((with_reducible refine' s_xt ?h1 ?_); (case h1 => exact Nat.le_of_ble_eq_true rfl); intro _ _ _ _ _)
  | ((with_reducible refine' s_xl ?h1 ?_); (case h1 => exact Nat.le_of_ble_eq_true rfl); intro _ _ _ _ _)
  | ((with_reducible refine' s_lenL ?h1 ?_); (case h1 => walk_at "hq")) | ((with_reducible refine' s_lenT ?h1 ?_); (case h1 => walk_at "hq"))
  | ((with_reducible refine' s_ixL ?h1 ?h2 ?_); (case h1 => walk_at "hq"); (case h2 => first | assumption | exact atI_0 | exact atI_1 | rfl))
  | ((with_reducible refine' s_ixT ?h1 ?h2 ?_); (case h1 => walk_at "hq"); (case h2 => first | assumption | exact atI_0 | exact atI_1 | rfl))
  | (with_reducible refine s_or ?_) | (with_reducible refine s_and ?_)
  | ((with_reducible refine' s_nin ?h1 ?h2 ?h3 ?_); (case h1 => walk_at "hq"); (case h2 => rfl); (case h3 => rfl))
  | (with_reducible refine s_tru ?_)
  | (with_reducible refine s_ip ?_) | (with_reducible refine s_for1 ?_) | (with_reducible refine s_for2 ?_) | (with_reducible refine s_for3 ?_) | (with_reducible refine s_forL ?_) | (with_reducible refine s_forT ?_) | (with_reducible refine s_lcL ?_) | (with_reducible refine s_lcT ?_) | (with_reducible refine s_lcS ?_) | (with_reducible refine s_lcE ?_) | (with_reducible refine s_lcZ ?_) | (with_reducible refine s_lcZA ?_) | (with_reducible refine s_lcR ?_) | (with_reducible refine s_chain ?_) | (with_reducible refine s_av ?_) | (with_reducible refine s_ov ?_) | (with_reducible refine s_yes ?_) | (with_reducible refine s_tbm ?_) | (with_reducible refine s_ord ?_) | (with_reducible refine s_raise ?_) | (with_reducible refine s_fldaug ?_) | (with_reducible refine s_add ?_) | (with_reducible refine s_slc ?_) | (with_reducible refine s_part ?_) | (with_reducible refine x_p1 ?_) | (with_reducible refine s_nopart ?_)
  | ((with_reducible refine' x_bm ?h1 ?_); (case h1 => walk_at "hq")) | (with_reducible refine s_par1 ?_) | (with_reducible refine s_un ?_) | (with_reducible refine s_uI ?_))
local macro_rules | `(tactic| walk_at "ev") => `(tactic| repeat walk_at "e1")
/-! ### on_tables -/
abbrev s_on_tables : Stmt := top 53
theorem sc_on_tables : FnScope ["number", "a", "good", "table", "loss", "entry"] ["number", "a"] (defScope s_on_tables) := ⟨rfl, rfl, rfl, by decide +kernel, rfl, by decide +kernel, by decide +kernel⟩
section
open R7293g.Spec
def tablesFn (number : Nat) (x y : RWire.Value) : Res Plain := if number = 0 then roundFn (Rust.taken x) (Rust.taken y) else bestFn (Rust.taken x) (Rust.taken y)
end
def sp_on_tables (K : PySem.W.Frag) : Sp := fun vs H Q E => vs.length = 2 ∧ ∃ number p x y l, vs = [natV number, .ref p] ∧ Args K H p (x :: y :: l) ∧ Out K E H (tablesFn number x y) fun r => ∀ a H', Ex H H' → VAt K H' (Rust.given r) a → Q (.ref a) H'
theorem offers_yes {v : RWire.Value} {ns : List Nat} {l : List R7293g.Spec.Plain} (h1 : Rust.taken v = .arr l) (h2 : l.length = ns.length) (h3 : R7293g.Spec.allSome (l.map (R7293g.Spec.integerIn 0 65535)) = some ns) (h4 : ns.length ≤ 100) : R7293g.Spec.offersArg (Rust.taken v) = .ok ns := by
  rw [h1]
  unfold R7293g.Spec.offersArg
  dsimp only
  rw [if_pos (by omega), show R7293g.Spec.maxOffer = 65535 from rfl, h3]
def t_on_tables (K : PySem.W.Frag) (E : XK) : TS :=
  (tSeq (tIfS (tTest (tOp rEq (tVar 0) (tC (.int 0)))) (tSeq (tAsg (tCall (sp_table_of K) [] E (tCons (tOp (rIxL K) (tVar 1) (tC (.int 0))) tNil)) (gName 3))
  (tRet (tCall (sp_integer K) [] E0 (tCons (tOp (rIxL K) (tVar 3) (tCall (sp_class_of K) [] E0 (tCons (tVar 3) (tCons (tCall (sp_number_for K) [] E (tCons (tOp (rIxL K) (tVar 1) (tC (.int 1))) (tCons (tC (.str "offer")) (tCons (tC (.int 65535)) tNil)))) tNil)))) tNil)))) tNext)
  (tSeq (tAsg (tCall (sp_are_numbers K) [] E0 (tCons (tOp (rIxL K) (tVar 1) (tC (.int 0))) (tCons (tC (.int 0)) (tCons (tC (.int 100)) (tCons (tC (.int 0)) (tCons (tC (.int 65535)) tNil)))))) (gName 2))
  (tSeq (tDrop (tCall (sp_need_kind K) [] E (tCons (tVar 2) (tCons (tC (.str "offers must be a list of at most 100 integers from 0 to 65535")) tNil))))
  (tSeq (tDrop (tCall (sp_need_kind K) [] E (tCons (tCall (sp_number_in K) [] E0 (tCons (tOp (rIxL K) (tVar 1) (tC (.int 1))) (tCons (tC (.int 1)) (tCons (tC (.int 8)) tNil)))) (tCons (tC (.str "entries must be an integer from 1 to 8")) tNil))))
  (tSeq (tAsg (tCall (sp_best_table K) [] E0 (tCons (tCall (sp_numbers_of K) [] E0 (tCons (tOp (rIxL K) (tVar 1) (tC (.int 0))) tNil)) (tCons (tOp (rIxT K) (tOp (rIxL K) (tVar 1) (tC (.int 1))) (tC (.int 1))) tNil))) (gTup K 2 (gCons (gName 3) (gCons (gName 4) gNil))))
  (tRet (tCall (sp_record K) [] E0 (tCons (tLst (tCons (tTup (tCons (tC (.str "table")) (tCons (tCall (sp_row K) [] E0 (tCons (tLc (iList K (tVar 3)) (gName 5) tYes (tCall (sp_integer K) [] E0 (tCons (tVar 5) tNil)) [5]) tNil)) tNil))) (tCons (tTup (tCons (tC (.str "loss")) (tCons (tCall (sp_integer K) [] E0 (tCons (tVar 4) tNil)) tNil))) tNil))) tNil))))))))
section
variable {P : Program} {w : World} {K : PySem.W.Frag} {mg : Str → Option Value} {base : Heap}
theorem pure_on_tables (T : Tx K mg) (vs : List V) (H : Hp) (Q : VK) (E : XK) (h : sp_on_tables K vs H Q E) : t_on_tables K E { nx := fun _ H' => Q .non H', rt := Q } (start ["number", "a", "good", "table", "loss", "entry"] vs) H := by
  obtain ⟨_, number, p, x, y, l, rfl, hA, q⟩ := h
  unfold t_on_tables
  walk_at "ev"
  refine ite_num (k := 0) (fun e => ?_) (fun e0 => ?_)
  · subst e
    have q : Out K E H (R7293g.Spec.andThen (R7293g.Spec.tableArg (Rust.taken x)) fun t => R7293g.Spec.andThen (R7293g.Spec.offerArg (Rust.taken y)) fun o => .ok (R7293g.Spec.nat (R7293g.Spec.roundTo t o))) _ := q
    have q := out_bind q
    obtain ⟨xs, a, g1, g2, g3⟩ := hA.get (i := 0) rfl
    walk_at "ev"
    refine ⟨rfl, a, x, rfl, g3, q.mono (Ex.refl H) fun t _ q ht hb tp H1 hp x1 h1 => ?_⟩
    clear g1 g2 g3
    obtain ⟨xs, b, g1, g2, g3⟩ := (hA.ex x1).get (i := 1) rfl
    have q := out_bind q
    walk_at "ev"
    try (refine s_ixL g1 g2 ?_; walk_at "ev")
    refine ⟨rfl, b, y, "offer", 65535, R7293g.Spec.typeErr "offer must be an integer from 0 to 65535", rfl, g3, ⟨by decide +kernel, by decide +kernel, by decide +kernel⟩, err_ok rfl (by decide +kernel), q.mono x1 fun o _ q => ?_⟩
    walk_at "ev"
    refine ⟨rfl, tp, t, o, rfl, sq_of h1, ht, fun H2 x2 => ?_⟩
    obtain ⟨c1, _, _⟩ := classOf_max ht o
    have h2 := x2 _ _ h1
    refine s_ixL (sq_of h2) (atI_nat (j := R7293g.Spec.classOf t o) (v := natV (R7293g.Spec.roundTo t o)) ?_) ?_
    · rw [List.getElem?_map]
      unfold R7293g.Spec.roundTo R7293g.Spec.entry
      simp [c1]
    walk_at "ev"
    exact ⟨rfl, _, rfl, fun a H3 _ x3 v3 => q a H3 (Ex.trans x1 (Ex.trans x2 x3)) v3⟩
  have q : Out K E H (R7293g.Spec.andThen (R7293g.Spec.offersArg (Rust.taken x)) fun t => R7293g.Spec.andThen (R7293g.Spec.entriesArg (Rust.taken y)) fun m => .ok (R7293g.Spec.bestPlain (R7293g.Spec.bestTable t (m - 1)))) fun r => ∀ a H', Ex H H' → VAt K H' (Rust.given r) a → Q (.ref a) H' := by
    unfold tablesFn at q
    rw [if_neg e0] at q
    exact q
  have q := out_bind q
  obtain ⟨xs, a, g1, g2, g3⟩ := hA.get (i := 0) rfl
  walk_at "ev"
  refine ⟨rfl, a, x, ((0 : Nat) : Int), ((100 : Nat) : Int), ((0 : Nat) : Int), ((65535 : Nat) : Int), rfl, g3, by decide, fun H1 x1 => ?_⟩
  walk_at "ev"
  refine ⟨rfl, _, _, rfl, fun g => ?_, fun g => ?_⟩
  · obtain ⟨ns, rfl, hl, hb, l', hl1, hl2, hl3⟩ := nums_yes g
    rw [offers_yes hl1 hl2 hl3 hl.2] at q
    have q := out_bind (show Out K E H (R7293g.Spec.andThen (R7293g.Spec.entriesArg (Rust.taken y)) fun m => .ok (R7293g.Spec.bestPlain (R7293g.Spec.bestTable ns (m - 1)))) _ from q)
    clear g1 g2
    obtain ⟨ys, b, g1, g2, g4⟩ := (hA.ex x1).get (i := 1) rfl
    walk_at "ev"
    try (refine s_ixL g1 g2 ?_; walk_at "ev")
    refine ⟨rfl, b, y, ((1 : Nat) : Int), ((8 : Nat) : Int), rfl, g4, ?_⟩
    walk_at "ev"
    refine ⟨rfl, _, _, rfl, fun g5 => ?_, fun g5 => ?_⟩
    · obtain ⟨i, rfl, i1, i2⟩ := numIn_val g5
      obtain ⟨m, rfl⟩ : ∃ m : Nat, i = (m : Int) := ⟨i.toNat, by omega⟩
      have hE : R7293g.Spec.entriesArg (Rust.taken (.int (m : Int))) = .ok m := by
        unfold R7293g.Spec.entriesArg
        have : R7293g.Spec.integerIn 1 8 (Rust.taken (.int (m : Int))) = some m := by
          show ((if (some (m : Int) == RShim.F64.negZero) = true then none else RShim.F64.toInt? (some (m : Int))).bind fun i => if Int.ofNat 1 ≤ i ∧ i ≤ Int.ofNat 8 then some i.toNat else none) = _
          rw [if_neg (by unfold RShim.F64.negZero; exact Bool.false_ne_true)]
          show (if Int.ofNat 1 ≤ (m : Int) ∧ (m : Int) ≤ Int.ofNat 8 then some (m : Int).toNat else none) = _
          rw [if_pos ⟨i1, i2⟩]
          rfl
        rw [this]
      rw [hE] at q
      have q : ∀ a H', Ex H H' → VAt K H' (Rust.given (R7293g.Spec.bestPlain (R7293g.Spec.bestTable ns (m - 1)))) a → Q (.ref a) H' := q
      have g4 : SqT K H1 b [.str "integer", .int m] := by unfold VAt at g4; exact g4
      obtain ⟨zs, a', k1, k2, k3⟩ := hA.get (i := 0) rfl
      have k1' := ex_l x1 k1
      walk_at "ev"
      try (refine s_ixL k1' k2 ?_; walk_at "ev")
      refine ⟨rfl, a', _, rfl, k3.ex x1, by rw [List.length_map]; omega, fun pl H2 _ x2 h2 => ?_⟩
      have g1' := ex_l x2 g1
      have g4' := ex_t x2 g4
      walk_at "ev"
      try (refine s_ixL g1' g2 ?_; walk_at "ev")
      try (refine s_ixT g4' rfl ?_; walk_at "ev")
      refine ⟨rfl, pl, ns, m, rfl, by rw [List.map_map] at h2; exact sq_of h2, hl.2, by omega, by omega, fun t tl H3 x3 s3 h3 => ?_⟩
      refine s_pair s3 ?_
      walk_at "ev"
      refine ⟨tl, rfl, ⟨_, sq_of h3⟩, lc_all (K := K) (R7293g.Spec.bestTable ns (m - 1)).2 walk_list (by rw [List.length_map]) (by
        rw [List.length_map]
        have := best_len (R7293g.Spec.sortOffers ns) 0 (m - 1)
        show (R7293g.Spec.bestFrom 0 (R7293g.Spec.sortOffers ns) (m - 1)).2.length + 1 ≤ 1000000
        omega) (fun _ => true) (fun n y H => ∃ t, y = V.ref t ∧ VAt K H (.int (n : Int)) t) (fun H1 e => ex_l e (sq_of h3)) (fun e y H1 H2 h t => (by obtain ⟨z, e, h⟩ := h; exact ⟨z, e, VAt.mono t _ _ h⟩)) (fun i c x H4 H5 j1 j2 hi e hy f1 f2 => ?_) (fun D H4 acc hD e hx ha => ?_)⟩
      · obtain ⟨rfl, hx⟩ := hy
        obtain ⟨n, hn, rfl⟩ := map_get hx
        rw [hi] at hn
        cases hn
        refine ⟨rfl, ?_⟩
        walk_at "ev"
        exact ⟨rfl, _, rfl, fun a H6 _ x6 v6 => f1 rfl _ _ x6 ⟨a, rfl, v6⟩⟩
      · rw [fil_yes] at ha
        obtain ⟨zs, rfl, hv⟩ := all2_vals ha
        walk_at "ev"
        refine ⟨rfl, D, _, zs, rfl, sq_of hx, hv, fun r1 H5 _ x5 v5 => ?_⟩
        walk_at "ev"
        rename_i t1 H6 _ x6 h6
        refine ⟨rfl, _, rfl, fun r2 H7 _ x7 v7 => ?_⟩
        walk_at "ev"
        rename_i t2 H8 _ x8 h8 L H9 _ x9 h9
        have y7 := Ex.trans x7 (Ex.trans x8 x9)
        refine ⟨rfl, L, [("table", _), ("loss", _)], _, rfl, sq_of h9, ⟨⟨t1, r1, rfl, st_of (y7 _ _ h6), v5.ex (Ex.trans x6 y7), (of_decide_eq_true (by kernel_rfl))⟩, ⟨t2, r2, rfl, st_of (x9 _ _ h8), v7.ex (Ex.trans x8 x9), (of_decide_eq_true (by kernel_rfl))⟩, trivial⟩, (by kernel_rfl), (by show (2 : Nat) ≤ 1000; decide), fun r H10 _ x10 v10 => ?_⟩
        refine q r H10 (Ex.trans x1 (Ex.trans x2 (Ex.trans x3 (Ex.trans e (Ex.trans x5 (Ex.trans x6 (Ex.trans y7 x10))))))) ?_
        rw [giv_best]
        exact v10
    · have hE : R7293g.Spec.entriesArg (Rust.taken y) = .error (R7293g.Spec.typeErr "entries must be an integer from 1 to 8") := by
        unfold R7293g.Spec.entriesArg
        rw [numIn_none g5]
      rw [hE] at q
      exact (q 1 _ (err_ok rfl (by decide +kernel))).mono x1
  · have hT : R7293g.Spec.offersArg (Rust.taken x) = .error (R7293g.Spec.typeErr "offers must be a list of at most 100 integers from 0 to 65535") := by
      unfold R7293g.Spec.offersArg
      rcases nums_no g with ⟨l, h1, h2⟩ | h1 | ⟨u, rfl⟩
      · rw [h1]
        dsimp only
        by_cases c : l.length ≤ 100
        · rw [if_pos c, show R7293g.Spec.maxOffer = 65535 from rfl, h2 ⟨Nat.zero_le _, c⟩]
        · rw [if_neg c]
      · cases hc : Rust.taken x <;> first | rfl | exact absurd hc (h1 _)
      · unfold VAt at g3
        exact g3.elim
    rw [hT] at q
    exact (q 1 _ (err_ok rfl (by decide +kernel))).mono x1
theorem ok_on_tables (T : Tx K mg) : Pk P w K mg base (L2N.CX P w) "on_tables" ["number", "a"] 4 (sp_on_tables K) := by
  obtain ⟨fd, F⟩ := T.fn 29 (p := ("on_tables", none)) (n := "on_tables") (q := "on_tables") (st := s_on_tables)
  refine ⟨⟨_, fd, T.glo 29, F.kp, F.bindsN fun _ _ _ _ _ _ us hl => match us, hl with | [_, _], _ => rfl, F.ok sc_on_tables (fun _ _ _ _ h => h.1) fun cdv A outer s H vs Q E hr h => ⟨t_on_tables K E, ?_, pure_on_tables T vs H Q E h⟩⟩⟩
  exact (pss_cons (ps_if (pt_cmpR op_eq (pv 0) pe_int (nomark _)) (pss_cons (ps_set (i := 3) sc_on_tables.nd rfl (Or.inl rfl) (pe_pk (ok_table_of T) (hr.mono (by decide)) (L2N.passes_call (L2N.takes_of rfl rfl rfl rfl) fun _ _ _ _ h => h) (pa_cons (pe_ix ix_list (pv 1) pe_int (fun _ _ => rfl)) pa_nil)))
    (pss_one (ps_ret (pe_pk (ok_integer T) (hr.mono (by decide)) pass0 (pa_cons (pe_ix ix_list (pv 3) (pe_pk (ok_class_of T) (hr.mono (by decide)) pass0 (pa_cons (pv 3) (pa_cons (pe_pk (ok_number_for T) (hr.mono (by decide)) (L2N.passes_call (L2N.takes_of rfl rfl rfl rfl) fun _ _ _ _ h => h) (pa_cons (pe_ix ix_list (pv 1) pe_int (fun _ _ => rfl)) (pa_cons pe_str (pa_cons (pe_gi (T.int 58)) pa_nil)))) pa_nil))) (fun _ _ => rfl)) pa_nil))))) pss_nil)
    (pss_cons (ps_set (i := 2) sc_on_tables.nd rfl (Or.inl rfl) (pe_pk (ok_are_numbers T) (hr.mono (by decide)) pass0 (pa_cons (pe_ix ix_list (pv 1) pe_int (fun _ _ => rfl)) (pa_cons pe_int (pa_cons pe_int (pa_cons pe_int (pa_cons (pe_gi (T.int 58)) pa_nil)))))))
    (pss_cons (ps_expr (pe_pk (ok_need_kind T) (hr.mono (by decide)) (L2N.passes_call (L2N.takes_of rfl rfl rfl rfl) fun _ _ _ _ h => h) (pa_cons (pv 2) (pa_cons pe_str pa_nil))))
    (pss_cons (ps_expr (pe_pk (ok_need_kind T) (hr.mono (by decide)) (L2N.passes_call (L2N.takes_of rfl rfl rfl rfl) fun _ _ _ _ h => h) (pa_cons (pe_pk (ok_number_in T) (hr.mono (by decide)) pass0 (pa_cons (pe_ix ix_list (pv 1) pe_int (fun _ _ => rfl)) (pa_cons pe_int (pa_cons pe_int pa_nil)))) (pa_cons pe_str pa_nil))))
    (pss_cons (ps_asg (pe_pk (ok_best_table T) (hr.mono (by decide)) pass0 (pa_cons (pe_pk (ok_numbers_of T) (hr.mono (by decide)) pass0 (pa_cons (pe_ix ix_list (pv 1) pe_int (fun _ _ => rfl)) pa_nil)) (pa_cons (pe_ix ix_tup (pe_ix ix_list (pv 1) pe_int (fun _ _ => rfl)) pe_int (fun _ _ => rfl)) pa_nil))) (pg_tup rfl (pgs_cons (pg_name (i := 3) sc_on_tables.nd rfl (Or.inl rfl)) (pgs_cons (pg_name (i := 4) sc_on_tables.nd rfl (Or.inl rfl)) pgs_nil))))
    (pss_one (ps_ret (pe_pk (ok_record T) (hr.mono (by decide)) pass0 (pa_cons (pe_lst (pa_cons (pe_tup (pa_cons pe_str (pa_cons (pe_pk (ok_row T) (hr.mono (by decide)) pass0 (pa_cons (pe_lc (own := [("entry", 5)]) (g := (gName 5)) (tt := tYes) rfl sc_on_tables.nd (pi_list (pv 3)) (blkOk_by (own := [("entry", 5)]) (N := ["number", "a", "good", "table", "loss", "entry"]) (sc := defScope s_on_tables) (by decide +kernel)) (fun _ _ _ _ _ => (pg_name (i := 5) sc_on_tables.nd rfl (Or.inl rfl))) (fun _ _ _ _ _ => pts_nil) (fun _ _ _ _ _ => (pe_pk (ok_integer T) (hr.mono (by decide)) pass0 (pa_cons (pv 5) pa_nil)))) pa_nil)) pa_nil))) (pa_cons (pe_tup (pa_cons pe_str (pa_cons (pe_pk (ok_integer T) (hr.mono (by decide)) pass0 (pa_cons (pv 4) pa_nil)) pa_nil))) pa_nil))) pa_nil)))))))))
end
end Dk
namespace Dk
open PySem PySem.Spec PyProof.Rows L2 Evl RZ
local macro_rules | `(tactic| walk_at "hp") => `(tactic| first | assumption | exact L2.upd_same | (apply Dk.Ex.at (by assumption); walk_at "hp"))
local macro_rules | `(tactic| walk_at "hq") => `(tactic| first | assumption | (apply Evl.sq_of; walk_at "hp") | (apply Evl.st_of; walk_at "hp") | (apply Evl.ex_l (by assumption); walk_at "hq") | (apply Evl.ex_t (by assumption); walk_at "hq"))
local macro_rules | `(tactic| walk_at "ex") => `(tactic| first | exact Evl.Ex.refl _ | assumption | (refine Evl.Ex.trans ?_ (by assumption); walk_at "ex"))
local macro_rules | `(tactic| walk_at "e1") => `(tactic| first
  | (with_reducible refine if_t ?_) | (with_reducible refine if_f ?_) | (with_reducible refine s_seq ?_) | (with_reducible refine s_asg ?_) | (with_reducible refine s_name ?_) | (with_reducible refine s_drop ?_) | (with_reducible refine s_ret ?_) | (with_reducible refine s_nil ?_) | (with_reducible refine s_cons ?_)
  | (with_reducible refine s_c ?_)
  | ((with_reducible refine' s_var ?h1 ?_); (case h1 => rfl))
  | (with_reducible refine s_op ?_) | (with_reducible refine s_call ?_) | (with_reducible refine s_cb ?_) | (with_reducible refine s_fld ?_) | (with_reducible refine s_tup ?_) | (with_reducible refine s_lst ?_) | (with_reducible refine s_meth ?_) | (with_reducible refine s_test ?_) | (with_reducible refine s_B ?_)
  | (with_reducible refine s_not ?_) | (with_reducible refine s_xb ?_) | (with_reducible refine s_if ?_) | (with_reducible refine s_ifS ?_) | (with_reducible refine s_next ?_) | (with_reducible refine s_sfld ?_)
  | (with_reducible refine s_I0 ?_) | ((with_reducible refine' s_I ?h1 ?_); (case h1 => first | exact ⟨by decide, by decide⟩ | exact .inr ⟨by decide, by decide⟩ | (show (0 : Int) < _; decide) | (show (0 : Int) ≤ _; first | decide | omega) | exact ⟨by omega, by omega⟩))
  | ((with_reducible refine' s_xf ?h1 ?h2 ?h3 ?h4 ?_); (case h1 => walk_at "hp"); (case h2 => exact Tx.clsK (by assumption) (by decide +kernel)); (case h3 => exact Tx.noatK (by assumption) (by decide +kernel)); (case h4 => rfl))
  | ((with_reducible refine' s_xs ?h1 ?h2 ?h3 ?h4 ?h5 ?_); (case h1 => walk_at "hp"); (case h2 => exact Tx.clsK (by assumption) (by decide +kernel)); (case h3 => exact Tx.noatK (by assumption) (by decide +kernel)); (case h4 => exact Dk.lt_ble rfl); (case h5 => rfl))
  | ((with_reducible refine' s_eq ?h1 ?_); (case h1 => rfl)) | ((with_reducible refine' s_ne ?h1 ?_); (case h1 => rfl)) | (with_reducible refine s_isN ?_)
  | ((with_reducible refine' s_xt ?h1 ?_); (case h1 => exact Nat.le_of_ble_eq_true rfl); intro _ _ _ _ _)
  | ((with_reducible refine' s_xl ?h1 ?_); (case h1 => exact Nat.le_of_ble_eq_true rfl); intro _ _ _ _ _)
  | ((with_reducible refine' s_lenL ?h1 ?_); (case h1 => walk_at "hq")) | ((with_reducible refine' s_lenT ?h1 ?_); (case h1 => walk_at "hq"))
  | ((with_reducible refine' s_ixL ?h1 ?h2 ?_); (case h1 => walk_at "hq"); (case h2 => first | assumption | exact atI_0 | exact atI_1 | rfl))
  | ((with_reducible refine' s_ixT ?h1 ?h2 ?_); (case h1 => walk_at "hq"); (case h2 => first | assumption | exact atI_0 | exact atI_1 | rfl))
  | (with_reducible refine s_or ?_) | (with_reducible refine s_and ?_)
  | ((with_reducible refine' s_nin ?h1 ?h2 ?h3 ?_); (case h1 => walk_at "hq"); (case h2 => rfl); (case h3 => rfl))
  | (with_reducible refine s_tru ?_)
  | (with_reducible refine s_ip ?_) | (with_reducible refine s_for1 ?_) | (with_reducible refine s_for2 ?_) | (with_reducible refine s_for3 ?_) | (with_reducible refine s_forL ?_) | (with_reducible refine s_forT ?_) | (with_reducible refine s_lcL ?_) | (with_reducible refine s_lcT ?_) | (with_reducible refine s_lcS ?_) | (with_reducible refine s_lcE ?_) | (with_reducible refine s_lcZ ?_) | (with_reducible refine s_lcZA ?_) | (with_reducible refine s_lcR ?_) | (with_reducible refine s_chain ?_) | (with_reducible refine s_av ?_) | (with_reducible refine s_ov ?_) | (with_reducible refine s_yes ?_) | (with_reducible refine s_tbm ?_) | (with_reducible refine s_ord ?_) | (with_reducible refine s_raise ?_) | (with_reducible refine s_fldaug ?_) | (with_reducible refine s_add ?_) | (with_reducible refine s_slc ?_) | (with_reducible refine s_part ?_) | (with_reducible refine x_p1 ?_) | (with_reducible refine s_nopart ?_)
  | ((with_reducible refine' x_bm ?h1 ?_); (case h1 => walk_at "hq")) | (with_reducible refine s_par1 ?_) | (with_reducible refine s_un ?_) | (with_reducible refine s_uI ?_))
local macro_rules | `(tactic| walk_at "ev") => `(tactic| repeat walk_at "e1")
-- plain
/-! ### what may be written, what stays -/
/-- objects that are never written: tuples, knocks -/
def imm : HO → Bool
  | .tup _ => true
  | .frz _ _ => true
  | .ins _ _ fs => fs.length == 5
  | _ => false
structure Fr (H H' : Hp) (M : Addr → Prop) : Prop where
  fr : ∀ b o, H b = some o → ¬ M b → H' b = some o
  im : ∀ b o, M b → H b = some o → imm o = false
def DL.S (d : DL) (b : Addr) : Prop := b = d.a ∨ b = d.tab ∨ b = d.rem ∨ b = d.con ∨ b = d.rec_
def FL.S (f : FL) (b : Addr) : Prop := b = f.f ∨ b = f.lt ∨ f.d.S b
section
variable {K : PySem.W.Frag} {H H' H2 : Hp} {M M' : Addr → Prop} {n m : Nat} {d d' : DL} {g g' : R7293g.Spec.Gate} {f f' : FL} {F F' : R7293g.Spec.Field}
theorem Fr.keep (x : Fr H H' M) {b : Addr} {o : HO} (h : H b = some o) (i : imm o = true) : H' b = some o := x.fr b o h fun z => by
  rw [x.im b o z h] at i
  cases i
theorem Fr.tx (x : Fr H H' M) : TX K H H' := fun a xs q => by
  rcases q with (q | ⟨z, q⟩) | q
  · exact .inl (.inl (x.keep q rfl))
  · exact .inl (.inr ⟨z, x.keep q rfl⟩)
  · exact .inr q
theorem Fr.kn (x : Fr H H' M) {e : R7293g.Spec.Entry} {b : Addr} (h : KnAt K H e b) : KnAt K H' e b := by
  obtain ⟨dx, h⟩ := h
  exact ⟨dx, x.keep h rfl⟩
theorem Fr.door (x : Fr H H' M) (h : DoorAt K H n d g) (s : ∀ b, d.S b → ¬ M b) : DoorAt K H' n d g where
  obj := x.fr _ _ h.obj (s _ (.inl rfl))
  tab := x.fr _ _ h.tab (s _ (.inr (.inl rfl)))
  rem := by obtain ⟨xs, h1, h2⟩ := h.rem; exact ⟨xs, x.fr _ _ h1 (s _ (.inr (.inr (.inl rfl)))), h2.mono fun _ _ q => x.kn q⟩
  con := by obtain ⟨xs, h1, h2⟩ := h.con; exact ⟨xs, x.fr _ _ h1 (s _ (.inr (.inr (.inr (.inl rfl))))), h2.mono fun _ _ q => x.keep q rfl⟩
  rec_ := by obtain ⟨xs, h1, h2⟩ := h.rec_; exact ⟨xs, x.fr _ _ h1 (s _ (.inr (.inr (.inr (.inr rfl))))), h2.mono fun _ _ q => x.keep q rfl⟩
  ok := h.ok
  keep := h.keep
  n1 := h.n1
  n2 := h.n2
  n3 := h.n3
  d1 := h.d1
  d2 := h.d2
  d3 := h.d3
  d4 := h.d4
  d5 := h.d5
  d6 := h.d6
theorem Fr.field (x : Fr H H' M) (h : FieldAt K H n f F) (s : ∀ b, f.S b → ¬ M b) : FieldAt K H' n f F where
  obj := x.fr _ _ h.obj (s _ (.inl rfl))
  door := x.door h.door fun b q => s b (.inr (.inr q))
  lets := by obtain ⟨xs, h1, h2⟩ := h.lets; exact ⟨xs, x.fr _ _ h1 (s _ (.inr (.inl rfl))), h2.mono fun _ _ q => x.kn q⟩
  nl := h.nl
  e1 := h.e1
  e2 := h.e2
  e3 := h.e3
  e4 := h.e4
theorem DoorAt.le (h : DoorAt K H n d g) (q : n ≤ m) : DoorAt K H m d g := { h with n1 := Nat.le_trans h.n1 q, n2 := Nat.le_trans h.n2 q, n3 := Nat.le_trans h.n3 q }
theorem FieldAt.le (h : FieldAt K H n f F) (q : n ≤ m) : FieldAt K H m f F := { h with door := h.door.le q, nl := Nat.le_trans h.nl q }
theorem DFr.toFr (h : DoorAt K H n d g) (x : DFr H H' d d') : Fr H H' d.S where
  fr b o hb s := x.fr b o hb (fun z => s (.inl z)) (fun z => s (.inr (.inr (.inl z)))) (fun z => s (.inr (.inr (.inr (.inl z))))) (fun z => s (.inr (.inr (.inr (.inr z)))))
  im b o hm hb := by
    obtain ⟨_, h1, _⟩ := h.rem
    obtain ⟨_, h2, _⟩ := h.con
    obtain ⟨_, h3, _⟩ := h.rec_
    rcases hm with rfl | rfl | rfl | rfl | rfl
    · rw [h.obj] at hb; cases hb; rfl
    · rw [h.tab] at hb; cases hb; rfl
    · rw [h1] at hb; cases hb; rfl
    · rw [h2] at hb; cases hb; rfl
    · rw [h3] at hb; cases hb; rfl
theorem FFr.toFr (h : FieldAt K H n f F) (x : FFr H H' f f') : Fr H H' f.S where
  fr b o hb s := x.fr b o hb (fun z => s (.inr (.inr (.inl z)))) (fun z => s (.inr (.inr (.inr (.inr (.inl z)))))) (fun z => s (.inr (.inr (.inr (.inr (.inr (.inl z))))))) (fun z => s (.inr (.inr (.inr (.inr (.inr (.inr z))))))) (fun z => s (.inr (.inl z)))
  im b o hm hb := by
    obtain ⟨_, h1, _⟩ := h.door.rem
    obtain ⟨_, h2, _⟩ := h.door.con
    obtain ⟨_, h3, _⟩ := h.door.rec_
    obtain ⟨_, h4, _⟩ := h.lets
    rcases hm with rfl | rfl | rfl | rfl | rfl | rfl | rfl
    · rw [h.obj] at hb; cases hb; rfl
    · rw [h4] at hb; cases hb; rfl
    · rw [h.door.obj] at hb; cases hb; rfl
    · rw [h.door.tab] at hb; cases hb; rfl
    · rw [h1] at hb; cases hb; rfl
    · rw [h2] at hb; cases hb; rfl
    · rw [h3] at hb; cases hb; rfl
theorem Fr.ex (x : Fr H H' M) (e : Ex H' H2) : Fr H H2 M := ⟨fun b o h s => e _ _ (x.fr b o h s), x.im⟩
theorem Fr.of (e : Ex H H') : Fr H H' (fun _ => False) := ⟨fun b o h _ => e _ _ h, fun _ _ h => h.elim⟩
theorem Fr.one {p : Addr} {o o' : HO} (h : H p = some o) (i : imm o = false) : Fr H (upd H p o') (fun b => b = p) := ⟨fun b u hb s => by rw [upd_ne s]; exact hb, fun b u hm hb => by
  rw [hm, h] at hb
  cases hb
  exact i⟩
theorem DoorAt.dom (h : DoorAt K H n d g) {b : Addr} (s : d.S b) : H b ≠ none := by
  obtain ⟨_, h1, _⟩ := h.rem
  obtain ⟨_, h2, _⟩ := h.con
  obtain ⟨_, h3, _⟩ := h.rec_
  intro z
  rcases s with rfl | rfl | rfl | rfl | rfl
  · rw [h.obj] at z; cases z
  · rw [h.tab] at z; cases z
  · rw [h1] at z; cases z
  · rw [h2] at z; cases z
  · rw [h3] at z; cases z
theorem FieldAt.dom (h : FieldAt K H n f F) {b : Addr} (s : f.S b) : H b ≠ none := by
  obtain ⟨_, h4, _⟩ := h.lets
  rcases s with rfl | rfl | s
  · intro z; rw [h.obj] at z; cases z
  · intro z; rw [h4] at z; cases z
  · exact h.door.dom s
theorem DFr.S (x : DFr H H' d d') {b : Addr} (s : d'.S b) : d.S b ∨ H b = none := by
  rcases s with rfl | rfl | rfl | rfl | rfl
  · exact .inl (.inl x.a)
  · exact .inl (.inr (.inl x.tab))
  · exact x.rem.imp_left fun z => .inr (.inr (.inl z))
  · exact x.con.imp_left fun z => .inr (.inr (.inr (.inl z)))
  · exact x.rec_.imp_left fun z => .inr (.inr (.inr (.inr z)))
theorem FFr.S (x : FFr H H' f f') {b : Addr} (s : f'.S b) : f.S b ∨ H b = none := by
  rcases s with rfl | rfl | rfl | rfl | rfl | rfl | rfl
  · exact .inl (.inl x.ff)
  · exact .inl (.inr (.inl x.flt))
  · exact .inl (.inr (.inr (.inl x.a)))
  · exact .inl (.inr (.inr (.inr (.inl x.tab))))
  · exact x.rem.imp_left fun z => .inr (.inr (.inr (.inr (.inl z))))
  · exact x.con.imp_left fun z => .inr (.inr (.inr (.inr (.inr (.inl z)))))
  · exact x.rec_.imp_left fun z => .inr (.inr (.inr (.inr (.inr (.inr z)))))
end
/-! ### the desk -/
inductive Tg where
  | desk
  | door (i : Nat)
  | field (i : Nat)
  | walk (i : Nat)
abbrev fDesk (dd df dw : Addr) : List (Str × V) := [("doors", .ref dd), ("fields", .ref df), ("walks", .ref dw)]
structure WL where
  k : Addr
  dx : Addr
  dd : Addr
  df : Addr
  dw : Addr
  dl : List DL
  fl : List FL
  tag : Addr → Option Tg
structure WorldAt (K : PySem.W.Frag) (H : Hp) (n : Nat) (L : WL) (w : R7293g.Spec.World) : Prop where
  obj : H L.k = some (.ins (cA K "Desk") L.dx (fDesk L.dd L.df L.dw))
  doors : All2 (DoorAt K H n) L.dl w.heap
  fields : All2 (FieldAt K H n) L.fl w.yard
  ds : ∃ kv : List (Key × V), H L.dd = some (.dK kv) ∧ kv.length ≤ n ∧ ∀ s i, w.doors.getD s none = some i → ∃ d, L.dl[i]? = some d ∧ valV kv (.inl (s : Int)) = some (.ref d.a)
  fs : ∃ kv : List (Key × V), H L.df = some (.dK kv) ∧ kv.length ≤ n ∧ ∀ s i, w.fields.getD s none = some i → ∃ f, L.fl[i]? = some f ∧ valV kv (.inl (s : Int)) = some (.ref f.f)
  ws : ∃ kv : List (Key × V), H L.dw = some (.dK kv) ∧ kv.length ≤ n ∧ ∀ s tr, w.traces.getD s none = some tr → ∃ f a dx, L.fl[tr.field]? = some f ∧ valV kv (.inl (s : Int)) = some (.ref a) ∧ H a = some (.ins (cA K "Walk") dx (fWalk f.f tr.next tr.ended)) ∧ L.tag a = some (.walk s)
  l1 : w.doors.length = 2
  l2 : w.fields.length = 2
  l3 : w.traces.length = 2
  t1 : L.tag L.k = some .desk
  t2 : L.tag L.dd = some .desk
  t3 : L.tag L.df = some .desk
  t4 : L.tag L.dw = some .desk
  n1 : L.dd ≠ L.df
  n2 : L.dd ≠ L.dw
  n3 : L.df ≠ L.dw
  td : ∀ i d, L.dl[i]? = some d → ∀ b, d.S b → L.tag b = some (.door i)
  tf : ∀ i f, L.fl[i]? = some f → ∀ b, f.S b → L.tag b = some (.field i)
/-- what is not of the desk stays -/
structure Out1 (H H' : Hp) (L L' : WL) : Prop where
  k : L'.k = L.k
  fr : ∀ b o, H b = some o → L.tag b = none → H' b = some o
  tg : ∀ b, H b ≠ none → L.tag b = none → L'.tag b = none
section
variable {K : PySem.W.Frag} {H H' H2 : Hp} {n : Nat} {L L' : WL} {w : R7293g.Spec.World}
theorem WorldAt.ex (h : WorldAt K H n L w) (x : Ex H H') : WorldAt K H' n L w where
  obj := x _ _ h.obj
  doors := h.doors.mono fun _ _ q => q.ex x
  fields := h.fields.mono fun _ _ q => q.ex x
  ds := by obtain ⟨kv, h1, h2⟩ := h.ds; exact ⟨kv, x _ _ h1, h2⟩
  fs := by obtain ⟨kv, h1, h2⟩ := h.fs; exact ⟨kv, x _ _ h1, h2⟩
  ws := by
    obtain ⟨kv, h1, h2, h3⟩ := h.ws
    refine ⟨kv, x _ _ h1, h2, fun s tr hs => ?_⟩
    obtain ⟨f, a, dx, q1, q2, q3, q4⟩ := h3 s tr hs
    exact ⟨f, a, dx, q1, q2, x _ _ q3, q4⟩
  l1 := h.l1
  l2 := h.l2
  l3 := h.l3
  t1 := h.t1
  t2 := h.t2
  t3 := h.t3
  t4 := h.t4
  n1 := h.n1
  n2 := h.n2
  n3 := h.n3
  td := h.td
  tf := h.tf
theorem WorldAt.up (h : WorldAt K H n L w) : WorldAt K H (n + 1) L w := { h with
  doors := h.doors.mono fun _ _ q => q.up
  fields := h.fields.mono fun _ _ q => q.up
  ds := by obtain ⟨kv, h1, h2, h3⟩ := h.ds; exact ⟨kv, h1, Nat.le_succ_of_le h2, h3⟩
  fs := by obtain ⟨kv, h1, h2, h3⟩ := h.fs; exact ⟨kv, h1, Nat.le_succ_of_le h2, h3⟩
  ws := by obtain ⟨kv, h1, h2, h3⟩ := h.ws; exact ⟨kv, h1, Nat.le_succ_of_le h2, h3⟩ }
theorem Out1.of (x : Ex H H') : Out1 H H' L L := ⟨rfl, fun b o h _ => x b o h, fun _ _ h => h⟩
theorem all2_set {α β : Type} {P : α → β → Prop} {a : α} {b : β} : ∀ {i : Nat} {l : List α} {m : List β}, All2 P l m → P a b → All2 P (l.set i a) (m.set i b)
  | _, [], [], _, _ => trivial
  | 0, _ :: _, _ :: _, h, q => ⟨q, h.2⟩
  | i + 1, x :: l, y :: m, h, q => ⟨h.1, all2_set (i := i) (l := l) (m := m) h.2 q⟩
theorem all2_ne {α β : Type} {P P' : α → β → Prop} {a : α} {b : β} : ∀ {i : Nat} {l : List α} {m : List β}, All2 P l m → P' a b → (∀ j x y, j ≠ i → l[j]? = some x → P x y → P' x y) → All2 P' (l.set i a) (m.set i b)
  | _, [], [], _, _, _ => trivial
  | 0, x :: l, y :: m, h, q, f => ⟨q, by
    have : ∀ {l : List α} {m : List β} {k : Nat}, (∀ j x y, l[j]? = some x → P x y → P' x y) → All2 P l m → All2 P' l m := fun {l m k} => by
      induction l generalizing m with
      | nil =>
        intro _ h
        cases m with
        | nil => trivial
        | cons _ _ => exact h.elim
      | cons a l ih =>
        intro f h
        cases m with
        | nil => exact h.elim
        | cons b m => exact ⟨f 0 a b rfl h.1, ih (fun j x y hj => f (j + 1) x y hj) h.2⟩
    exact this (k := 0) (fun j x y hj => f (j + 1) x y (Nat.succ_ne_zero j) hj) h.2⟩
  | i + 1, x :: l, y :: m, h, q, f => ⟨f 0 x y (fun z => nomatch z) rfl h.1, all2_ne (i := i) (l := l) (m := m) h.2 q fun j x y hj => f (j + 1) x y (fun z => hj (Nat.succ.inj z))⟩
theorem all2_ix {α β : Type} {P P' : α → β → Prop} : ∀ {l : List α} {m : List β}, All2 P l m → (∀ (j : Nat) x y, l[j]? = some x → P x y → P' x y) → All2 P' l m
  | [], [], _, _ => trivial
  | x :: l, y :: m, h, f => ⟨f 0 x y rfl h.1, all2_ix h.2 fun j x y hj => f (j + 1) x y hj⟩
/-- a call on the door i -/
theorem WorldAt.door_step (h : WorldAt K H n L w) {i : Nat} {d d' : DL} {g g' : R7293g.Spec.Gate} (hd : L.dl[i]? = some d) (hg : w.heap[i]? = some g) (ha : DoorAt K H n d g) (h' : DoorAt K H' (n + 1) d' g') (x : DFr H H' d d') :
    ∃ L', WorldAt K H' (n + 1) L' { w with heap := w.heap.set i g' } ∧ Out1 H H' L L' := by
  classical
  have F := x.toFr ha
  have tS : ∀ b, d.S b → L.tag b = some (.door i) := h.td i d hd
  have ns : ∀ {b t}, L.tag b = some t → t ≠ .door i → ¬ d.S b := fun {b t} hb ht s => by
    rw [tS b s] at hb
    exact ht (Option.some.inj hb).symm
  have hil : i < L.dl.length := (List.getElem?_eq_some_iff.mp hd).1
  let tag' : Addr → Option Tg := fun b => if d'.S b then some (.door i) else L.tag b
  have tg' : ∀ {b t}, H b ≠ none → L.tag b = some t → t ≠ .door i → tag' b = some t := fun {b t} hn hb ht => by
    show (if d'.S b then some (.door i) else L.tag b) = some t
    rw [if_neg (fun s => ?_)]
    · exact hb
    · rcases x.S s with q | q
      · exact ns hb ht q
      · exact hn q
  have so : ∀ {b : Addr} {o : HO}, H b = some o → H b ≠ none := fun {b o} z q => by rw [z] at q; cases q
  obtain ⟨kd, d1, d2, d3⟩ := h.ds
  obtain ⟨kf, f1, f2, f3⟩ := h.fs
  obtain ⟨kw, w1, w2, w3⟩ := h.ws
  refine ⟨{ L with dl := L.dl.set i d', tag := tag' }, ⟨?_, ?_, ?_, ?_, ?_, ?_, h.l1, h.l2, h.l3, tg' (so h.obj) h.t1 (fun z => nomatch z), tg' (so d1) h.t2 (fun z => nomatch z), tg' (so f1) h.t3 (fun z => nomatch z), tg' (so w1) h.t4 (fun z => nomatch z), h.n1, h.n2, h.n3, ?_, ?_⟩, ⟨rfl, ?_, ?_⟩⟩
  · exact F.fr _ _ h.obj (ns h.t1 (fun z => nomatch z))
  · exact all2_ne h.doors h' fun j e u hj he q => (F.door q fun b s => ns (h.td j e he b s) (fun z => hj (Tg.door.inj z))).up
  · exact all2_ix h.fields fun j e u he q => (F.field q fun b s => ns (h.tf j e he b s) (fun z => nomatch z)).up
  · refine ⟨kd, F.fr _ _ d1 (ns h.t2 (fun z => nomatch z)), Nat.le_succ_of_le d2, fun s j hs => ?_⟩
    obtain ⟨e, he, hv⟩ := d3 s j hs
    by_cases c : j = i
    · subst c
      rw [hd] at he
      cases he
      exact ⟨d', by show (L.dl.set j d')[j]? = _; rw [List.getElem?_set_self hil], by rw [x.a]; exact hv⟩
    · exact ⟨e, by show (L.dl.set i d')[j]? = _; rw [List.getElem?_set_ne (fun z => c z.symm)]; exact he, hv⟩
  · exact ⟨kf, F.fr _ _ f1 (ns h.t3 (fun z => nomatch z)), Nat.le_succ_of_le f2, f3⟩
  · refine ⟨kw, F.fr _ _ w1 (ns h.t4 (fun z => nomatch z)), Nat.le_succ_of_le w2, fun s tr hs => ?_⟩
    obtain ⟨f, a, dx, q1, q2, q3, q4⟩ := w3 s tr hs
    exact ⟨f, a, dx, q1, q2, F.fr _ _ q3 (ns q4 (fun z => nomatch z)), tg' (so q3) q4 (fun z => nomatch z)⟩
  · intro j e he b s
    have he : (L.dl.set i d')[j]? = some e := he
    by_cases c : j = i
    · subst c
      rw [List.getElem?_set_self hil] at he
      cases he
      show (if d'.S b then some (.door j) else L.tag b) = _
      rw [if_pos s]
    · rw [List.getElem?_set_ne (fun z => c z.symm)] at he
      obtain ⟨u, _, pu⟩ := h.doors.get' he
      exact tg' (pu.dom s) (h.td j e he b s) (fun z => c (Tg.door.inj z))
  · intro j e he b s
    obtain ⟨u, _, pu⟩ := h.fields.get' he
    exact tg' (pu.dom s) (h.tf j e he b s) (fun z => nomatch z)
  · intro b o hb ht
    exact F.fr b o hb fun s => by rw [tS b s] at ht; cases ht
  · intro b hb ht
    show (if d'.S b then some (.door i) else L.tag b) = none
    rw [if_neg (fun s => ?_)]
    · exact ht
    · rcases x.S s with q | q
      · rw [tS b q] at ht
        cases ht
      · exact hb q
/-- a call on the field i -/
theorem WorldAt.field_step (h : WorldAt K H n L w) {i : Nat} {f f' : FL} {G G' : R7293g.Spec.Field} (hd : L.fl[i]? = some f) (hg : w.yard[i]? = some G) (ha : FieldAt K H n f G) (h' : FieldAt K H' (n + 1) f' G') (x : FFr H H' f f') :
    ∃ L', WorldAt K H' (n + 1) L' { w with yard := w.yard.set i G' } ∧ Out1 H H' L L' := by
  classical
  have F := x.toFr ha
  have tS : ∀ b, f.S b → L.tag b = some (.field i) := h.tf i f hd
  have ns : ∀ {b t}, L.tag b = some t → t ≠ .field i → ¬ f.S b := fun {b t} hb ht s => by
    rw [tS b s] at hb
    exact ht (Option.some.inj hb).symm
  have hil : i < L.fl.length := (List.getElem?_eq_some_iff.mp hd).1
  let tag' : Addr → Option Tg := fun b => if f'.S b then some (.field i) else L.tag b
  have tg' : ∀ {b t}, H b ≠ none → L.tag b = some t → t ≠ .field i → tag' b = some t := fun {b t} hn hb ht => by
    show (if f'.S b then some (.field i) else L.tag b) = some t
    rw [if_neg (fun s => ?_)]
    · exact hb
    · rcases x.S s with q | q
      · exact ns hb ht q
      · exact hn q
  have so : ∀ {b : Addr} {o : HO}, H b = some o → H b ≠ none := fun {b o} z q => by rw [z] at q; cases q
  obtain ⟨kd, d1, d2, d3⟩ := h.ds
  obtain ⟨kf, f1, f2, f3⟩ := h.fs
  obtain ⟨kw, w1, w2, w3⟩ := h.ws
  refine ⟨{ L with fl := L.fl.set i f', tag := tag' }, ⟨?_, ?_, ?_, ?_, ?_, ?_, h.l1, h.l2, h.l3, tg' (so h.obj) h.t1 (fun z => nomatch z), tg' (so d1) h.t2 (fun z => nomatch z), tg' (so f1) h.t3 (fun z => nomatch z), tg' (so w1) h.t4 (fun z => nomatch z), h.n1, h.n2, h.n3, ?_, ?_⟩, ⟨rfl, ?_, ?_⟩⟩
  · exact F.fr _ _ h.obj (ns h.t1 (fun z => nomatch z))
  · exact all2_ix h.doors fun j e u he q => (F.door q fun b s => ns (h.td j e he b s) (fun z => nomatch z)).up
  · exact all2_ne h.fields h' fun j e u hj he q => (F.field q fun b s => ns (h.tf j e he b s) (fun z => hj (Tg.field.inj z))).up
  · exact ⟨kd, F.fr _ _ d1 (ns h.t2 (fun z => nomatch z)), Nat.le_succ_of_le d2, d3⟩
  · refine ⟨kf, F.fr _ _ f1 (ns h.t3 (fun z => nomatch z)), Nat.le_succ_of_le f2, fun s j hs => ?_⟩
    obtain ⟨e, he, hv⟩ := f3 s j hs
    by_cases c : j = i
    · subst c
      rw [hd] at he
      cases he
      exact ⟨f', by show (L.fl.set j f')[j]? = _; rw [List.getElem?_set_self hil], by rw [x.ff]; exact hv⟩
    · exact ⟨e, by show (L.fl.set i f')[j]? = _; rw [List.getElem?_set_ne (fun z => c z.symm)]; exact he, hv⟩
  · refine ⟨kw, F.fr _ _ w1 (ns h.t4 (fun z => nomatch z)), Nat.le_succ_of_le w2, fun s tr hs => ?_⟩
    obtain ⟨e, a, dx, q1, q2, q3, q4⟩ := w3 s tr hs
    by_cases c : tr.field = i
    · rw [c, hd] at q1
      cases q1
      refine ⟨f', a, dx, by show (L.fl.set i f')[tr.field]? = _; rw [c, List.getElem?_set_self hil], q2, ?_, tg' (so q3) q4 (fun z => nomatch z)⟩
      rw [x.ff]
      exact F.fr _ _ q3 (ns q4 (fun z => nomatch z))
    · exact ⟨e, a, dx, by show (L.fl.set i f')[tr.field]? = _; rw [List.getElem?_set_ne (fun z => c z.symm)]; exact q1, q2, F.fr _ _ q3 (ns q4 (fun z => nomatch z)), tg' (so q3) q4 (fun z => nomatch z)⟩
  · intro j e he b s
    obtain ⟨u, _, pu⟩ := h.doors.get' he
    exact tg' (pu.dom s) (h.td j e he b s) (fun z => nomatch z)
  · intro j e he b s
    have he : (L.fl.set i f')[j]? = some e := he
    by_cases c : j = i
    · subst c
      rw [List.getElem?_set_self hil] at he
      cases he
      show (if f'.S b then some (.field j) else L.tag b) = _
      rw [if_pos s]
    · rw [List.getElem?_set_ne (fun z => c z.symm)] at he
      obtain ⟨u, _, pu⟩ := h.fields.get' he
      exact tg' (pu.dom s) (h.tf j e he b s) (fun z => c (Tg.field.inj z))
  · intro b o hb ht
    exact F.fr b o hb fun s => by rw [tS b s] at ht; cases ht
  · intro b hb ht
    show (if f'.S b then some (.field i) else L.tag b) = none
    rw [if_neg (fun s => ?_)]
    · exact ht
    · rcases x.S s with q | q
      · rw [tS b q] at ht
        cases ht
      · exact hb q
end

end Dk
namespace Dk
open PySem PySem.Spec PyProof.Rows L2 Evl RZ
local macro_rules | `(tactic| walk_at "hp") => `(tactic| first | assumption | exact L2.upd_same | (apply Dk.Ex.at (by assumption); walk_at "hp"))
local macro_rules | `(tactic| walk_at "hq") => `(tactic| first | assumption | (apply Evl.sq_of; walk_at "hp") | (apply Evl.st_of; walk_at "hp") | (apply Evl.ex_l (by assumption); walk_at "hq") | (apply Evl.ex_t (by assumption); walk_at "hq"))
local macro_rules | `(tactic| walk_at "ex") => `(tactic| first | exact Evl.Ex.refl _ | assumption | (refine Evl.Ex.trans ?_ (by assumption); walk_at "ex"))
local macro_rules | `(tactic| walk_at "e1") => `(tactic| first
  | (with_reducible refine if_t ?_) | (with_reducible refine if_f ?_) | (with_reducible refine s_seq ?_) | (with_reducible refine s_asg ?_) | (with_reducible refine s_name ?_) | (with_reducible refine s_drop ?_) | (with_reducible refine s_ret ?_) | (with_reducible refine s_nil ?_) | (with_reducible refine s_cons ?_)
  | (with_reducible refine s_c ?_)
  | ((with_reducible refine' s_var ?h1 ?_); (case h1 => rfl))
  | (with_reducible refine s_op ?_) | (with_reducible refine s_call ?_) | (with_reducible refine s_cb ?_) | (with_reducible refine s_fld ?_) | (with_reducible refine s_tup ?_) | (with_reducible refine s_lst ?_) | (with_reducible refine s_meth ?_) | (with_reducible refine s_test ?_) | (with_reducible refine s_B ?_)
  | (with_reducible refine s_not ?_) | (with_reducible refine s_xb ?_) | (with_reducible refine s_if ?_) | (with_reducible refine s_ifS ?_) | (with_reducible refine s_next ?_) | (with_reducible refine s_sfld ?_)
  | (with_reducible refine s_I0 ?_) | ((with_reducible refine' s_I ?h1 ?_); (case h1 => first | exact ⟨by decide, by decide⟩ | exact .inr ⟨by decide, by decide⟩ | (show (0 : Int) < _; decide) | (show (0 : Int) ≤ _; first | decide | omega) | exact ⟨by omega, by omega⟩))
  | ((with_reducible refine' s_xf ?h1 ?h2 ?h3 ?h4 ?_); (case h1 => walk_at "hp"); (case h2 => exact Tx.clsK (by assumption) (by decide +kernel)); (case h3 => exact Tx.noatK (by assumption) (by decide +kernel)); (case h4 => rfl))
  | ((with_reducible refine' s_xs ?h1 ?h2 ?h3 ?h4 ?h5 ?_); (case h1 => walk_at "hp"); (case h2 => exact Tx.clsK (by assumption) (by decide +kernel)); (case h3 => exact Tx.noatK (by assumption) (by decide +kernel)); (case h4 => exact Dk.lt_ble rfl); (case h5 => rfl))
  | ((with_reducible refine' s_eq ?h1 ?_); (case h1 => rfl)) | ((with_reducible refine' s_ne ?h1 ?_); (case h1 => rfl)) | (with_reducible refine s_isN ?_)
  | ((with_reducible refine' s_xt ?h1 ?_); (case h1 => exact Nat.le_of_ble_eq_true rfl); intro _ _ _ _ _)
  | ((with_reducible refine' s_xl ?h1 ?_); (case h1 => exact Nat.le_of_ble_eq_true rfl); intro _ _ _ _ _)
  | ((with_reducible refine' s_lenL ?h1 ?_); (case h1 => walk_at "hq")) | ((with_reducible refine' s_lenT ?h1 ?_); (case h1 => walk_at "hq"))
  | ((with_reducible refine' s_ixL ?h1 ?h2 ?_); (case h1 => walk_at "hq"); (case h2 => first | assumption | exact atI_0 | exact atI_1 | rfl))
  | ((with_reducible refine' s_ixT ?h1 ?h2 ?_); (case h1 => walk_at "hq"); (case h2 => first | assumption | exact atI_0 | exact atI_1 | rfl))
  | (with_reducible refine s_or ?_) | (with_reducible refine s_and ?_)
  | ((with_reducible refine' s_nin ?h1 ?h2 ?h3 ?_); (case h1 => walk_at "hq"); (case h2 => rfl); (case h3 => rfl))
  | (with_reducible refine s_tru ?_)
  | (with_reducible refine s_ip ?_) | (with_reducible refine s_for1 ?_) | (with_reducible refine s_for2 ?_) | (with_reducible refine s_for3 ?_) | (with_reducible refine s_forL ?_) | (with_reducible refine s_forT ?_) | (with_reducible refine s_lcL ?_) | (with_reducible refine s_lcT ?_) | (with_reducible refine s_lcS ?_) | (with_reducible refine s_lcE ?_) | (with_reducible refine s_lcZ ?_) | (with_reducible refine s_lcZA ?_) | (with_reducible refine s_lcR ?_) | (with_reducible refine s_chain ?_) | (with_reducible refine s_av ?_) | (with_reducible refine s_ov ?_) | (with_reducible refine s_yes ?_) | (with_reducible refine s_tbm ?_) | (with_reducible refine s_ord ?_) | (with_reducible refine s_raise ?_) | (with_reducible refine s_fldaug ?_) | (with_reducible refine s_add ?_) | (with_reducible refine s_slc ?_) | (with_reducible refine s_part ?_) | (with_reducible refine x_p1 ?_) | (with_reducible refine s_nopart ?_)
  | ((with_reducible refine' x_bm ?h1 ?_); (case h1 => walk_at "hq")) | (with_reducible refine s_par1 ?_) | (with_reducible refine s_un ?_) | (with_reducible refine s_uI ?_))
local macro_rules | `(tactic| walk_at "ev") => `(tactic| repeat walk_at "e1")
-- plain
section
variable {K : PySem.W.Frag} {H H1 H' : Hp} {n : Nat} {L L' : WL} {w : R7293g.Spec.World}
theorem slot_put {kv : List (Key × V)} {s j : Nat} {v : V} : valV (putK kv (.inl (s : Int)) v) (.inl (j : Int)) = if j = s then some v else valV kv (.inl (j : Int)) := by
  rw [valV_put]
  by_cases c : j = s
  · subst c
    rw [if_pos rfl, if_pos rfl]
  · rw [if_neg c, if_neg]
    intro z
    have := Sum.inl.inj z
    omega
theorem getD_set {α : Type} {l : List (Option α)} {s j : Nat} {v : Option α} (hs : s < l.length) : (l.set s v).getD j none = if j = s then v else l.getD j none := by
  rw [List.getD_eq_getElem?_getD, List.getD_eq_getElem?_getD]
  by_cases c : j = s
  · subst c
    rw [if_pos rfl, List.getElem?_set_self hs]
    rfl
  · rw [if_neg c, List.getElem?_set_ne (fun z => c z.symm)]
theorem all2_snoc_up {α β : Type} {P P' : α → β → Prop} {a : α} {b : β} {l : List α} {m : List β} (h : All2 P l m) (q : P' a b) (f : ∀ (j : Nat) x y, l[j]? = some x → P x y → P' x y) : All2 P' (l ++ [a]) (m ++ [b]) := All2.snoc (all2_ix h f) q
theorem ix_snoc {α : Type} {l : List α} {a x : α} {j : Nat} (h : (l ++ [a])[j]? = some x) : l[j]? = some x ∨ (j = l.length ∧ x = a) := by
  by_cases c : j < l.length
  · rw [List.getElem?_append_left c] at h
    exact .inl h
  · rw [List.getElem?_append_right (by omega)] at h
    have : j - l.length = 0 := by
      have := (List.getElem?_eq_some_iff.mp h).1
      rw [List.length_singleton] at this
      omega
    rw [this] at h
    exact .inr ⟨by omega, (Option.some.inj h).symm⟩
theorem ix_old {α : Type} {l : List α} {a x : α} {j : Nat} (h : l[j]? = some x) : (l ++ [a])[j]? = some x := by
  rw [List.getElem?_append_left (List.getElem?_eq_some_iff.mp h).1]
  exact h
theorem ix_new {α : Type} {l : List α} {a : α} : (l ++ [a])[l.length]? = some a := by
  rw [List.getElem?_append_right (Nat.le_refl _), Nat.sub_self]
  rfl
/-- a new door in a slot -/
theorem WorldAt.new_door (h : WorldAt K H n L w) (x : Ex H H1) {d : DL} {g : R7293g.Spec.Gate} {kv : List (Key × V)} {s : Nat} (hs : s < 2) (hd : DoorAt K H1 0 d g) (fr : ∀ b, d.S b → H b = none) (hk : H1 L.dd = some (.dK kv)) :
    ∃ L', WorldAt K (upd H1 L.dd (.dK (putK kv (.inl (s : Int)) (.ref d.a)))) (n + 1) L' { w with heap := w.heap ++ [g], doors := w.doors.set s (some w.heap.length) } ∧ Out1 H (upd H1 L.dd (.dK (putK kv (.inl (s : Int)) (.ref d.a)))) L L' := by
  classical
  have F : Fr H1 (upd H1 L.dd (.dK (putK kv (.inl (s : Int)) (.ref d.a)))) (fun b => b = L.dd) := Fr.one hk rfl
  have h1 := h.ex x
  obtain ⟨kd, d1, d2, d3⟩ := h1.ds
  obtain ⟨kf, f1, f2, f3⟩ := h1.fs
  obtain ⟨kw, w1, w2, w3⟩ := h1.ws
  rw [d1] at hk
  cases hk
  have ns : ∀ {b t}, L.tag b = some t → t ≠ .desk → ¬ b = L.dd := fun {b t} hb ht z => by
    rw [z, h.t2] at hb
    exact ht (Option.some.inj hb).symm
  let tag' : Addr → Option Tg := fun b => if d.S b then some (.door w.heap.length) else L.tag b
  have tg' : ∀ {b t}, H b ≠ none → L.tag b = some t → tag' b = some t := fun {b t} hn hb => by
    show (if d.S b then some (.door w.heap.length) else L.tag b) = some t
    rw [if_neg (fun s => hn (fr b s))]
    exact hb
  have so : ∀ {b : Addr} {o : HO}, H b = some o → H b ≠ none := fun {b o} z q => by rw [z] at q; cases q
  obtain ⟨kd', e1, _⟩ := h.ds
  obtain ⟨kf', e2, _⟩ := h.fs
  obtain ⟨kw', e3, _, e4⟩ := h.ws
  have dln : L.dl.length = w.heap.length := h.doors.len
  have dS : ∀ b, d.S b → ¬ b = L.dd := fun b q z => by
    have := fr b q
    rw [z, e1] at this
    cases this
  refine ⟨{ L with dl := L.dl ++ [d], tag := tag' }, ⟨F.fr _ _ h1.obj (ne_of h1.obj d1 (fun z => nomatch z)), ?_, ?_, ?_, ?_, ?_, by rw [List.length_set]; exact h.l1, h.l2, h.l3, tg' (so h.obj) h.t1, tg' (so e1) h.t2, tg' (so e2) h.t3, tg' (so e3) h.t4, h.n1, h.n2, h.n3, ?_, ?_⟩, ⟨rfl, ?_, ?_⟩⟩
  · exact all2_snoc_up h1.doors ((F.door hd dS).le (Nat.zero_le _)) fun j e u he q => (F.door q fun b s => ns (h.td j e he b s) (fun z => nomatch z)).up
  · exact all2_ix h1.fields fun j e u he q => (F.field q fun b s => ns (h.tf j e he b s) (fun z => nomatch z)).up
  · refine ⟨_, upd_same, Nat.le_trans (put_len _ _ _) (Nat.succ_le_succ d2), fun j i hj => ?_⟩
    have hj : (w.doors.set s (some w.heap.length)).getD j none = some i := hj
    rw [getD_set (by rw [h.l1]; exact hs)] at hj
    rw [slot_put]
    by_cases c : j = s
    · rw [if_pos c] at hj ⊢
      cases hj
      exact ⟨d, by show (L.dl ++ [d])[w.heap.length]? = _; rw [← dln]; exact ix_new, rfl⟩
    · rw [if_neg c] at hj ⊢
      obtain ⟨e, he, hv⟩ := d3 j i hj
      exact ⟨e, ix_old he, hv⟩
  · exact ⟨kf, F.fr _ _ f1 (fun z => h.n1 z.symm), Nat.le_succ_of_le f2, f3⟩
  · refine ⟨kw, F.fr _ _ w1 (fun z => h.n2 z.symm), Nat.le_succ_of_le w2, fun s tr hs => ?_⟩
    obtain ⟨f, a, dx, q1, q2, q3, q4⟩ := w3 s tr hs
    obtain ⟨_, a', _, _, p2, p3, _⟩ := e4 s tr hs
    have hw : kw' = kw := by
      have := x _ _ e3
      rw [w1] at this
      cases this
      rfl
    subst hw
    rw [q2] at p2
    cases p2
    exact ⟨f, a, dx, q1, q2, F.fr _ _ q3 (ns q4 (fun z => nomatch z)), tg' (so p3) q4⟩
  · intro j e he b s
    rcases ix_snoc he with he | ⟨rfl, rfl⟩
    · obtain ⟨u, _, pu⟩ := h.doors.get' he
      exact tg' (pu.dom s) (h.td j e he b s)
    · show (if e.S b then some (Tg.door w.heap.length) else L.tag b) = some (Tg.door L.dl.length)
      rw [if_pos s, dln]
  · intro j e he b s
    obtain ⟨u, _, pu⟩ := h.fields.get' he
    exact tg' (pu.dom s) (h.tf j e he b s)
  · intro b o hb ht
    exact F.fr b o (x _ _ hb) fun z => by rw [z, h.t2] at ht; cases ht
  · intro b hb ht
    show (if d.S b then some (.door w.heap.length) else L.tag b) = none
    rw [if_neg (fun s => hb (fr b s))]
    exact ht
/-- a new field in a slot -/
theorem WorldAt.new_field (h : WorldAt K H n L w) (x : Ex H H1) {d : FL} {g : R7293g.Spec.Field} {kv : List (Key × V)} {s : Nat} (hs : s < 2) (hd : FieldAt K H1 0 d g) (fr : ∀ b, d.S b → H b = none) (hk : H1 L.df = some (.dK kv)) :
    ∃ L', WorldAt K (upd H1 L.df (.dK (putK kv (.inl (s : Int)) (.ref d.f)))) (n + 1) L' { w with yard := w.yard ++ [g], fields := w.fields.set s (some w.yard.length) } ∧ Out1 H (upd H1 L.df (.dK (putK kv (.inl (s : Int)) (.ref d.f)))) L L' := by
  classical
  have F : Fr H1 (upd H1 L.df (.dK (putK kv (.inl (s : Int)) (.ref d.f)))) (fun b => b = L.df) := Fr.one hk rfl
  have h1 := h.ex x
  obtain ⟨kd, d1, d2, d3⟩ := h1.ds
  obtain ⟨kf, f1, f2, f3⟩ := h1.fs
  obtain ⟨kw, w1, w2, w3⟩ := h1.ws
  rw [f1] at hk
  cases hk
  have ns : ∀ {b t}, L.tag b = some t → t ≠ .desk → ¬ b = L.df := fun {b t} hb ht z => by
    rw [z, h.t3] at hb
    exact ht (Option.some.inj hb).symm
  let tag' : Addr → Option Tg := fun b => if d.S b then some (.field w.yard.length) else L.tag b
  have tg' : ∀ {b t}, H b ≠ none → L.tag b = some t → tag' b = some t := fun {b t} hn hb => by
    show (if d.S b then some (.field w.yard.length) else L.tag b) = some t
    rw [if_neg (fun s => hn (fr b s))]
    exact hb
  have so : ∀ {b : Addr} {o : HO}, H b = some o → H b ≠ none := fun {b o} z q => by rw [z] at q; cases q
  obtain ⟨kd', e1, _⟩ := h.ds
  obtain ⟨kf', e2, _⟩ := h.fs
  obtain ⟨kw', e3, _, e4⟩ := h.ws
  have dln : L.fl.length = w.yard.length := h.fields.len
  have dS : ∀ b, d.S b → ¬ b = L.df := fun b q z => by
    have := fr b q
    rw [z, e2] at this
    cases this
  refine ⟨{ L with fl := L.fl ++ [d], tag := tag' }, ⟨F.fr _ _ h1.obj (ne_of h1.obj f1 (fun z => nomatch z)), ?_, ?_, ?_, ?_, ?_, h.l1, by rw [List.length_set]; exact h.l2, h.l3, tg' (so h.obj) h.t1, tg' (so e1) h.t2, tg' (so e2) h.t3, tg' (so e3) h.t4, h.n1, h.n2, h.n3, ?_, ?_⟩, ⟨rfl, ?_, ?_⟩⟩
  · exact all2_ix h1.doors fun j e u he q => (F.door q fun b s => ns (h.td j e he b s) (fun z => nomatch z)).up
  · exact all2_snoc_up h1.fields ((F.field hd dS).le (Nat.zero_le _)) fun j e u he q => (F.field q fun b s => ns (h.tf j e he b s) (fun z => nomatch z)).up
  · exact ⟨kd, F.fr _ _ d1 h.n1, Nat.le_succ_of_le d2, d3⟩
  · refine ⟨_, upd_same, Nat.le_trans (put_len _ _ _) (Nat.succ_le_succ f2), fun j i hj => ?_⟩
    have hj : (w.fields.set s (some w.yard.length)).getD j none = some i := hj
    rw [getD_set (by rw [h.l2]; exact hs)] at hj
    rw [slot_put]
    by_cases c : j = s
    · rw [if_pos c] at hj ⊢
      cases hj
      exact ⟨d, by show (L.fl ++ [d])[w.yard.length]? = _; rw [← dln]; exact ix_new, rfl⟩
    · rw [if_neg c] at hj ⊢
      obtain ⟨e, he, hv⟩ := f3 j i hj
      exact ⟨e, ix_old he, hv⟩
  · refine ⟨kw, F.fr _ _ w1 (fun z => h.n3 z.symm), Nat.le_succ_of_le w2, fun s tr hs => ?_⟩
    obtain ⟨f, a, dx, q1, q2, q3, q4⟩ := w3 s tr hs
    obtain ⟨_, a', _, _, p2, p3, _⟩ := e4 s tr hs
    have hw : kw' = kw := by
      have := x _ _ e3
      rw [w1] at this
      cases this
      rfl
    subst hw
    rw [q2] at p2
    cases p2
    exact ⟨f, a, dx, ix_old q1, q2, F.fr _ _ q3 (ns q4 (fun z => nomatch z)), tg' (so p3) q4⟩
  · intro j e he b s
    obtain ⟨u, _, pu⟩ := h.doors.get' he
    exact tg' (pu.dom s) (h.td j e he b s)
  · intro j e he b s
    rcases ix_snoc he with he | ⟨rfl, rfl⟩
    · obtain ⟨u, _, pu⟩ := h.fields.get' he
      exact tg' (pu.dom s) (h.tf j e he b s)
    · show (if e.S b then some (Tg.field w.yard.length) else L.tag b) = some (Tg.field L.fl.length)
      rw [if_pos s, dln]
  · intro b o hb ht
    exact F.fr b o (x _ _ hb) fun z => by rw [z, h.t3] at ht; cases ht
  · intro b hb ht
    show (if d.S b then some (.field w.yard.length) else L.tag b) = none
    rw [if_neg (fun s => hb (fr b s))]
    exact ht
/-- a new walk in a slot -/
theorem WorldAt.new_walk (h : WorldAt K H n L w) (x : Ex H H1) {a dx : Addr} {fi m : Nat} {f : FL} {kv : List (Key × V)} {s : Nat} (hs : s < 2) (hf : L.fl[fi]? = some f) (ha : H1 a = some (.ins (cA K "Walk") dx (fWalk f.f m false))) (fr : H a = none) (hk : H1 L.dw = some (.dK kv)) :
    ∃ L', WorldAt K (upd H1 L.dw (.dK (putK kv (.inl (s : Int)) (.ref a)))) (n + 1) L' { w with traces := w.traces.set s (some ⟨fi, m, false⟩) } ∧ Out1 H (upd H1 L.dw (.dK (putK kv (.inl (s : Int)) (.ref a)))) L L' := by
  classical
  have F : Fr H1 (upd H1 L.dw (.dK (putK kv (.inl (s : Int)) (.ref a)))) (fun b => b = L.dw) := Fr.one hk rfl
  have h1 := h.ex x
  obtain ⟨kd, d1, d2, d3⟩ := h1.ds
  obtain ⟨kf, f1, f2, f3⟩ := h1.fs
  obtain ⟨kw, w1, w2, w3⟩ := h1.ws
  rw [w1] at hk
  cases hk
  have ns : ∀ {b t}, L.tag b = some t → t ≠ .desk → ¬ b = L.dw := fun {b t} hb ht z => by
    rw [z, h.t4] at hb
    exact ht (Option.some.inj hb).symm
  let tag' : Addr → Option Tg := fun b => if b = a then some (.walk s) else L.tag b
  have tg' : ∀ {b t}, H b ≠ none → L.tag b = some t → tag' b = some t := fun {b t} hn hb => by
    show (if b = a then some (.walk s) else L.tag b) = some t
    rw [if_neg (fun z => hn (by rw [z]; exact fr))]
    exact hb
  have so : ∀ {b : Addr} {o : HO}, H b = some o → H b ≠ none := fun {b o} z q => by rw [z] at q; cases q
  obtain ⟨kd', e1, _⟩ := h.ds
  obtain ⟨kf', e2, _⟩ := h.fs
  obtain ⟨kw', e3, _, e4⟩ := h.ws
  refine ⟨{ L with tag := tag' }, ⟨F.fr _ _ h1.obj (ne_of h1.obj w1 (fun z => nomatch z)), ?_, ?_, ?_, ?_, ?_, h.l1, h.l2, by rw [List.length_set]; exact h.l3, tg' (so h.obj) h.t1, tg' (so e1) h.t2, tg' (so e2) h.t3, tg' (so e3) h.t4, h.n1, h.n2, h.n3, ?_, ?_⟩, ⟨rfl, ?_, ?_⟩⟩
  · exact all2_ix h1.doors fun j e u he q => (F.door q fun b s => ns (h.td j e he b s) (fun z => nomatch z)).up
  · exact all2_ix h1.fields fun j e u he q => (F.field q fun b s => ns (h.tf j e he b s) (fun z => nomatch z)).up
  · exact ⟨kd, F.fr _ _ d1 h.n2, Nat.le_succ_of_le d2, d3⟩
  · exact ⟨kf, F.fr _ _ f1 h.n3, Nat.le_succ_of_le f2, f3⟩
  · refine ⟨_, upd_same, Nat.le_trans (put_len _ _ _) (Nat.succ_le_succ w2), fun j tr hj => ?_⟩
    have hj : (w.traces.set s (some ⟨fi, m, false⟩)).getD j none = some tr := hj
    rw [getD_set (by rw [h.l3]; exact hs)] at hj
    rw [slot_put]
    by_cases c : j = s
    · rw [if_pos c] at hj ⊢
      cases hj
      refine ⟨f, a, dx, hf, rfl, F.fr _ _ ha (ne_of ha w1 (fun z => nomatch z)), ?_⟩
      show (if a = a then some (Tg.walk s) else L.tag a) = some (Tg.walk j)
      rw [if_pos rfl, c]
    · rw [if_neg c] at hj ⊢
      obtain ⟨f', a', dx', q1, q2, q3, q4⟩ := w3 j tr hj
      obtain ⟨_, a2, _, _, p2, p3, _⟩ := e4 j tr hj
      have hw : kw' = kv := by
        have := x _ _ e3
        rw [w1] at this
        cases this
        rfl
      subst hw
      rw [q2] at p2
      cases p2
      exact ⟨f', a', dx', q1, q2, F.fr _ _ q3 (ns q4 (fun z => nomatch z)), tg' (so p3) q4⟩
  · intro j e he b s
    obtain ⟨u, _, pu⟩ := h.doors.get' he
    exact tg' (pu.dom s) (h.td j e he b s)
  · intro j e he b s
    obtain ⟨u, _, pu⟩ := h.fields.get' he
    exact tg' (pu.dom s) (h.tf j e he b s)
  · intro b o hb ht
    exact F.fr b o (x _ _ hb) fun z => by rw [z, h.t4] at ht; cases ht
  · intro b hb ht
    show (if b = a then some (.walk s) else L.tag b) = none
    rw [if_neg (fun z => hb (by rw [z]; exact fr))]
    exact ht
/-- a step of the walk in a slot -/
theorem WorldAt.walk_step (h : WorldAt K H n L w) {a dx : Addr} {tr : R7293g.Spec.Trace} {m : Nat} {b0 : Bool} {f : FL} {s : Nat} (hs : s < 2) (hf : L.fl[tr.field]? = some f) (ht : w.traces.getD s none = some tr) {kv : List (Key × V)} (hk : H L.dw = some (.dK kv)) (hv : valV kv (.inl (s : Int)) = some (.ref a))
    (ho : H a = some (.ins (cA K "Walk") dx (fWalk f.f tr.next tr.ended))) (ha : H' a = some (.ins (cA K "Walk") dx (fWalk f.f m b0))) (fr : ∀ c u, c ≠ a → H c = some u → H' c = some u) :
    WorldAt K H' (n + 1) L { w with traces := w.traces.set s (some { tr with next := m, ended := b0 }) } ∧ Out1 H H' L L := by
  have F : Fr H H' (fun b => b = a) := ⟨fun b u hb s => fr b u s hb, fun b u hm hb => by
    rw [hm, ho] at hb
    cases hb
    rfl⟩
  obtain ⟨kd, d1, d2, d3⟩ := h.ds
  obtain ⟨kf, f1, f2, f3⟩ := h.fs
  obtain ⟨kw, w1, w2, w3⟩ := h.ws
  rw [w1] at hk
  cases hk
  obtain ⟨f', a', dx', q1, q2, q3, q4⟩ := w3 s tr ht
  rw [hv] at q2
  cases q2
  have ns : ∀ {b t}, L.tag b = some t → t ≠ .walk s → ¬ b = a := fun {b t} hb ht z => by
    rw [z, q4] at hb
    exact ht (Option.some.inj hb).symm
  refine ⟨⟨F.fr _ _ h.obj (ns h.t1 (fun z => nomatch z)), ?_, ?_, ?_, ?_, ?_, h.l1, h.l2, by rw [List.length_set]; exact h.l3, h.t1, h.t2, h.t3, h.t4, h.n1, h.n2, h.n3, h.td, h.tf⟩, ⟨rfl, ?_, fun _ _ z => z⟩⟩
  · exact all2_ix h.doors fun j e u he q => (F.door q fun b s => ns (h.td j e he b s) (fun z => nomatch z)).up
  · exact all2_ix h.fields fun j e u he q => (F.field q fun b s => ns (h.tf j e he b s) (fun z => nomatch z)).up
  · exact ⟨kd, F.fr _ _ d1 (ns h.t2 (fun z => nomatch z)), Nat.le_succ_of_le d2, d3⟩
  · exact ⟨kf, F.fr _ _ f1 (ns h.t3 (fun z => nomatch z)), Nat.le_succ_of_le f2, f3⟩
  · refine ⟨kv, F.fr _ _ w1 (ns h.t4 (fun z => nomatch z)), Nat.le_succ_of_le w2, fun j tr2 hj => ?_⟩
    have hj : (w.traces.set s (some { tr with next := m, ended := b0 })).getD j none = some tr2 := hj
    rw [getD_set (by rw [h.l3]; exact hs)] at hj
    by_cases c : j = s
    · rw [if_pos c] at hj
      cases hj
      subst c
      exact ⟨f, a, dx, hf, hv, ha, q4⟩
    · rw [if_neg c] at hj
      obtain ⟨f2, a2, dx2, p1, p2, p3, p4⟩ := w3 j tr2 hj
      exact ⟨f2, a2, dx2, p1, p2, F.fr _ _ p3 (ns p4 (fun z => c (Tg.walk.inj z))), p4⟩
  · intro b o hb ht
    exact F.fr b o hb fun z => by rw [z, q4] at ht; cases ht
theorem Out1.pre {H0 : Hp} (x : Ex H0 H) (o : Out1 H H' L L') : Out1 H0 H' L L' := ⟨o.k, fun b u hb => o.fr b u (x _ _ hb), fun b hb => o.tg b fun z => hb (Ex.fr x z)⟩
theorem Out1.post {H2 : Hp} (o : Out1 H H' L L') (x : Ex H' H2) : Out1 H H2 L L' := ⟨o.k, fun b u hb ht => x _ _ (o.fr b u hb ht), o.tg⟩
end

end Dk
namespace Dk
open PySem PySem.Spec PyProof.Rows L2 Evl RZ
local macro_rules | `(tactic| walk_at "hp") => `(tactic| first | assumption | exact L2.upd_same | (apply Dk.Ex.at (by assumption); walk_at "hp"))
local macro_rules | `(tactic| walk_at "hq") => `(tactic| first | assumption | (apply Evl.sq_of; walk_at "hp") | (apply Evl.st_of; walk_at "hp") | (apply Evl.ex_l (by assumption); walk_at "hq") | (apply Evl.ex_t (by assumption); walk_at "hq"))
local macro_rules | `(tactic| walk_at "ex") => `(tactic| first | exact Evl.Ex.refl _ | assumption | (refine Evl.Ex.trans ?_ (by assumption); walk_at "ex"))
local macro_rules | `(tactic| walk_at "e1") => `(tactic| first
  | (with_reducible refine if_t ?_) | (with_reducible refine if_f ?_) | (with_reducible refine s_seq ?_) | (with_reducible refine s_asg ?_) | (with_reducible refine s_name ?_) | (with_reducible refine s_drop ?_) | (with_reducible refine s_ret ?_) | (with_reducible refine s_nil ?_) | (with_reducible refine s_cons ?_)
  | (with_reducible refine s_c ?_)
  | ((with_reducible refine' s_var ?h1 ?_); (case h1 => rfl))
  | (with_reducible refine s_op ?_) | (with_reducible refine s_call ?_) | (with_reducible refine s_cb ?_) | (with_reducible refine s_fld ?_) | (with_reducible refine s_tup ?_) | (with_reducible refine s_lst ?_) | (with_reducible refine s_meth ?_) | (with_reducible refine s_test ?_) | (with_reducible refine s_B ?_)
  | (with_reducible refine s_not ?_) | (with_reducible refine s_xb ?_) | (with_reducible refine s_if ?_) | (with_reducible refine s_ifS ?_) | (with_reducible refine s_next ?_) | (with_reducible refine s_sfld ?_)
  | (with_reducible refine s_I0 ?_) | ((with_reducible refine' s_I ?h1 ?_); (case h1 => first | exact ⟨by decide, by decide⟩ | exact .inr ⟨by decide, by decide⟩ | (show (0 : Int) < _; decide) | (show (0 : Int) ≤ _; first | decide | omega) | exact ⟨by omega, by omega⟩))
  | ((with_reducible refine' s_xf ?h1 ?h2 ?h3 ?h4 ?_); (case h1 => walk_at "hp"); (case h2 => exact Tx.clsK (by assumption) (by decide +kernel)); (case h3 => exact Tx.noatK (by assumption) (by decide +kernel)); (case h4 => rfl))
  | ((with_reducible refine' s_xs ?h1 ?h2 ?h3 ?h4 ?h5 ?_); (case h1 => walk_at "hp"); (case h2 => exact Tx.clsK (by assumption) (by decide +kernel)); (case h3 => exact Tx.noatK (by assumption) (by decide +kernel)); (case h4 => exact Dk.lt_ble rfl); (case h5 => rfl))
  | ((with_reducible refine' s_eq ?h1 ?_); (case h1 => rfl)) | ((with_reducible refine' s_ne ?h1 ?_); (case h1 => rfl)) | (with_reducible refine s_isN ?_)
  | ((with_reducible refine' s_xt ?h1 ?_); (case h1 => exact Nat.le_of_ble_eq_true rfl); intro _ _ _ _ _)
  | ((with_reducible refine' s_xl ?h1 ?_); (case h1 => exact Nat.le_of_ble_eq_true rfl); intro _ _ _ _ _)
  | ((with_reducible refine' s_lenL ?h1 ?_); (case h1 => walk_at "hq")) | ((with_reducible refine' s_lenT ?h1 ?_); (case h1 => walk_at "hq"))
  | ((with_reducible refine' s_ixL ?h1 ?h2 ?_); (case h1 => walk_at "hq"); (case h2 => first | assumption | exact atI_0 | exact atI_1 | rfl))
  | ((with_reducible refine' s_ixT ?h1 ?h2 ?_); (case h1 => walk_at "hq"); (case h2 => first | assumption | exact atI_0 | exact atI_1 | rfl))
  | (with_reducible refine s_or ?_) | (with_reducible refine s_and ?_)
  | ((with_reducible refine' s_nin ?h1 ?h2 ?h3 ?_); (case h1 => walk_at "hq"); (case h2 => rfl); (case h3 => rfl))
  | (with_reducible refine s_tru ?_)
  | (with_reducible refine s_ip ?_) | (with_reducible refine s_for1 ?_) | (with_reducible refine s_for2 ?_) | (with_reducible refine s_for3 ?_) | (with_reducible refine s_forL ?_) | (with_reducible refine s_forT ?_) | (with_reducible refine s_lcL ?_) | (with_reducible refine s_lcT ?_) | (with_reducible refine s_lcS ?_) | (with_reducible refine s_lcE ?_) | (with_reducible refine s_lcZ ?_) | (with_reducible refine s_lcZA ?_) | (with_reducible refine s_lcR ?_) | (with_reducible refine s_chain ?_) | (with_reducible refine s_av ?_) | (with_reducible refine s_ov ?_) | (with_reducible refine s_yes ?_) | (with_reducible refine s_tbm ?_) | (with_reducible refine s_ord ?_) | (with_reducible refine s_raise ?_) | (with_reducible refine s_fldaug ?_) | (with_reducible refine s_add ?_) | (with_reducible refine s_slc ?_) | (with_reducible refine s_part ?_) | (with_reducible refine x_p1 ?_) | (with_reducible refine s_nopart ?_)
  | ((with_reducible refine' x_bm ?h1 ?_); (case h1 => walk_at "hq")) | (with_reducible refine s_par1 ?_) | (with_reducible refine s_un ?_) | (with_reducible refine s_uI ?_))
local macro_rules | `(tactic| walk_at "ev") => `(tactic| repeat walk_at "e1")
-- plain
/-! ### which call is asked -/
section
open R7293g.Spec
def callAs (number : Nat) (v0 v1 v2 v3 : RWire.Value) (c : Call) : Prop :=
  (number = 0 ∧ c = .roundOffer (Rust.taken v0) (Rust.taken v1)) ∨ (number = 1 ∧ c = .bestTable (Rust.taken v0) (Rust.taken v1)) ∨
  ∃ s : Nat, s < 2 ∧ v0 = .int (s : Int) ∧ (
    (number = 2 ∧ c = .doorNew s (Rust.taken v1) (Rust.taken v2) (Rust.taken v3)) ∨
    (number = 3 ∧ c = .doorKnock s (Rust.taken v1) (Rust.taken v2) (Rust.taken v3)) ∨
    (number = 4 ∧ c = .doorBack s (Rust.taken v1) (Rust.taken v2) (Rust.taken v3)) ∨
    (number = 5 ∧ c = .doorClose s (Rust.taken v1)) ∨
    (number = 6 ∧ c = .doorNext s) ∨
    (number = 7 ∧ c = .doorRead s (Rust.taken v1)) ∨
    (number = 8 ∧ c = .doorState s) ∨
    (number = 9 ∧ c = .fieldNew s (Rust.taken v1) (Rust.taken v2) (Rust.taken v3)) ∨
    (number = 10 ∧ c = .fieldKnock s (Rust.taken v1) (Rust.taken v2) (Rust.taken v3)) ∨
    (number = 11 ∧ c = .fieldBack s (Rust.taken v1)) ∨
    (number = 12 ∧ c = .fieldClose s (Rust.taken v1)) ∨
    (number = 13 ∧ c = .fieldNext s) ∨
    (number = 14 ∧ c = .fieldState s) ∨
    (number = 15 ∧ ∃ f : Nat, f < 2 ∧ v1 = .int (f : Int) ∧ c = .traceNew s f (Rust.taken v2)) ∨
    (number = 16 ∧ c = .traceNext s) ∨
    (number = 17 ∧ c = .traceReturn s (Rust.taken v1)))
/-- the arguments, filled up -/
def pad (l : List RWire.Value) : List RWire.Value := l ++ List.replicate (4 - l.length) .nothing
theorem argAt_pad {l : List RWire.Value} {v0 v1 v2 v3 : RWire.Value} (h : pad l = [v0, v1, v2, v3]) :
    Rust.argAt (Rust.takenAll l) 0 = Rust.taken v0 ∧ Rust.argAt (Rust.takenAll l) 1 = Rust.taken v1 ∧ Rust.argAt (Rust.takenAll l) 2 = Rust.taken v2 ∧ Rust.argAt (Rust.takenAll l) 3 = Rust.taken v3 := by
  unfold pad at h
  rcases l with _ | ⟨a, _ | ⟨b, _ | ⟨c, _ | ⟨d, _ | ⟨e, l⟩⟩⟩⟩⟩
  · cases h; exact ⟨rfl, rfl, rfl, rfl⟩
  · cases h; exact ⟨rfl, rfl, rfl, rfl⟩
  · cases h; exact ⟨rfl, rfl, rfl, rfl⟩
  · cases h; exact ⟨rfl, rfl, rfl, rfl⟩
  · cases h; exact ⟨rfl, rfl, rfl, rfl⟩
  · have := congrArg List.length h
    rw [List.length_append] at this
    simp at this
theorem slot_val {v : RWire.Value} {s : Nat} (h : Rust.slotOf 1 (Rust.taken v) = some s) : s < 2 ∧ v = .int (s : Int) := by
  cases v
  case int i =>
    have h : (if (some i == RShim.F64.negZero) = true then none else (RShim.F64.toInt? (some i)).bind fun k => if (decide (0 ≤ k) && Nat.ble k.toNat 1) = true then some k.toNat else none) = some s := h
    rw [if_neg (by unfold RShim.F64.negZero; exact Bool.false_ne_true)] at h
    have h : (if (decide (0 ≤ i) && Nat.ble i.toNat 1) = true then some i.toNat else none) = some s := h
    by_cases c : (decide (0 ≤ i) && Nat.ble i.toNat 1) = true
    · rw [if_pos c] at h
      rw [Bool.and_eq_true] at c
      have c1 := of_decide_eq_true c.1
      have c2 := Nat.le_of_ble_eq_true c.2
      cases h
      exact ⟨by omega, by rw [Int.toNat_of_nonneg c1]⟩
    · rw [if_neg c] at h
      cases h
  all_goals cases h
theorem taking_some {n : Nat} {l : List Plain} {c : Option Call} {r : Call} (h : Rust.taking n l c = some r) : c = some r := by
  unfold Rust.taking at h
  split at h
  · exact h
  · cases h
theorem slot_bind {x : Plain} {v : RWire.Value} {f : Nat → Option Call} {r : Call} (e : x = Rust.taken v) (h : (Rust.slotOf 1 x).bind f = some r) : ∃ s : Nat, s < 2 ∧ v = .int (s : Int) ∧ f s = some r := by
  subst e
  cases hs : Rust.slotOf 1 (Rust.taken v) with
  | none => rw [hs] at h; cases h
  | some s =>
    rw [hs] at h
    obtain ⟨h1, h2⟩ := slot_val hs
    exact ⟨s, h1, h2, h⟩
theorem call_cases {number : Nat} {l : List RWire.Value} {v0 v1 v2 v3 : RWire.Value} {c : Call} (h : Rust.callOf number (Rust.takenAll l) = some c) (hp : pad l = [v0, v1, v2, v3]) : callAs number v0 v1 v2 v3 c := by
  obtain ⟨a0, a1, a2, a3⟩ := argAt_pad hp
  unfold callAs
  unfold Rust.callOf at h
  split at h
  · unfold Rust.calls0 at h
    split at h
    case h_17 => cases h
    case h_16 =>
      have h := taking_some h
      obtain ⟨s, hs, hv, h⟩ := slot_bind a0 h
      obtain ⟨f, hf, hw, h⟩ := slot_bind a1 h
      rw [a2] at h
      cases h
      refine .inr (.inr ⟨s, hs, hv, ?_⟩)
      iterate 13 refine Or.inr ?_
      exact .inl ⟨rfl, f, hf, hw, rfl⟩
    case h_1 =>
      have h := taking_some h
      rw [a0, a1] at h
      cases h
      exact .inl ⟨rfl, rfl⟩
    case h_2 =>
      have h := taking_some h
      rw [a0, a1] at h
      cases h
      exact .inr (.inl ⟨rfl, rfl⟩)
    case h_3 =>
      obtain ⟨s, hs, hv, h⟩ := slot_bind a0 (taking_some h)
      rw [a1, a2, a3] at h
      cases h
      refine .inr (.inr ⟨s, hs, hv, ?_⟩)
      exact .inl ⟨rfl, rfl⟩
    case h_4 =>
      obtain ⟨s, hs, hv, h⟩ := slot_bind a0 (taking_some h)
      rw [a1, a2, a3] at h
      cases h
      refine .inr (.inr ⟨s, hs, hv, ?_⟩)
      iterate 1 refine Or.inr ?_
      exact .inl ⟨rfl, rfl⟩
    case h_5 =>
      obtain ⟨s, hs, hv, h⟩ := slot_bind a0 (taking_some h)
      rw [a1, a2, a3] at h
      cases h
      refine .inr (.inr ⟨s, hs, hv, ?_⟩)
      iterate 2 refine Or.inr ?_
      exact .inl ⟨rfl, rfl⟩
    case h_6 =>
      obtain ⟨s, hs, hv, h⟩ := slot_bind a0 (taking_some h)
      rw [a1] at h
      cases h
      refine .inr (.inr ⟨s, hs, hv, ?_⟩)
      iterate 3 refine Or.inr ?_
      exact .inl ⟨rfl, rfl⟩
    case h_7 =>
      obtain ⟨s, hs, hv, h⟩ := slot_bind a0 (taking_some h)
      cases h
      refine .inr (.inr ⟨s, hs, hv, ?_⟩)
      iterate 4 refine Or.inr ?_
      exact .inl ⟨rfl, rfl⟩
    case h_8 =>
      obtain ⟨s, hs, hv, h⟩ := slot_bind a0 (taking_some h)
      rw [a1] at h
      cases h
      refine .inr (.inr ⟨s, hs, hv, ?_⟩)
      iterate 5 refine Or.inr ?_
      exact .inl ⟨rfl, rfl⟩
    case h_9 =>
      obtain ⟨s, hs, hv, h⟩ := slot_bind a0 (taking_some h)
      cases h
      refine .inr (.inr ⟨s, hs, hv, ?_⟩)
      iterate 6 refine Or.inr ?_
      exact .inl ⟨rfl, rfl⟩
    case h_10 =>
      obtain ⟨s, hs, hv, h⟩ := slot_bind a0 (taking_some h)
      rw [a1, a2, a3] at h
      cases h
      refine .inr (.inr ⟨s, hs, hv, ?_⟩)
      iterate 7 refine Or.inr ?_
      exact .inl ⟨rfl, rfl⟩
    case h_11 =>
      obtain ⟨s, hs, hv, h⟩ := slot_bind a0 (taking_some h)
      rw [a1, a2, a3] at h
      cases h
      refine .inr (.inr ⟨s, hs, hv, ?_⟩)
      iterate 8 refine Or.inr ?_
      exact .inl ⟨rfl, rfl⟩
    case h_12 =>
      obtain ⟨s, hs, hv, h⟩ := slot_bind a0 (taking_some h)
      rw [a1] at h
      cases h
      refine .inr (.inr ⟨s, hs, hv, ?_⟩)
      iterate 9 refine Or.inr ?_
      exact .inl ⟨rfl, rfl⟩
    case h_13 =>
      obtain ⟨s, hs, hv, h⟩ := slot_bind a0 (taking_some h)
      rw [a1] at h
      cases h
      refine .inr (.inr ⟨s, hs, hv, ?_⟩)
      iterate 10 refine Or.inr ?_
      exact .inl ⟨rfl, rfl⟩
    case h_14 =>
      obtain ⟨s, hs, hv, h⟩ := slot_bind a0 (taking_some h)
      cases h
      refine .inr (.inr ⟨s, hs, hv, ?_⟩)
      iterate 11 refine Or.inr ?_
      exact .inl ⟨rfl, rfl⟩
    case h_15 =>
      obtain ⟨s, hs, hv, h⟩ := slot_bind a0 (taking_some h)
      cases h
      refine .inr (.inr ⟨s, hs, hv, ?_⟩)
      iterate 12 refine Or.inr ?_
      exact .inl ⟨rfl, rfl⟩
  · unfold Rust.calls1 at h
    split at h
    case h_1 =>
      obtain ⟨s, hs, hv, h⟩ := slot_bind a0 (taking_some h)
      cases h
      refine .inr (.inr ⟨s, hs, hv, ?_⟩)
      iterate 14 refine Or.inr ?_
      exact .inl ⟨rfl, rfl⟩
    case h_2 =>
      obtain ⟨s, hs, hv, h⟩ := slot_bind a0 (taking_some h)
      rw [a1] at h
      cases h
      refine .inr (.inr ⟨s, hs, hv, ?_⟩)
      iterate 15 refine Or.inr ?_
      exact ⟨rfl, rfl⟩
    case h_3 => cases h
  · cases h
end
mutual
theorem giv_tak {K : PySem.W.Frag} {H : Hp} : ∀ (v : RWire.Value) (a : Addr), VAt K H v a → Rust.given (Rust.taken v) = v
  | .nothing, _, _ => rfl
  | .null, _, _ => rfl
  | .bool _, _, _ => rfl
  | .int _, _, _ => rfl
  | .text u, _, _ => by
    show RWire.Value.text ((u.map Rust.unitOf).map Rust.octetOf) = _
    rw [List.map_map]
    congr 1
    conv => rhs; rw [← List.map_id u]
    refine List.map_congr_left fun o _ => ?_
    show UInt8.ofNat (UInt16.ofNat o.toNat).toNat = o
    rw [UInt16.toNat_ofNat', Nat.mod_eq_of_lt (Nat.lt_trans o.toNat_lt (by decide))]
    exact UInt8.ofNat_toNat
  | .list l, _, h => by
    unfold VAt at h
    obtain ⟨p, xs, _, _, h3⟩ := h
    show RWire.Value.list (Rust.givenAll (Rust.takenAll l)) = _
    rw [giv_takAll l xs h3]
  | .record l, _, h => by
    unfold VAt at h
    obtain ⟨p, xs, _, _, h3⟩ := h
    show RWire.Value.record (Rust.givenFields (Rust.takenFields l)) = _
    rw [giv_takEnts l xs h3]
  | .big _, _, h => by unfold VAt at h; exact h.elim
  | .octets _, _, h => by unfold VAt at h; exact h.elim
  | .wide _, _, h => by unfold VAt at h; exact h.elim
theorem giv_takAll {K : PySem.W.Frag} {H : Hp} : ∀ (l : List RWire.Value) (xs : List Addr), VAll K H l xs → Rust.givenAll (Rust.takenAll l) = l
  | [], _, _ => rfl
  | v :: r, a :: s, h => by
    unfold VAll at h
    show Rust.given (Rust.taken v) :: Rust.givenAll (Rust.takenAll r) = _
    rw [giv_tak v a h.1, giv_takAll r s h.2]
  | _ :: _, [], h => by unfold VAll at h; exact h.elim
theorem giv_takEnts {K : PySem.W.Frag} {H : Hp} : ∀ (l : List (RWire.Text × RWire.Value)) (xs : List Addr), VEnts K H l xs → Rust.givenFields (Rust.takenFields l) = l
  | [], _, _ => rfl
  | (n, v) :: r, a :: s, h => by
    unfold VEnts at h
    obtain ⟨⟨_, b, _, _, h3⟩, h4⟩ := h
    show ((n.map Rust.unitOf).map Rust.octetOf, Rust.given (Rust.taken v)) :: Rust.givenFields (Rust.takenFields r) = _
    rw [giv_tak v b h3, giv_takEnts r s h4, List.map_map]
    congr 2
    conv => rhs; rw [← List.map_id n]
    refine List.map_congr_left fun o _ => ?_
    show UInt8.ofNat (UInt16.ofNat o.toNat).toNat = o
    rw [UInt16.toNat_ofNat', Nat.mod_eq_of_lt (Nat.lt_trans o.toNat_lt (by decide))]
    exact UInt8.ofNat_toNat
  | _ :: _, [], h => by unfold VEnts at h; exact h.elim
end

end Dk
namespace Dk
open PySem PySem.Spec PyProof.Rows L2 Evl RZ
local macro_rules | `(tactic| walk_at "hp") => `(tactic| first | assumption | exact L2.upd_same | (apply Dk.Ex.at (by assumption); walk_at "hp"))
local macro_rules | `(tactic| walk_at "hq") => `(tactic| first | assumption | (apply Evl.sq_of; walk_at "hp") | (apply Evl.st_of; walk_at "hp") | (apply Evl.ex_l (by assumption); walk_at "hq") | (apply Evl.ex_t (by assumption); walk_at "hq"))
local macro_rules | `(tactic| walk_at "ex") => `(tactic| first | exact Evl.Ex.refl _ | assumption | (refine Evl.Ex.trans ?_ (by assumption); walk_at "ex"))
local macro_rules | `(tactic| walk_at "e1") => `(tactic| first
  | (with_reducible refine if_t ?_) | (with_reducible refine if_f ?_) | (with_reducible refine s_seq ?_) | (with_reducible refine s_asg ?_) | (with_reducible refine s_name ?_) | (with_reducible refine s_drop ?_) | (with_reducible refine s_ret ?_) | (with_reducible refine s_nil ?_) | (with_reducible refine s_cons ?_)
  | (with_reducible refine s_c ?_)
  | ((with_reducible refine' s_var ?h1 ?_); (case h1 => rfl))
  | (with_reducible refine s_op ?_) | (with_reducible refine s_call ?_) | (with_reducible refine s_cb ?_) | (with_reducible refine s_fld ?_) | (with_reducible refine s_tup ?_) | (with_reducible refine s_lst ?_) | (with_reducible refine s_meth ?_) | (with_reducible refine s_test ?_) | (with_reducible refine s_B ?_)
  | (with_reducible refine s_not ?_) | (with_reducible refine s_xb ?_) | (with_reducible refine s_if ?_) | (with_reducible refine s_ifS ?_) | (with_reducible refine s_next ?_) | (with_reducible refine s_sfld ?_)
  | (with_reducible refine s_I0 ?_) | ((with_reducible refine' s_I ?h1 ?_); (case h1 => first | exact ⟨by decide, by decide⟩ | exact .inr ⟨by decide, by decide⟩ | (show (0 : Int) < _; decide) | (show (0 : Int) ≤ _; first | decide | omega) | exact ⟨by omega, by omega⟩))
  | ((with_reducible refine' s_xf ?h1 ?h2 ?h3 ?h4 ?_); (case h1 => walk_at "hp"); (case h2 => exact Tx.clsK (by assumption) (by decide +kernel)); (case h3 => exact Tx.noatK (by assumption) (by decide +kernel)); (case h4 => rfl))
  | ((with_reducible refine' s_xs ?h1 ?h2 ?h3 ?h4 ?h5 ?_); (case h1 => walk_at "hp"); (case h2 => exact Tx.clsK (by assumption) (by decide +kernel)); (case h3 => exact Tx.noatK (by assumption) (by decide +kernel)); (case h4 => exact Dk.lt_ble rfl); (case h5 => rfl))
  | ((with_reducible refine' s_eq ?h1 ?_); (case h1 => rfl)) | ((with_reducible refine' s_ne ?h1 ?_); (case h1 => rfl)) | (with_reducible refine s_isN ?_)
  | ((with_reducible refine' s_xt ?h1 ?_); (case h1 => exact Nat.le_of_ble_eq_true rfl); intro _ _ _ _ _)
  | ((with_reducible refine' s_xl ?h1 ?_); (case h1 => exact Nat.le_of_ble_eq_true rfl); intro _ _ _ _ _)
  | ((with_reducible refine' s_lenL ?h1 ?_); (case h1 => walk_at "hq")) | ((with_reducible refine' s_lenT ?h1 ?_); (case h1 => walk_at "hq"))
  | ((with_reducible refine' s_ixL ?h1 ?h2 ?_); (case h1 => walk_at "hq"); (case h2 => first | assumption | exact atI_0 | exact atI_1 | rfl))
  | ((with_reducible refine' s_ixT ?h1 ?h2 ?_); (case h1 => walk_at "hq"); (case h2 => first | assumption | exact atI_0 | exact atI_1 | rfl))
  | (with_reducible refine s_or ?_) | (with_reducible refine s_and ?_)
  | ((with_reducible refine' s_nin ?h1 ?h2 ?h3 ?_); (case h1 => walk_at "hq"); (case h2 => rfl); (case h3 => rfl))
  | (with_reducible refine s_tru ?_)
  | (with_reducible refine s_ip ?_) | (with_reducible refine s_for1 ?_) | (with_reducible refine s_for2 ?_) | (with_reducible refine s_for3 ?_) | (with_reducible refine s_forL ?_) | (with_reducible refine s_forT ?_) | (with_reducible refine s_lcL ?_) | (with_reducible refine s_lcT ?_) | (with_reducible refine s_lcS ?_) | (with_reducible refine s_lcE ?_) | (with_reducible refine s_lcZ ?_) | (with_reducible refine s_lcZA ?_) | (with_reducible refine s_lcR ?_) | (with_reducible refine s_chain ?_) | (with_reducible refine s_av ?_) | (with_reducible refine s_ov ?_) | (with_reducible refine s_yes ?_) | (with_reducible refine s_tbm ?_) | (with_reducible refine s_ord ?_) | (with_reducible refine s_raise ?_) | (with_reducible refine s_fldaug ?_) | (with_reducible refine s_add ?_) | (with_reducible refine s_slc ?_) | (with_reducible refine s_part ?_) | (with_reducible refine x_p1 ?_) | (with_reducible refine s_nopart ?_)
  | ((with_reducible refine' x_bm ?h1 ?_); (case h1 => walk_at "hq")) | (with_reducible refine s_par1 ?_) | (with_reducible refine s_un ?_) | (with_reducible refine s_uI ?_))
local macro_rules | `(tactic| walk_at "ev") => `(tactic| repeat walk_at "e1")
/-! ### door_of -/
abbrev s_door_of : Stmt := top 49
theorem sc_door_of : FnScope ["a", "capacity", "secret"] ["a"] (defScope s_door_of) := ⟨rfl, rfl, rfl, by decide +kernel, rfl, by decide +kernel, by decide +kernel⟩
def sp_door_of (K : PySem.W.Frag) : Sp := fun vs H Q E => vs.length = 1 ∧ ∃ p x y z l, vs = [.ref p] ∧ Args K H p (x :: y :: z :: l) ∧
  Out K E H (R7293g.Spec.doorArgs (Rust.taken x) (Rust.taken y) (Rust.taken z)) fun g => ∀ d H', DoorAt K H' 0 d g → (∀ b, d.S b → H b = none) → Ex H H' → Q (.ref d.a) H'
def t_door_of (K : PySem.W.Frag) (E : XK) : TS :=
  (tSeq (tAsg (tCall (sp_number_for K) [] E (tCons (tOp (rIxL K) (tVar 0) (tC (.int 0))) (tCons (tC (.str "capacity")) (tCons (tC (.int 1000)) tNil)))) (gName 1))
  (tSeq (tAsg (tCall (sp_number_for K) [] E (tCons (tOp (rIxL K) (tVar 0) (tC (.int 1))) (tCons (tC (.str "secret")) (tCons (tC (.int 16777215)) tNil)))) (gName 2))
  (tRet (tMake (cA K "Door") (sp_Door___init__ K) [] E0 (tCons (tVar 1) (tCons (tVar 2) (tCons (tCall (sp_table_of K) [] E (tCons (tOp (rIxL K) (tVar 0) (tC (.int 2))) tNil)) tNil)))))))
section
variable {P : Program} {w : World} {K : PySem.W.Frag} {mg : Str → Option Value} {base : Heap}
theorem pure_door_of (T : Tx K mg) (vs : List V) (H : Hp) (Q : VK) (E : XK) (h : sp_door_of K vs H Q E) : t_door_of K E { nx := fun _ H' => Q .non H', rt := Q } (start ["a", "capacity", "secret"] vs) H := by
  obtain ⟨_, p, x, y, z, l, rfl, hA, q⟩ := h
  have q := out_bind (show Out K E H (R7293g.Spec.andThen (R7293g.Spec.capacityArg (Rust.taken x)) fun k => R7293g.Spec.andThen (R7293g.Spec.secretArg (Rust.taken y)) fun s => R7293g.Spec.andThen (R7293g.Spec.tableArg (Rust.taken z)) fun t => .ok (R7293g.Spec.startDoor k s t 1)) _ from q)
  obtain ⟨xs, a, g1, g2, g3⟩ := hA.get (i := 0) rfl
  unfold t_door_of
  walk_at "ev"
  try (refine s_ixL g1 g2 ?_; walk_at "ev")
  refine ⟨rfl, a, x, "capacity", 1000, R7293g.Spec.typeErr "capacity must be an integer from 0 to 1000", rfl, g3, ⟨by decide +kernel, by decide +kernel, by decide +kernel⟩, err_ok rfl (by decide +kernel), q.mono (Ex.refl H) fun k _ q => ?_⟩
  have q := out_bind q
  clear g1 g2 g3
  obtain ⟨xs, a, g1, g2, g3⟩ := hA.get (i := 1) rfl
  walk_at "ev"
  try (refine s_ixL g1 g2 ?_; walk_at "ev")
  refine ⟨rfl, a, y, "secret", 16777215, R7293g.Spec.typeErr "secret must be an integer from 0 to 16777215", rfl, g3, ⟨by decide +kernel, by decide +kernel, by decide +kernel⟩, err_ok rfl (by decide +kernel), q.mono (Ex.refl H) fun s _ q => ?_⟩
  have q := out_bind q
  clear g1 g2 g3
  obtain ⟨xs, a, g1, g2, g3⟩ := hA.get (i := 2) rfl
  walk_at "ev"
  refine s_make ?_
  walk_at "ev"
  try (refine s_ixL g1 g2 ?_; walk_at "ev")
  refine ⟨rfl, a, z, rfl, g3, q.mono (Ex.refl H) fun t _ q ht hb tp H1 hp x1 h1 => ?_⟩
  walk_at "ev"
  refine mk_door h1 ht fun d H2 f1 f2 f3 f4 et x2 hd => ?_
  refine q d H2 hd (fun b s => ?_) (Ex.trans x1 x2)
  rcases s with rfl | rfl | rfl | rfl | rfl
  · exact Ex.fr x1 f1
  · rw [et]; exact hp
  · exact Ex.fr x1 f2
  · exact Ex.fr x1 f3
  · exact Ex.fr x1 f4
theorem ok_door_of (T : Tx K mg) : Pk P w K mg base (L2N.CX P w) "door_of" ["a"] 4 (sp_door_of K) := by
  obtain ⟨fd, F⟩ := T.fn 25 (p := ("door_of", none)) (n := "door_of") (q := "door_of") (st := s_door_of)
  refine ⟨⟨_, fd, T.glo 25, F.kp, F.bindsN fun _ _ _ _ _ _ us hl => match us, hl with | [_], _ => rfl, F.ok sc_door_of (fun _ _ _ _ h => h.1) fun cdv A outer s H vs Q E hr h => ⟨t_door_of K E, ?_, pure_door_of T vs H Q E h⟩⟩⟩
  exact (pss_cons (ps_set (i := 1) sc_door_of.nd rfl (Or.inl rfl) (pe_pk (ok_number_for T) (hr.mono (by decide)) (L2N.passes_call (L2N.takes_of rfl rfl rfl rfl) fun _ _ _ _ h => h) (pa_cons (pe_ix ix_list (pv 0) pe_int (fun _ _ => rfl)) (pa_cons pe_str (pa_cons pe_int pa_nil)))))
    (pss_cons (ps_set (i := 2) sc_door_of.nd rfl (Or.inl rfl) (pe_pk (ok_number_for T) (hr.mono (by decide)) (L2N.passes_call (L2N.takes_of rfl rfl rfl rfl) fun _ _ _ _ h => h) (pa_cons (pe_ix ix_list (pv 0) pe_int (fun _ _ => rfl)) (pa_cons pe_str (pa_cons pe_int pa_nil)))))
    (pss_one (ps_ret (pe_cp (ok_Door___init__ T) (hr.mono (by decide)) pass0 (pa_cons (pv 1) (pa_cons (pv 2) (pa_cons (pe_pk (ok_table_of T) (hr.mono (by decide)) (L2N.passes_call (L2N.takes_of rfl rfl rfl rfl) fun _ _ _ _ h => h) (pa_cons (pe_ix ix_list (pv 0) pe_int (fun _ _ => rfl)) pa_nil)) pa_nil))))))))
end
/-! ### Desk___init__ -/
abbrev s_Desk___init__ : Stmt := inClass (top 57) 0
theorem sc_Desk___init__ : FnScope ["self"] ["self"] (defScope s_Desk___init__) := ⟨rfl, rfl, rfl, by decide +kernel, rfl, by decide +kernel, by decide +kernel⟩
theorem s_dnewK {σ : L2.St} {H : Hp} {Q : VK} (q : ∀ p H', H p = none → Ex H H' → H' p = some (.dK []) → Q (.ref p) H') : tDNewK σ H Q := fun p hp => q p _ hp (Ex.new hp) upd_same
def sp_Desk___init__ (K : PySem.W.Frag) : Sp := fun vs H Q _ => vs.length = 1 ∧ ∃ x dx, vs = [.ref x] ∧ H x = some (.ins (cA K "Desk") dx []) ∧
  ∀ H' dd df dw, (∀ b u, b ≠ x → H b = some u → H' b = some u) → H dd = none → H df = none → H dw = none → dd ≠ df → dd ≠ dw → df ≠ dw → H' dd = some (.dK []) → H' df = some (.dK []) → H' dw = some (.dK []) → H' x = some (.ins (cA K "Desk") dx (fDesk dd df dw)) → Q .non H'
def t_Desk___init__ (K : PySem.W.Frag) : TS :=
  (tSeq (sFld K (tVar 0) tDNewK "doors")
  (tSeq (sFld K (tVar 0) tDNewK "fields")
  (sFld K (tVar 0) tDNewK "walks")))
section
variable {P : Program} {w : World} {K : PySem.W.Frag} {mg : Str → Option Value} {base : Heap}
theorem pure_Desk___init__ (T : Tx K mg) (vs : List V) (H : Hp) (Q : VK) (E : XK) (h : sp_Desk___init__ K vs H Q E) : t_Desk___init__ K { nx := fun _ H' => Q .non H', rt := Q } (start ["self"] vs) H := by
  obtain ⟨_, x, dx, rfl, hx, q⟩ := h
  unfold t_Desk___init__
  walk_at "ev"
  refine s_dnewK fun p1 H1 n1 e1 g1 => ?_
  have k1 : Kx x H H1 := (Kx.refl H).ex e1
  have i1 := e1 _ _ hx
  walk_at "ev"
  refine s_dnewK fun p2 H2 n2 e2 g2 => ?_
  have i2 := e2 _ _ upd_same
  have k1' : Kx x H (upd H1 x (.ins (cA K "Desk") dx (putF "doors" (.ref p1) []))) := k1.upd i1
  have k2 := k1'.ex e2
  walk_at "ev"
  refine s_dnewK fun p3 H3 n3 e3 g3 => ?_
  have i3 := e3 _ _ upd_same
  have k2' : Kx x H (upd H2 x (.ins (cA K "Desk") dx (putF "fields" (.ref p2) (putF "doors" (.ref p1) [])))) := k2.upd i2
  have k3 := k2'.ex e3
  walk_at "ev"
  have ne : ∀ {b}, H b = none → b ≠ x := fun {b} hb z => by rw [z, hx] at hb; cases hb
  have r1 := ne n1
  have r2 := ne (k1'.n _ n2)
  have r3 := ne (k2'.n _ n3)
  have g1' : (upd H1 x (.ins (cA K "Desk") dx (putF "doors" (.ref p1) []))) p1 = some (.dK []) := by rw [upd_ne r1]; exact g1
  have d12 : p1 ≠ p2 := fun z => by
    rw [← z, g1'] at n2
    cases n2
  have g12 : (upd H2 x (.ins (cA K "Desk") dx (putF "fields" (.ref p2) (putF "doors" (.ref p1) [])))) p1 = some (.dK []) := by rw [upd_ne r1]; exact e2 _ _ g1'
  have g22 : (upd H2 x (.ins (cA K "Desk") dx (putF "fields" (.ref p2) (putF "doors" (.ref p1) [])))) p2 = some (.dK []) := by rw [upd_ne r2]; exact g2
  have d13 : p1 ≠ p3 := fun z => by
    rw [← z, g12] at n3
    cases n3
  have d23 : p2 ≠ p3 := fun z => by
    rw [← z, g22] at n3
    cases n3
  refine q _ p1 p2 p3 (k3.upd i3).k n1 (k1'.n _ n2) (k2'.n _ n3) d12 d13 d23 ?_ ?_ ?_ upd_same
  · rw [upd_ne r1]
    exact e3 _ _ g12
  · rw [upd_ne r2]
    exact e3 _ _ g22
  · rw [upd_ne r3]
    exact g3
/-- a new desk -/
theorem mk_desk {K : PySem.W.Frag} {H : Hp} {Q : Addr → Hp → Prop} {E : XK} (q : ∀ L H', Ex H H' → (∀ b, H b ≠ none → L.tag b = none) → WorldAt K H' 0 L R7293g.Spec.World.start → Q L.k H') :
    ∀ x dx, H x = none → H dx = none → dx ≠ x → sp_Desk___init__ K (.ref x :: ([] ++ [])) (upd (upd H dx (.own x)) x (.ins (cA K "Desk") dx [])) (fun v H2 => v = .non ∧ Q x H2) E := fun x dx hx hd dn =>
  ⟨rfl, x, dx, rfl, upd_same, fun H' dd df dw h1 n1 n2 n3 d12 d13 d23 g1 g2 g3 g0 => ⟨rfl, by
    classical
    have e : Ex H H' := fun b u hb => by
      have b1 : b ≠ x := fun e => by rw [e, hx] at hb; cases hb
      have b2 : b ≠ dx := fun e => by rw [e, hd] at hb; cases hb
      exact h1 b u b1 (by rw [upd_ne b1, upd_ne b2]; exact hb)
    have f : ∀ {b}, (upd (upd H dx (.own x)) x (.ins (cA K "Desk") dx [])) b = none → H b = none := fun {b} z => by
      by_cases b1 : b = x
      · rw [b1, upd_same] at z
        cases z
      by_cases b2 : b = dx
      · rw [upd_ne b1, b2, upd_same] at z
        cases z
      rw [upd_ne b1, upd_ne b2] at z
      exact z
    have gd : ∀ s : Nat, (List.replicate R7293g.Spec.places (none : Option Nat)).getD s none = none := fun s => by
      rw [List.getD_eq_getElem?_getD, List.getElem?_replicate]
      split <;> rfl
    have gt : ∀ s : Nat, (List.replicate R7293g.Spec.places (none : Option R7293g.Spec.Trace)).getD s none = none := fun s => by
      rw [List.getD_eq_getElem?_getD, List.getElem?_replicate]
      split <;> rfl
    refine q ⟨x, dx, dd, df, dw, [], [], fun b => if b = x ∨ b = dd ∨ b = df ∨ b = dw then some .desk else none⟩ H' e (fun b hb => ?_) ⟨g0, trivial, trivial, ⟨[], g1, Nat.le_refl _, fun s i hs => ?_⟩, ⟨[], g2, Nat.le_refl _, fun s i hs => ?_⟩, ⟨[], g3, Nat.le_refl _, fun s i hs => ?_⟩, rfl, rfl, rfl, if_pos (.inl rfl), if_pos (.inr (.inl rfl)), if_pos (.inr (.inr (.inl rfl))), if_pos (.inr (.inr (.inr rfl))), d12, d13, d23, (fun i d hi => by cases hi), (fun i d hi => by cases hi)⟩
    · show (if b = x ∨ b = dd ∨ b = df ∨ b = dw then some Tg.desk else none) = none
      rw [if_neg]
      rintro (rfl | rfl | rfl | rfl)
      · exact hb hx
      · exact hb (f n1)
      · exact hb (f n2)
      · exact hb (f n3)
    · have hs : (List.replicate R7293g.Spec.places (none : Option Nat)).getD s none = some i := hs
      rw [gd] at hs
      cases hs
    · have hs : (List.replicate R7293g.Spec.places (none : Option Nat)).getD s none = some i := hs
      rw [gd] at hs
      cases hs
    · have hs : (List.replicate R7293g.Spec.places (none : Option R7293g.Spec.Trace)).getD s none = some i := hs
      rw [gt] at hs
      cases hs⟩⟩
theorem ok_Desk___init__ (T : Tx K mg) : Cp P w K mg base CX0 "Desk" (cA K "Desk") ["self"] 1 (sp_Desk___init__ K) := by
  obtain ⟨fd, F⟩ := T.fn 61 (p := ("Desk", some "__init__")) (n := "__init__") (q := "Desk.__init__") (st := s_Desk___init__)
  refine ⟨⟨_, fd, T.glo 124, T.mkr 126, F.bindsN fun _ _ _ _ _ _ us hl => match us, hl with | [_], _ => rfl, F.ok sc_Desk___init__ (fun _ _ _ _ h => h.1) fun cdv A outer s H vs Q E hr h => ⟨t_Desk___init__ K, PSs.nox ?_, pure_Desk___init__ T vs H Q E h⟩⟩⟩
  exact (pss_cons (ps_fld (pv 0) pe_dnewK rfl)
    (pss_cons (ps_fld (pv 0) pe_dnewK rfl)
    (pss_one (ps_fld (pv 0) pe_dnewK rfl))))
end
/-! ### Desk_on_walk -/
abbrev s_Desk_on_walk : Stmt := inClass (top 57) 1
theorem sc_Desk_on_walk : FnScope ["self", "number", "slot", "a", "walk", "field"] ["self", "number", "slot", "a"] (defScope s_Desk_on_walk) := ⟨rfl, rfl, rfl, by decide +kernel, rfl, by decide +kernel, by decide +kernel⟩
/-- the two ends of a call on the desk -/
def AOut (K : PySem.W.Frag) (E : XK) (H : Hp) (n : Nat) (L : WL) (r : R7293g.Spec.World × R7293g.Spec.Ans) (Q : VK) : Prop := match r.2 with
  | .ret p => ∀ L' H' a, WorldAt K H' (n + 1) L' r.1 → Out1 H H' L L' → VAt K H' (Rust.given p) a → Q (.ref a) H'
  | .fail e => ∀ k m, ErrM e k m → RefE K E H k m
theorem out_ok {α : Type} {K : PySem.W.Frag} {E : XK} {H : Hp} {a : α} {ok : α → Prop} (h : ok a) : Out K E H (.ok a) ok := h
theorem x_dpK {D : Ends} {σ : L2.St} {H : Hp} {a : Addr} {v : V} {kvs : List (Key × V)} {i : Int} (h : H a = some (.dK kvs)) (hl : kvs.length ≤ 1000000) (q : D.nx σ (upd H a (.dK (putK kvs (.inl i) v)))) : XDP D σ v (.ref a) (.int i) H :=
  ⟨a, _, rfl, DPut.k (k := .inl i) h (Nat.lt_of_le_of_lt hl (by decide)), q⟩
/-- a call on a walk in the slot s -/
def walkIs (number s : Nat) (x y : RWire.Value) (c : R7293g.Spec.Call) : Prop := (number = 15 ∧ ∃ f : Nat, f < 2 ∧ x = .int (f : Int) ∧ c = .traceNew s f (Rust.taken y)) ∨ (number = 16 ∧ c = .traceNext s) ∨ (number = 17 ∧ c = .traceReturn s (Rust.taken x))
theorem at_some {α : Type} {l : List α} {s : List (Option Nat)} {k : Nat} (h : (R7293g.Spec.at_ l s k).isSome = true) : ∃ i x, s.getD k none = some i ∧ l[i]? = some x ∧ R7293g.Spec.at_ l s k = some (i, x) := by
  unfold R7293g.Spec.at_ at h ⊢
  cases h1 : s.getD k none with
  | none => rw [h1] at h; cases h
  | some i =>
    rw [h1] at h
    cases h2 : l[i]? with
    | none =>
      have h : ((l[i]?).map fun x => (i, x)).isSome = true := h
      rw [h2] at h
      cases h
    | some x =>
      refine ⟨i, x, rfl, h2, ?_⟩
      show ((l[i]?).map fun x => (i, x)) = _
      rw [h2]
      rfl
theorem set_same {α : Type} {l : List (Option α)} {s : Nat} {v : α} (h : l.getD s none = some v) : l.set s (some v) = l := by
  refine List.ext_getElem? fun i => ?_
  by_cases c : s = i
  · subst c
    have hl : s < l.length := by
      by_cases z : s < l.length
      · exact z
      · rw [List.getD_eq_getElem?_getD, List.getElem?_eq_none (by omega)] at h
        cases h
    rw [List.getElem?_set_self hl]
    rw [List.getD_eq_getElem?_getD, List.getElem?_eq_getElem hl] at h
    rw [List.getElem?_eq_getElem hl]
    exact congrArg some h.symm
  · rw [List.getElem?_set_ne c]
def sp_Desk_on_walk (K : PySem.W.Frag) : Sp := fun vs H Q E => vs.length = 4 ∧ ∃ n L w number s p x y l c, vs = [.ref L.k, natV number, natV s, .ref p] ∧ WorldAt K H n L w ∧ n < 1000 ∧ s < 2 ∧ Args K H p (x :: y :: l) ∧ walkIs number s x y c ∧ R7293g.Spec.within w c = true ∧ AOut K E H n L (R7293g.Spec.step w c) Q
def t_Desk_on_walk (K : PySem.W.Frag) (E : XK) : TS :=
  (tSeq (tIfS (tTest (tOp rEq (tVar 1) (tC (.int 15)))) (tSeq (tAsg (tDGet (tFld K (tVar 0) "fields") (tOp (rIxT K) (tOp (rIxL K) (tVar 3) (tC (.int 0))) (tC (.int 1)))) (gName 5))
  (tSeq (sDPut (tFld K (tVar 0) "walks") (tVar 2) (tMake (cA K "Walk") (sp_Walk___init__ K) [] E0 (tCons (tVar 5) (tCons (tCall (sp_number_for K) [] E (tCons (tOp (rIxL K) (tVar 3) (tC (.int 1))) (tCons (tC (.str "since")) (tCons (tC (.int 9007199254740991)) tNil)))) tNil))))
  (tRet (tC (.ref (cA K "NOTHING")))))) tNext)
  (tSeq (tAsg (tDGet (tFld K (tVar 0) "walks") (tVar 2)) (gName 4))
  (tSeq (tIfS (tTest (tOp rEq (tVar 1) (tC (.int 16)))) (tRet (tCall (sp_next_of K) [] E0 (tCons (tVar 4) tNil))) tNext)
  (tSeq (sFld K (tVar 4) (tC (.bl true)) "has_ended")
  (tRet (tCall (sp_record K) [] E0 (tCons (tLst (tCons (tTup (tCons (tC (.str "value")) (tCons (tOp (rIxL K) (tVar 3) (tC (.int 0))) tNil))) (tCons (tTup (tCons (tC (.str "done")) (tCons (tCall (sp_boolean K) [] E0 (tCons (tC (.bl true)) tNil)) tNil))) tNil))) tNil)))))))
section
variable {P : Program} {w : World} {K : PySem.W.Frag} {mg : Str → Option Value} {base : Heap}
theorem pure_Desk_on_walk (T : Tx K mg) (vs : List V) (H : Hp) (Q : VK) (E : XK) (h : sp_Desk_on_walk K vs H Q E) : t_Desk_on_walk K E { nx := fun _ H' => Q .non H', rt := Q } (start ["self", "number", "slot", "a", "walk", "field"] vs) H := by
  obtain ⟨_, n, L, w, number, s, p, x, y, l, c, rfl, hw, hn, hs, hA, hc, hin, q⟩ := h
  have ho := hw.obj
  unfold t_Desk_on_walk
  walk_at "ev"
  refine ite_num (k := 15) (fun e => ?_) (fun e15 => ?_)
  · subst e
    obtain ⟨f, hf, rfl, rfl⟩ : ∃ f : Nat, f < 2 ∧ x = .int (f : Int) ∧ c = .traceNew s f (Rust.taken y) := by
      rcases hc with ⟨_, h⟩ | ⟨z, _⟩ | ⟨z, _⟩
      · exact h
      · cases z
      · cases z
    have hin : (R7293g.Spec.isPlace s && R7293g.Spec.hasField w f && R7293g.Spec.fits [Rust.taken y]) = true := hin
    rw [Bool.and_eq_true, Bool.and_eq_true] at hin
    have h2 := hin.1.2
    unfold R7293g.Spec.hasField at h2
    rw [Bool.and_eq_true] at h2
    obtain ⟨fi, F, hfi, hF, hat⟩ := at_some h2.2
    obtain ⟨kf, f1, f2, f3⟩ := hw.fs
    obtain ⟨fl, hfl, hvf⟩ := f3 f fi hfi
    obtain ⟨kw, w1, w2, w3⟩ := hw.ws
    have hstep : R7293g.Spec.step w (.traceNew s f (Rust.taken y)) = match R7293g.Spec.sinceArg (Rust.taken y) with
      | .ok n => ({ w with traces := w.traces.set s (some ⟨fi, n, false⟩) }, .ret .undef)
      | .error e => (w, .fail e) := by
      show R7293g.Spec.newTrace w s f (Rust.taken y) = _
      unfold R7293g.Spec.newTrace R7293g.Spec.fieldAt
      rw [hat]
      rfl
    rw [hstep] at q
    obtain ⟨ys, a, g1, g2, g3⟩ := hA.get (i := 0) rfl
    have g3 : SqT K H a [.str "integer", .int f] := by unfold VAt at g3; exact g3
    walk_at "ev"
    with_reducible refine s_dget ?_
    walk_at "ev"
    try (refine s_ixL g1 g2 ?_; walk_at "ev")
    try (refine s_ixT g3 rfl ?_; walk_at "ev")
    refine x_dg f1 hvf ?_
    walk_at "ev"
    with_reducible refine s_dput ?_
    refine s_make ?_
    clear g1 g2 g3
    obtain ⟨zs, b, g1, g2, g3⟩ := hA.get (i := 1) rfl
    walk_at "ev"
    try (refine s_ixL g1 g2 ?_; walk_at "ev")
    refine ⟨rfl, b, y, "since", 9007199254740991, R7293g.Spec.typeErr "since must be an integer from 0 to 9007199254740991", rfl, g3, ⟨by decide +kernel, by decide +kernel, by decide +kernel⟩, err_ok rfl (by decide +kernel), ?_⟩
    show Out K E H (R7293g.Spec.sinceArg (Rust.taken y)) _
    cases hsa : R7293g.Spec.sinceArg (Rust.taken y) with
    | error e =>
      rw [hsa] at q
      exact q
    | ok m =>
      rw [hsa] at q
      have q : ∀ L' H' a, WorldAt K H' (n + 1) L' { w with traces := w.traces.set s (some ⟨fi, m, false⟩) } → Out1 H H' L L' → VAt K H' .nothing a → Q (.ref a) H' := q
      refine out_ok ?_
      walk_at "ev"
      refine mk_walk fun wa dx H1 hwa x1 h1 => ?_
      have ho1 := x1 _ _ ho
      walk_at "ev"
      have w1' := x1 _ _ w1
      refine x_dpK w1' (by omega) ?_
      walk_at "ev"
      obtain ⟨L', hW, hO⟩ := hw.new_walk x1 hs hfl h1 hwa w1'
      exact q L' _ _ hW hO (by unfold VAt; exact He.tupB_ok (T.ex 0) _)
  have hin2 : R7293g.Spec.hasTrace w s = true ∧ (c = .traceNext s ∧ number = 16 ∨ c = .traceReturn s (Rust.taken x) ∧ number ≠ 16) := by
    rcases hc with ⟨z, _⟩ | ⟨z, rfl⟩ | ⟨z, rfl⟩
    · exact absurd z e15
    · exact ⟨hin, .inl ⟨rfl, z⟩⟩
    · have hin : (R7293g.Spec.hasTrace w s && R7293g.Spec.fits [Rust.taken x]) = true := hin
      rw [Bool.and_eq_true] at hin
      exact ⟨hin.1, .inr ⟨rfl, by omega⟩⟩
  obtain ⟨hin2, hc⟩ := hin2
  unfold R7293g.Spec.hasTrace at hin2
  rw [Bool.and_eq_true] at hin2
  obtain ⟨tr, htr⟩ := Option.isSome_iff_exists.mp hin2.2
  have htr' : w.traces.getD s none = some tr := htr
  obtain ⟨kw, w1, w2, w3⟩ := hw.ws
  obtain ⟨fl, wa, dx, hfl, hvw, hwo, htag⟩ := w3 s tr htr'
  obtain ⟨F, hF, hFA⟩ := hw.fields.get' hfl
  walk_at "ev"
  with_reducible refine s_dget ?_
  walk_at "ev"
  refine x_dg w1 hvw ?_
  walk_at "ev"
  refine ite_num (k := 16) (fun e => ?_) (fun e16 => ?_)
  · subst e
    obtain rfl : c = .traceNext s := by
      rcases hc with ⟨z, _⟩ | ⟨_, z⟩
      · exact z
      · exact absurd rfl z
    have hstep : R7293g.Spec.step w (.traceNext s) = ({ w with traces := w.traces.set s (some { tr with next := (nextOf F tr.next tr.ended).1.1, ended := (nextOf F tr.next tr.ended).1.2 }) }, .ret (nextPlain F tr.next tr.ended)) := by
      show R7293g.Spec.nextOfTrace w s = _
      unfold R7293g.Spec.nextOfTrace
      rw [htr]
      obtain ⟨fi, m, b⟩ := tr
      have hF : w.yard[fi]? = some F := hF
      unfold nextPlain nextOf
      cases b with
      | true =>
        dsimp only
        rw [if_pos (.inl rfl)]
        dsimp only
        rw [set_same htr']
      | false =>
        dsimp only
        rw [hF]
        dsimp only
        by_cases hlt : F.letters.length ≤ m
        · rw [if_pos (.inr hlt), List.getElem?_eq_none hlt]
        · rw [if_neg (fun z => z.elim (fun z => nomatch z) hlt)]
          dsimp only
          rw [List.getElem?_eq_getElem (by omega)]
    rw [hstep] at q
    have q : ∀ L' H' a, WorldAt K H' (n + 1) L' { w with traces := w.traces.set s (some { tr with next := (nextOf F tr.next tr.ended).1.1, ended := (nextOf F tr.next tr.ended).1.2 }) } → Out1 H H' L L' → VAt K H' (Rust.given (nextPlain F tr.next tr.ended)) a → Q (.ref a) H' := q
    walk_at "ev"
    refine ⟨rfl, n, fl, F, wa, dx, tr.next, tr.ended, rfl, hwo, hFA, fun a H1 h1 k1 v1 => ?_⟩
    obtain ⟨hW, hO⟩ := hw.walk_step hs hfl htr' w1 hvw hwo h1 k1
    exact q L H1 a hW hO v1
  · obtain rfl : c = .traceReturn s (Rust.taken x) := by
      rcases hc with ⟨_, z⟩ | ⟨z, _⟩
      · exact absurd z e16
      · exact z
    have hstep : R7293g.Spec.step w (.traceReturn s (Rust.taken x)) = ({ w with traces := w.traces.set s (some { tr with next := tr.next, ended := true }) }, .ret (R7293g.Spec.iteration (Rust.taken x) true)) := by
      show (match R7293g.Spec.traceAt w s with
        | some st => ({ w with traces := w.traces.set s (some { st with ended := true }) }, R7293g.Spec.Ans.ret (R7293g.Spec.iteration (Rust.taken x) true))
        | none => (w, .ret .undef)) = _
      rw [htr]
    rw [hstep] at q
    have q : ∀ L' H' a, WorldAt K H' (n + 1) L' { w with traces := w.traces.set s (some { tr with next := tr.next, ended := true }) } → Out1 H H' L L' → VAt K H' (Rust.given (R7293g.Spec.iteration (Rust.taken x) true)) a → Q (.ref a) H' := q
    have F1 : Fr H (upd H wa (.ins (cA K "Walk") dx (fWalk fl.f tr.next true))) (fun b => b = wa) := Fr.one hwo rfl
    obtain ⟨ys, a, g1, g2, g3⟩ := hA.get (i := 0) rfl
    have g3' := VAt.mono F1.tx _ _ g3
    have lq : ∃ zs, SqL K (upd H wa (.ins (cA K "Walk") dx (fWalk fl.f tr.next true))) p zs ∧ atI zs ((0 : Nat) : Int) = some (.ref a) := by
      refine ⟨ys, ?_, g2⟩
      rcases g1 with (g1 | ⟨z, g1⟩) | g1
      · exact .inl (.inl (F1.fr _ _ g1 (ne_of g1 hwo (fun z => nomatch z))))
      · exact .inl (.inr ⟨z, F1.fr _ _ g1 (ne_of g1 hwo (fun z => nomatch z))⟩)
      · exact .inr g1
    obtain ⟨zs, g1', g2'⟩ := lq
    clear g1 g2
    walk_at "ev"
    try (refine s_ixL g1' g2' ?_; walk_at "ev")
    rename_i t1 H2 _ x2 h2
    refine ⟨rfl, _, rfl, fun r1 H3 _ x3 v3 => ?_⟩
    walk_at "ev"
    rename_i t2 H4 _ x4 h4 LL H5 _ x5 h5
    have y3 := Ex.trans x3 (Ex.trans x4 x5)
    refine ⟨rfl, LL, [("value", x), ("done", .bool true)], _, rfl, sq_of h5, ⟨⟨t1, a, rfl, st_of (y3 _ _ h2), g3'.ex (Ex.trans x2 y3), (of_decide_eq_true (by kernel_rfl))⟩, ⟨t2, r1, rfl, st_of (x5 _ _ h4), v3.ex (Ex.trans x4 x5), (of_decide_eq_true (by kernel_rfl))⟩, trivial⟩, (by kernel_rfl), (by show (2 : Nat) ≤ 1000; decide), fun r H6 _ x6 v6 => ?_⟩
    have y6 := Ex.trans x2 (Ex.trans y3 x6)
    obtain ⟨hW, hO⟩ := hw.walk_step hs hfl htr' w1 hvw hwo (H' := H6) (m := tr.next) (b0 := true) (y6 _ _ upd_same) (fun c u hc hu => y6 _ _ (by rw [upd_ne hc]; exact hu))
    refine q L H6 r hW hO ?_
    rw [giv_iter, giv_tak x a g3]
    exact v6
theorem ok_Desk_on_walk (T : Tx K mg) : Mp P w K mg base (L2N.CX P w) (cA K "Desk") "on_walk" ["self", "number", "slot", "a"] 5 (sp_Desk_on_walk K) := by
  obtain ⟨fd, F⟩ := T.fn 62 (p := ("Desk", some "on_walk")) (n := "on_walk") (q := "Desk.on_walk") (st := s_Desk_on_walk)
  refine ⟨⟨_, fd, T.meth 130, F.bindsN fun _ _ _ _ _ _ us hl => match us, hl with | [_, _, _, _], _ => rfl, F.ok sc_Desk_on_walk (fun _ _ _ _ h => h.1) fun cdv A outer s H vs Q E hr h => ⟨t_Desk_on_walk K E, ?_, pure_Desk_on_walk T vs H Q E h⟩⟩⟩
  exact (pss_cons (ps_if (pt_cmpR op_eq (pv 1) pe_int (nomark _)) (pss_cons (ps_set (i := 5) sc_Desk_on_walk.nd rfl (Or.inl rfl) (pe_dget (hu_of hr) (pe_fld (pv 0) rfl) (pe_ix ix_tup (pe_ix ix_list (pv 3) pe_int (fun _ _ => rfl)) pe_int (fun _ _ => rfl)) (fun _ _ => rfl)))
    (pss_cons (ps_dput (hu_of hr) (pe_fld (pv 0) rfl) (pv 2) (pe_cp (ok_Walk___init__ T) (hr.mono (by decide)) pass0 (pa_cons (pv 5) (pa_cons (pe_pk (ok_number_for T) (hr.mono (by decide)) (L2N.passes_call (L2N.takes_of rfl rfl rfl rfl) fun _ _ _ _ h => h) (pa_cons (pe_ix ix_list (pv 3) pe_int (fun _ _ => rfl)) (pa_cons pe_str (pa_cons (pe_gi (T.int 59)) pa_nil)))) pa_nil))) rfl)
    (pss_one (ps_ret (pe_glob rfl (T.glo 35) rfl))))) pss_nil)
    (pss_cons (ps_set (i := 4) sc_Desk_on_walk.nd rfl (Or.inl rfl) (pe_dget (hu_of hr) (pe_fld (pv 0) rfl) (pv 2) (fun _ _ => rfl)))
    (pss_cons (ps_if (pt_cmpR op_eq (pv 1) pe_int (nomark _)) (pss_one (ps_ret (pe_pk (ok_next_of T) (hr.mono (by decide)) pass0 (pa_cons (pv 4) pa_nil)))) pss_nil)
    (pss_cons (ps_fld (pv 4) pe_bl rfl)
    (pss_one (ps_ret (pe_pk (ok_record T) (hr.mono (by decide)) pass0 (pa_cons (pe_lst (pa_cons (pe_tup (pa_cons pe_str (pa_cons (pe_ix ix_list (pv 3) pe_int (fun _ _ => rfl)) pa_nil))) (pa_cons (pe_tup (pa_cons pe_str (pa_cons (pe_pk (ok_boolean T) (hr.mono (by decide)) pass0 (pa_cons pe_bl pa_nil)) pa_nil))) pa_nil))) pa_nil))))))))
end
end Dk
namespace Dk
open PySem PySem.Spec PyProof.Rows L2 Evl RZ
local macro_rules | `(tactic| walk_at "hp") => `(tactic| first | assumption | exact L2.upd_same | (apply Dk.Ex.at (by assumption); walk_at "hp"))
local macro_rules | `(tactic| walk_at "hq") => `(tactic| first | assumption | (apply Evl.sq_of; walk_at "hp") | (apply Evl.st_of; walk_at "hp") | (apply Evl.ex_l (by assumption); walk_at "hq") | (apply Evl.ex_t (by assumption); walk_at "hq"))
local macro_rules | `(tactic| walk_at "ex") => `(tactic| first | exact Evl.Ex.refl _ | assumption | (refine Evl.Ex.trans ?_ (by assumption); walk_at "ex"))
local macro_rules | `(tactic| walk_at "e1") => `(tactic| first
  | (with_reducible refine if_t ?_) | (with_reducible refine if_f ?_) | (with_reducible refine s_seq ?_) | (with_reducible refine s_asg ?_) | (with_reducible refine s_name ?_) | (with_reducible refine s_drop ?_) | (with_reducible refine s_ret ?_) | (with_reducible refine s_nil ?_) | (with_reducible refine s_cons ?_)
  | (with_reducible refine s_c ?_)
  | ((with_reducible refine' s_var ?h1 ?_); (case h1 => rfl))
  | (with_reducible refine s_op ?_) | (with_reducible refine s_call ?_) | (with_reducible refine s_cb ?_) | (with_reducible refine s_fld ?_) | (with_reducible refine s_tup ?_) | (with_reducible refine s_lst ?_) | (with_reducible refine s_meth ?_) | (with_reducible refine s_test ?_) | (with_reducible refine s_B ?_)
  | (with_reducible refine s_not ?_) | (with_reducible refine s_xb ?_) | (with_reducible refine s_if ?_) | (with_reducible refine s_ifS ?_) | (with_reducible refine s_next ?_) | (with_reducible refine s_sfld ?_)
  | (with_reducible refine s_I0 ?_) | ((with_reducible refine' s_I ?h1 ?_); (case h1 => first | exact ⟨by decide, by decide⟩ | exact .inr ⟨by decide, by decide⟩ | (show (0 : Int) < _; decide) | (show (0 : Int) ≤ _; first | decide | omega) | exact ⟨by omega, by omega⟩))
  | ((with_reducible refine' s_xf ?h1 ?h2 ?h3 ?h4 ?_); (case h1 => walk_at "hp"); (case h2 => exact Tx.clsK (by assumption) (by decide +kernel)); (case h3 => exact Tx.noatK (by assumption) (by decide +kernel)); (case h4 => rfl))
  | ((with_reducible refine' s_xs ?h1 ?h2 ?h3 ?h4 ?h5 ?_); (case h1 => walk_at "hp"); (case h2 => exact Tx.clsK (by assumption) (by decide +kernel)); (case h3 => exact Tx.noatK (by assumption) (by decide +kernel)); (case h4 => exact Dk.lt_ble rfl); (case h5 => rfl))
  | ((with_reducible refine' s_eq ?h1 ?_); (case h1 => rfl)) | ((with_reducible refine' s_ne ?h1 ?_); (case h1 => rfl)) | (with_reducible refine s_isN ?_)
  | ((with_reducible refine' s_xt ?h1 ?_); (case h1 => exact Nat.le_of_ble_eq_true rfl); intro _ _ _ _ _)
  | ((with_reducible refine' s_xl ?h1 ?_); (case h1 => exact Nat.le_of_ble_eq_true rfl); intro _ _ _ _ _)
  | ((with_reducible refine' s_lenL ?h1 ?_); (case h1 => walk_at "hq")) | ((with_reducible refine' s_lenT ?h1 ?_); (case h1 => walk_at "hq"))
  | ((with_reducible refine' s_ixL ?h1 ?h2 ?_); (case h1 => walk_at "hq"); (case h2 => first | assumption | exact atI_0 | exact atI_1 | rfl))
  | ((with_reducible refine' s_ixT ?h1 ?h2 ?_); (case h1 => walk_at "hq"); (case h2 => first | assumption | exact atI_0 | exact atI_1 | rfl))
  | (with_reducible refine s_or ?_) | (with_reducible refine s_and ?_)
  | ((with_reducible refine' s_nin ?h1 ?h2 ?h3 ?_); (case h1 => walk_at "hq"); (case h2 => rfl); (case h3 => rfl))
  | (with_reducible refine s_tru ?_)
  | (with_reducible refine s_ip ?_) | (with_reducible refine s_for1 ?_) | (with_reducible refine s_for2 ?_) | (with_reducible refine s_for3 ?_) | (with_reducible refine s_forL ?_) | (with_reducible refine s_forT ?_) | (with_reducible refine s_lcL ?_) | (with_reducible refine s_lcT ?_) | (with_reducible refine s_lcS ?_) | (with_reducible refine s_lcE ?_) | (with_reducible refine s_lcZ ?_) | (with_reducible refine s_lcZA ?_) | (with_reducible refine s_lcR ?_) | (with_reducible refine s_chain ?_) | (with_reducible refine s_av ?_) | (with_reducible refine s_ov ?_) | (with_reducible refine s_yes ?_) | (with_reducible refine s_tbm ?_) | (with_reducible refine s_ord ?_) | (with_reducible refine s_raise ?_) | (with_reducible refine s_fldaug ?_) | (with_reducible refine s_add ?_) | (with_reducible refine s_slc ?_) | (with_reducible refine s_part ?_) | (with_reducible refine x_p1 ?_) | (with_reducible refine s_nopart ?_)
  | ((with_reducible refine' x_bm ?h1 ?_); (case h1 => walk_at "hq")) | (with_reducible refine s_par1 ?_) | (with_reducible refine s_un ?_) | (with_reducible refine s_uI ?_))
local macro_rules | `(tactic| walk_at "ev") => `(tactic| repeat walk_at "e1")
/-! ### Desk_give_answer -/
abbrev s_Desk_give_answer : Stmt := inClass (top 57) 2
theorem sc_Desk_give_answer : FnScope ["self", "number", "values", "slot", "a"] ["self", "number", "values"] (defScope s_Desk_give_answer) := ⟨rfl, rfl, rfl, by decide +kernel, rfl, by decide +kernel, by decide +kernel⟩
section
open R7293g.Spec
variable {K : PySem.W.Frag} {E : XK} {H H1 : Hp} {n : Nat} {L : WL} {w : R7293g.Spec.World} {Q : VK}
theorem AOut.ex {r : R7293g.Spec.World × Ans} (q : AOut K E H n L r Q) (x : Ex H H1) : AOut K E H1 n L r Q := by
  obtain ⟨w', a⟩ := r
  cases a with
  | ret p => exact fun L' H' a h1 h2 h3 => q L' H' a h1 (h2.pre x) h3
  | fail e => exact fun k m hm => (q k m hm).mono x
theorem aout_res {r : Res Plain} (q : AOut K E H n L (w, outcome id r) Q) (hw : WorldAt K H n L w) : Out K E H r fun p => ∀ a H', Ex H H' → VAt K H' (Rust.given p) a → Q (.ref a) H' := by
  cases r with
  | ok p => exact fun a H' x v => q L H' a (hw.ex x).up (Out1.of x) v
  | error e => exact q
/-- what a call on the door i gives -/
def dRes (w : R7293g.Spec.World) (i : Nat) (r : Res (Gate × Plain)) : R7293g.Spec.World × Ans := match r with
  | .ok y => ({ w with heap := w.heap.set i y.1 }, .ret y.2)
  | .error e => (w, .fail e)
def fRes (w : R7293g.Spec.World) (i : Nat) (r : Res (Field × Plain)) : R7293g.Spec.World × Ans := match r with
  | .ok y => ({ w with yard := w.yard.set i y.1 }, .ret y.2)
  | .error e => (w, .fail e)
theorem set_at {α : Type} {l : List α} {i : Nat} {a : α} (h : l[i]? = some a) : l.set i a = l := by
  refine List.ext_getElem? fun j => ?_
  by_cases c : i = j
  · subst c
    rw [List.getElem?_set_self (List.getElem?_eq_some_iff.mp h).1, h]
  · rw [List.getElem?_set_ne c]
theorem door_here {i : Nat} {d : DL} {g : Gate} (hw : WorldAt K H n L w) (hd : L.dl[i]? = some d) (hg : w.heap[i]? = some g) : DoorAt K H n d g := by
  obtain ⟨g', h1, h2⟩ := hw.doors.get' hd
  rw [hg] at h1
  cases h1
  exact h2
theorem field_here {i : Nat} {f : FL} {F : Field} (hw : WorldAt K H n L w) (hd : L.fl[i]? = some f) (hg : w.yard[i]? = some F) : FieldAt K H n f F := by
  obtain ⟨g', h1, h2⟩ := hw.fields.get' hd
  rw [hg] at h1
  cases h1
  exact h2
theorem aout_door {i : Nat} {d : DL} {g : Gate} {r : Res (Gate × Plain)} (q : AOut K E H n L (dRes w i r) Q) (hw : WorldAt K H n L w) (hd : L.dl[i]? = some d) (hg : w.heap[i]? = some g) :
    Out K E H r fun r => ∀ d' H' a, DoorAt K H' (n + 1) d' r.1 → DFr H H' d d' → VAt K H' (Rust.given r.2) a → Q (.ref a) H' := by
  cases r with
  | ok y =>
    intro d' H' a h1 h2 h3
    obtain ⟨L', hW, hO⟩ := hw.door_step hd hg (door_here hw hd hg) h1 h2
    exact q L' H' a hW hO h3
  | error e => exact q
theorem aout_field {i : Nat} {f : FL} {F : Field} {r : Res (Field × Plain)} (q : AOut K E H n L (fRes w i r) Q) (hw : WorldAt K H n L w) (hd : L.fl[i]? = some f) (hg : w.yard[i]? = some F) :
    Out K E H r fun r => ∀ f' H' a, FieldAt K H' (n + 1) f' r.1 → FFr H H' f f' → VAt K H' (Rust.given r.2) a → Q (.ref a) H' := by
  cases r with
  | ok y =>
    intro d' H' a h1 h2 h3
    obtain ⟨L', hW, hO⟩ := hw.field_step hd hg (field_here hw hd hg) h1 h2
    exact q L' H' a hW hO h3
  | error e => exact q
theorem chg_door {s i : Nat} {g : Gate} {f : Gate → Res (Gate × Plain)} (h : at_ w.heap w.doors s = some (i, g)) : changeDoor w s f = dRes w i (f g) := by
  unfold changeDoor doorAt dRes
  rw [h]
  dsimp only
  cases f g <;> rfl
theorem chg_field {s i : Nat} {g : Field} {f : Field → Res (Field × Plain)} (h : at_ w.yard w.fields s = some (i, g)) : changeField w s f = fRes w i (f g) := by
  unfold changeField fieldAt fRes
  rw [h]
  dsimp only
  cases f g <;> rfl
theorem chg_read {s i : Nat} {g : Gate} {x : Plain} (h : at_ w.heap w.doors s = some (i, g)) (hg : w.heap[i]? = some g) : step w (.doorRead s x) = dRes w i (andThen (doorReadFn g x) fun p => .ok (g, p)) := by
  show (match doorAt w s with
    | some s => (w, outcome id (doorReadFn s.2 x))
    | none => (w, R7293g.Spec.Ans.ret .undef)) = _
  unfold doorAt dRes
  rw [h]
  dsimp only
  cases doorReadFn g x with
  | ok p =>
    show (w, Ans.ret p) = ({ w with heap := w.heap.set i g }, Ans.ret p)
    rw [set_at hg]
  | error e => rfl
theorem chg_state {s i : Nat} {g : Gate} (h : at_ w.heap w.doors s = some (i, g)) (hg : w.heap[i]? = some g) : step w (.doorState s) = dRes w i (.ok (g, statePlain g)) := by
  show (match doorAt w s with
    | some s => (w, R7293g.Spec.Ans.ret (statePlain s.2))
    | none => (w, R7293g.Spec.Ans.ret .undef)) = _
  unfold doorAt dRes
  rw [h]
  show (w, Ans.ret (statePlain g)) = ({ w with heap := w.heap.set i g }, Ans.ret (statePlain g))
  rw [set_at hg]
theorem chg_fstate {s i : Nat} {g : Field} (h : at_ w.yard w.fields s = some (i, g)) (hg : w.yard[i]? = some g) : step w (.fieldState s) = fRes w i (.ok (g, statePlain g.door)) := by
  show (match fieldAt w s with
    | some s => (w, R7293g.Spec.Ans.ret (statePlain s.2.door))
    | none => (w, R7293g.Spec.Ans.ret .undef)) = _
  unfold fieldAt fRes
  rw [h]
  show (w, Ans.ret (statePlain g.door)) = ({ w with yard := w.yard.set i g }, Ans.ret (statePlain g.door))
  rw [set_at hg]
theorem has_door {s : Nat} (h : hasDoor w s = true) : ∃ i x, w.doors.getD s none = some i ∧ w.heap[i]? = some x ∧ at_ w.heap w.doors s = some (i, x) := by
  unfold hasDoor at h
  rw [Bool.and_eq_true] at h
  exact at_some h.2
theorem has_field {s : Nat} (h : hasField w s = true) : ∃ i x, w.fields.getD s none = some i ∧ w.yard[i]? = some x ∧ at_ w.yard w.fields s = some (i, x) := by
  unfold hasField at h
  rw [Bool.and_eq_true] at h
  exact at_some h.2
end
/-- the call on a door -/
theorem door_call {w : R7293g.Spec.World} {number s : Nat} {v1 v2 v3 : RWire.Value} {c : R7293g.Spec.Call} (hin : R7293g.Spec.within w c = true)
    (h : (number = 3 ∧ c = .doorKnock s (Rust.taken v1) (Rust.taken v2) (Rust.taken v3)) ∨ (number = 4 ∧ c = .doorBack s (Rust.taken v1) (Rust.taken v2) (Rust.taken v3)) ∨ (number = 5 ∧ c = .doorClose s (Rust.taken v1)) ∨ (number = 6 ∧ c = .doorNext s) ∨ (number = 7 ∧ c = .doorRead s (Rust.taken v1)) ∨ (number = 8 ∧ c = .doorState s)) :
    ∃ i g, w.doors.getD s none = some i ∧ w.heap[i]? = some g ∧ R7293g.Spec.step w c = dRes w i (doorFn number g v1 v2 v3) := by
  rcases h with ⟨rfl, rfl⟩ | ⟨rfl, rfl⟩ | ⟨rfl, rfl⟩ | ⟨rfl, rfl⟩ | ⟨rfl, rfl⟩ | ⟨rfl, rfl⟩
  · obtain ⟨i, g, h1, h2, h3⟩ := has_door (Bool.and_eq_true _ _ ▸ hin : _ ∧ _).1
    exact ⟨i, g, h1, h2, chg_door (f := fun st => R7293g.Spec.doorKnockFn st (Rust.taken v1) (Rust.taken v2) (Rust.taken v3)) h3⟩
  · obtain ⟨i, g, h1, h2, h3⟩ := has_door (Bool.and_eq_true _ _ ▸ hin : _ ∧ _).1
    exact ⟨i, g, h1, h2, chg_door (f := fun st => R7293g.Spec.doorBackFn st (Rust.taken v1) (Rust.taken v2) (Rust.taken v3)) h3⟩
  · obtain ⟨i, g, h1, h2, h3⟩ := has_door (Bool.and_eq_true _ _ ▸ hin : _ ∧ _).1
    exact ⟨i, g, h1, h2, chg_door (f := fun st => R7293g.Spec.doorCloseFn st (Rust.taken v1)) h3⟩
  · obtain ⟨i, g, h1, h2, h3⟩ := has_door hin
    exact ⟨i, g, h1, h2, chg_door (f := fun st => R7293g.Spec.doorNextFn st) h3⟩
  · obtain ⟨i, g, h1, h2, h3⟩ := has_door (Bool.and_eq_true _ _ ▸ hin : _ ∧ _).1
    exact ⟨i, g, h1, h2, chg_read h3 h2⟩
  · obtain ⟨i, g, h1, h2, h3⟩ := has_door hin
    exact ⟨i, g, h1, h2, chg_state h3 h2⟩
theorem field_call {w : R7293g.Spec.World} {number s : Nat} {v1 v2 v3 : RWire.Value} {c : R7293g.Spec.Call} (hin : R7293g.Spec.within w c = true)
    (h : (number = 10 ∧ c = .fieldKnock s (Rust.taken v1) (Rust.taken v2) (Rust.taken v3)) ∨ (number = 11 ∧ c = .fieldBack s (Rust.taken v1)) ∨ (number = 12 ∧ c = .fieldClose s (Rust.taken v1)) ∨ (number = 13 ∧ c = .fieldNext s) ∨ (number = 14 ∧ c = .fieldState s)) :
    ∃ i g, w.fields.getD s none = some i ∧ w.yard[i]? = some g ∧ R7293g.Spec.step w c = fRes w i (fieldFn number g v1 v2 v3) := by
  rcases h with ⟨rfl, rfl⟩ | ⟨rfl, rfl⟩ | ⟨rfl, rfl⟩ | ⟨rfl, rfl⟩ | ⟨rfl, rfl⟩
  · obtain ⟨i, g, h1, h2, h3⟩ := has_field (Bool.and_eq_true _ _ ▸ hin : _ ∧ _).1
    exact ⟨i, g, h1, h2, chg_field (f := fun st => R7293g.Spec.fieldKnockFn st (Rust.taken v1) (Rust.taken v2) (Rust.taken v3)) h3⟩
  · obtain ⟨i, g, h1, h2, h3⟩ := has_field (Bool.and_eq_true _ _ ▸ hin : _ ∧ _).1
    exact ⟨i, g, h1, h2, chg_field (f := fun st => R7293g.Spec.fieldBackFn st (Rust.taken v1)) h3⟩
  · obtain ⟨i, g, h1, h2, h3⟩ := has_field (Bool.and_eq_true _ _ ▸ hin : _ ∧ _).1
    exact ⟨i, g, h1, h2, chg_field (f := fun st => R7293g.Spec.fieldCloseFn st (Rust.taken v1)) h3⟩
  · obtain ⟨i, g, h1, h2, h3⟩ := has_field hin
    exact ⟨i, g, h1, h2, chg_field (f := fun st => R7293g.Spec.fieldNextFn st) h3⟩
  · obtain ⟨i, g, h1, h2, h3⟩ := has_field hin
    exact ⟨i, g, h1, h2, chg_fstate h3 h2⟩
def sp_Desk_give_answer (K : PySem.W.Frag) : Sp := fun vs H Q E => vs.length = 3 ∧ ∃ n L w number p v0 v1 v2 v3 c, vs = [.ref L.k, natV number, .ref p] ∧ WorldAt K H n L w ∧ n < 1000 ∧ Args K H p [v0, v1, v2, v3] ∧ callAs number v0 v1 v2 v3 c ∧ R7293g.Spec.within w c = true ∧ AOut K E H n L (R7293g.Spec.step w c) Q
def t_Desk_give_answer (K : PySem.W.Frag) (E : XK) : TS :=
  (tSeq (tIfS (tTest (tOp rrLe (tVar 1) (tC (.int 1)))) (tRet (tCall (sp_on_tables K) [] E (tCons (tVar 1) (tCons (tVar 2) tNil)))) tNext)
  (tSeq (tPar 3 4 (tCons (tOp (rIxT K) (tOp (rIxL K) (tVar 2) (tC (.int 0))) (tC (.int 1))) (tCons (tSl (rSlL K) (tVar 2) (tPart (tC (.int 1))) tNoPart) tNil)))
  (tSeq (tIfS (tTest (tOp rEq (tVar 1) (tC (.int 2)))) (tSeq (sDPut (tFld K (tVar 0) "doors") (tVar 3) (tCall (sp_door_of K) [] E (tCons (tVar 4) tNil)))
  (tRet (tC (.ref (cA K "NOTHING"))))) tNext)
  (tSeq (tIfS (tTest (tOp rrLe (tVar 1) (tC (.int 8)))) (tRet (tCall (sp_on_door K) [] E (tCons (tVar 1) (tCons (tDGet (tFld K (tVar 0) "doors") (tVar 3)) (tCons (tVar 4) tNil))))) tNext)
  (tSeq (tIfS (tTest (tOp rEq (tVar 1) (tC (.int 9)))) (tSeq (sDPut (tFld K (tVar 0) "fields") (tVar 3) (tMake (cA K "Field") (sp_Field___init__ K) [] E0 (tCons (tCall (sp_door_of K) [] E (tCons (tVar 4) tNil)) tNil)))
  (tRet (tC (.ref (cA K "NOTHING"))))) tNext)
  (tRet (tIf (tTest (tOp rrLe (tVar 1) (tC (.int 14)))) (tCall (sp_on_field K) [] E (tCons (tVar 1) (tCons (tDGet (tFld K (tVar 0) "fields") (tVar 3)) (tCons (tVar 4) tNil)))) (tMeth (cA K "Desk") "on_walk" (sp_Desk_on_walk K) [] E (tVar 0) (tCons (tVar 1) (tCons (tVar 3) (tCons (tVar 4) tNil)))))))))))
section
variable {P : Program} {w : World} {K : PySem.W.Frag} {mg : Str → Option Value} {base : Heap}
theorem pure_Desk_give_answer (T : Tx K mg) (vs : List V) (H : Hp) (Q : VK) (E : XK) (h : sp_Desk_give_answer K vs H Q E) : t_Desk_give_answer K E { nx := fun _ H' => Q .non H', rt := Q } (start ["self", "number", "values", "slot", "a"] vs) H := by
  obtain ⟨_, n, L, w, number, p, v0, v1, v2, v3, c, rfl, hw, hn, hA, hc, hin, q⟩ := h
  unfold t_Desk_give_answer
  walk_at "ev"
  refine ite_le (k := 1) (fun e => ?_) (fun e1 => ?_)
  · have q : Out K E H (tablesFn number v0 v1) fun r => ∀ a H', Ex H H' → VAt K H' (Rust.given r) a → Q (.ref a) H' := by
      rcases hc with ⟨rfl, rfl⟩ | ⟨rfl, rfl⟩ | ⟨s, _, _, hc⟩
      · exact aout_res q hw
      · exact aout_res q hw
      · exfalso
        rcases hc with ⟨rfl, _⟩ | ⟨rfl, _⟩ | ⟨rfl, _⟩ | ⟨rfl, _⟩ | ⟨rfl, _⟩ | ⟨rfl, _⟩ | ⟨rfl, _⟩ | ⟨rfl, _⟩ | ⟨rfl, _⟩ | ⟨rfl, _⟩ | ⟨rfl, _⟩ | ⟨rfl, _⟩ | ⟨rfl, _⟩ | ⟨rfl, _⟩ | ⟨rfl, _⟩ | ⟨rfl, _⟩ <;> omega
    walk_at "ev"
    exact ⟨rfl, number, p, v0, v1, [v2, v3], rfl, hA, q⟩
  rcases hc with ⟨z, _⟩ | ⟨z, _⟩ | ⟨s, hs, rfl, hc⟩
  · omega
  · omega
  obtain ⟨xs, hx1, hx2⟩ := hA
  obtain ⟨a0, a1, a2, a3, rfl⟩ : ∃ a0 a1 a2 a3, xs = [a0, a1, a2, a3] := by
    rcases xs with _ | ⟨a0, _ | ⟨a1, _ | ⟨a2, _ | ⟨a3, _ | ⟨a4, r⟩⟩⟩⟩⟩
    · exact hx2.elim
    · exact hx2.2.elim
    · exact hx2.2.2.elim
    · exact hx2.2.2.2.elim
    · exact ⟨a0, a1, a2, a3, rfl⟩
    · exact hx2.2.2.2.2.elim
  have va0 : SqT K H a0 [.str "integer", .int s] := by
    have := hx2.1
    unfold VAt at this
    exact this
  have hx1 : SqL K H p [.ref a0, .ref a1, .ref a2, .ref a3] := hx1
  walk_at "ev"
  refine s_sl hx1 fun sl H1 hsl x1 h1 => ?_
  have hA1 : Args K H1 sl [v1, v2, v3] := ⟨[a1, a2, a3], sq_of h1, ⟨hx2.2.1.ex x1, hx2.2.2.1.ex x1, hx2.2.2.2.1.ex x1, trivial⟩⟩
  have hw := hw.ex x1
  have q := q.ex x1
  have ho := hw.obj
  clear va0 hx2 hx1 h1 hsl x1
  walk_at "ev"
  refine ite_num (k := 2) (fun e => ?_) (fun e2 => ?_)
  · subst e
    obtain rfl : c = .doorNew s (Rust.taken v1) (Rust.taken v2) (Rust.taken v3) := by
      rcases hc with ⟨_, h⟩ | ⟨z, _⟩ | ⟨z, _⟩ | ⟨z, _⟩ | ⟨z, _⟩ | ⟨z, _⟩ | ⟨z, _⟩ | ⟨z, _⟩ | ⟨z, _⟩ | ⟨z, _⟩ | ⟨z, _⟩ | ⟨z, _⟩ | ⟨z, _⟩ | ⟨z, _⟩ | ⟨z, _⟩ | ⟨z, _⟩
      · exact h
      all_goals cases z
    have q : Out K E H1 (R7293g.Spec.doorArgs (Rust.taken v1) (Rust.taken v2) (Rust.taken v3)) fun g => ∀ L' H' a, WorldAt K H' (n + 1) L' { w with heap := w.heap ++ [g], doors := w.doors.set s (some w.heap.length) } → Out1 H1 H' L L' → VAt K H' .nothing a → Q (.ref a) H' := by
      have q : AOut K E H1 n L (R7293g.Spec.newDoor w s (Rust.taken v1) (Rust.taken v2) (Rust.taken v3)) Q := q
      unfold R7293g.Spec.newDoor at q
      revert q
      cases R7293g.Spec.doorArgs (Rust.taken v1) (Rust.taken v2) (Rust.taken v3) with
      | ok g => exact fun q => q
      | error e => exact fun q => q
    walk_at "ev"
    with_reducible refine s_dput ?_
    walk_at "ev"
    refine ⟨rfl, sl, v1, v2, v3, [], rfl, hA1, q.mono (Ex.refl _) fun g _ q d H2 hd fr x2 => ?_⟩
    obtain ⟨kd, d1, d2, d3⟩ := hw.ds
    have d1' := x2 _ _ d1
    have ho2 := x2 _ _ ho
    walk_at "ev"
    refine x_dpK d1' (by omega) ?_
    walk_at "ev"
    obtain ⟨L', hW, hO⟩ := hw.new_door x2 hs hd fr d1'
    exact q L' _ _ hW hO (by unfold VAt; exact He.tupB_ok (T.ex 0) _)
  walk_at "ev"
  refine ite_le (k := 8) (fun e => ?_) (fun e8 => ?_)
  · have hc : (number = 3 ∧ c = .doorKnock s (Rust.taken v1) (Rust.taken v2) (Rust.taken v3)) ∨ (number = 4 ∧ c = .doorBack s (Rust.taken v1) (Rust.taken v2) (Rust.taken v3)) ∨ (number = 5 ∧ c = .doorClose s (Rust.taken v1)) ∨ (number = 6 ∧ c = .doorNext s) ∨ (number = 7 ∧ c = .doorRead s (Rust.taken v1)) ∨ (number = 8 ∧ c = .doorState s) := by
      rcases hc with h | h | h | h | h | h | h | h | h | h | h | h | h | h | h | h
      · exact absurd h.1 e2
      · exact .inl h
      · exact .inr (.inl h)
      · exact .inr (.inr (.inl h))
      · exact .inr (.inr (.inr (.inl h)))
      · exact .inr (.inr (.inr (.inr (.inl h))))
      · exact .inr (.inr (.inr (.inr (.inr h))))
      all_goals (have := h.1; omega)
    obtain ⟨i, g, h1, h2, h3⟩ := door_call hin hc
    rw [h3] at q
    obtain ⟨kd, d1, d2, d3⟩ := hw.ds
    obtain ⟨d, hd, hv⟩ := d3 s i h1
    walk_at "ev"
    with_reducible refine s_dget ?_
    walk_at "ev"
    refine x_dg d1 hv ?_
    walk_at "ev"
    exact ⟨rfl, n, d, g, number, sl, v1, v2, v3, rfl, door_here hw hd h2, hn, hA1, aout_door q hw hd h2⟩
  walk_at "ev"
  refine ite_num (k := 9) (fun e => ?_) (fun e9 => ?_)
  · subst e
    obtain rfl : c = .fieldNew s (Rust.taken v1) (Rust.taken v2) (Rust.taken v3) := by
      rcases hc with ⟨z, h⟩ | ⟨z, h⟩ | ⟨z, h⟩ | ⟨z, h⟩ | ⟨z, h⟩ | ⟨z, h⟩ | ⟨z, h⟩ | ⟨z, h⟩ | ⟨z, h⟩ | ⟨z, h⟩ | ⟨z, h⟩ | ⟨z, h⟩ | ⟨z, h⟩ | ⟨z, h⟩ | ⟨z, h⟩ | ⟨z, h⟩
      all_goals first
        | exact h
        | cases z
    have q : Out K E H1 (R7293g.Spec.doorArgs (Rust.taken v1) (Rust.taken v2) (Rust.taken v3)) fun g => ∀ L' H' a, WorldAt K H' (n + 1) L' { w with yard := w.yard ++ [R7293g.Spec.startField g], fields := w.fields.set s (some w.yard.length) } → Out1 H1 H' L L' → VAt K H' .nothing a → Q (.ref a) H' := by
      have q : AOut K E H1 n L (R7293g.Spec.newField w s (Rust.taken v1) (Rust.taken v2) (Rust.taken v3)) Q := q
      unfold R7293g.Spec.newField at q
      revert q
      cases R7293g.Spec.doorArgs (Rust.taken v1) (Rust.taken v2) (Rust.taken v3) with
      | ok g => exact fun q => q
      | error e => exact fun q => q
    walk_at "ev"
    with_reducible refine s_dput ?_
    refine s_make ?_
    walk_at "ev"
    refine ⟨rfl, sl, v1, v2, v3, [], rfl, hA1, q.mono (Ex.refl _) fun g _ q d H2 hd fr x2 => ?_⟩
    walk_at "ev"
    refine mk_field hd fun f H3 f1 f2 fd x3 hf => ?_
    have x23 := Ex.trans x2 x3
    obtain ⟨kf, k1, k2, k3⟩ := hw.fs
    have k1' := x23 _ _ k1
    have ho2 := x23 _ _ ho
    walk_at "ev"
    refine x_dpK k1' (by omega) ?_
    walk_at "ev"
    obtain ⟨L', hW, hO⟩ := hw.new_field x23 hs hf (fun b sb => by
      rcases sb with rfl | rfl | sb
      · exact Ex.fr x2 f1
      · exact Ex.fr x2 f2
      · rw [fd] at sb
        exact fr b sb) k1'
    exact q L' _ _ hW hO (by unfold VAt; exact He.tupB_ok (T.ex 0) _)
  walk_at "ev"
  refine ite_le (k := 14) (fun e => ?_) (fun e14 => ?_)
  · have hc : (number = 10 ∧ c = .fieldKnock s (Rust.taken v1) (Rust.taken v2) (Rust.taken v3)) ∨ (number = 11 ∧ c = .fieldBack s (Rust.taken v1)) ∨ (number = 12 ∧ c = .fieldClose s (Rust.taken v1)) ∨ (number = 13 ∧ c = .fieldNext s) ∨ (number = 14 ∧ c = .fieldState s) := by
      rcases hc with h | h | h | h | h | h | h | h | h | h | h | h | h | h | h | h
      case inr.inr.inr.inr.inr.inr.inr.inr.inl => exact .inl h
      case inr.inr.inr.inr.inr.inr.inr.inr.inr.inl => exact .inr (.inl h)
      case inr.inr.inr.inr.inr.inr.inr.inr.inr.inr.inl => exact .inr (.inr (.inl h))
      case inr.inr.inr.inr.inr.inr.inr.inr.inr.inr.inr.inl => exact .inr (.inr (.inr (.inl h)))
      case inr.inr.inr.inr.inr.inr.inr.inr.inr.inr.inr.inr.inl => exact .inr (.inr (.inr (.inr h)))
      all_goals (have := h.1; omega)
    obtain ⟨i, F, h1, h2, h3⟩ := field_call hin hc
    rw [h3] at q
    obtain ⟨kf, k1, k2, k3⟩ := hw.fs
    obtain ⟨f, hf, hv⟩ := k3 s i h1
    walk_at "ev"
    with_reducible refine s_dget ?_
    walk_at "ev"
    refine x_dg k1 hv ?_
    walk_at "ev"
    exact ⟨rfl, n, f, F, number, sl, v1, v2, v3, rfl, field_here hw hf h2, hn, hA1, ⟨by omega, e⟩, aout_field q hw hf h2⟩
  · have hc : walkIs number s v1 v2 c := by
      rcases hc with h | h | h | h | h | h | h | h | h | h | h | h | h | h | h | h
      case inr.inr.inr.inr.inr.inr.inr.inr.inr.inr.inr.inr.inr.inl => exact .inl h
      case inr.inr.inr.inr.inr.inr.inr.inr.inr.inr.inr.inr.inr.inr.inl => exact .inr (.inl h)
      case inr.inr.inr.inr.inr.inr.inr.inr.inr.inr.inr.inr.inr.inr.inr => exact .inr (.inr h)
      all_goals (have := h.1; omega)
    walk_at "ev"
    refine s_xm ho rfl ?_
    walk_at "ev"
    exact ⟨rfl, n, L, w, number, s, sl, v1, v2, [v3], c, rfl, hw, hn, hs, hA1, hc, hin, q⟩
theorem ok_Desk_give_answer (T : Tx K mg) : Mp P w K mg base (L2N.CX P w) (cA K "Desk") "give_answer" ["self", "number", "values"] 9 (sp_Desk_give_answer K) := by
  obtain ⟨fd, F⟩ := T.fn 63 (p := ("Desk", some "give_answer")) (n := "give_answer") (q := "Desk.give_answer") (st := s_Desk_give_answer)
  refine ⟨⟨_, fd, T.meth 131, F.bindsN fun _ _ _ _ _ _ us hl => match us, hl with | [_, _, _], _ => rfl, F.ok sc_Desk_give_answer (fun _ _ _ _ h => h.1) fun cdv A outer s H vs Q E hr h => ⟨t_Desk_give_answer K E, ?_, pure_Desk_give_answer T vs H Q E h⟩⟩⟩
  exact (pss_cons (ps_if (pt_cmpR op_le (pv 1) pe_int (nomark _)) (pss_one (ps_ret (pe_pk (ok_on_tables T) (hr.mono (by decide)) (L2N.passes_call (L2N.takes_of rfl rfl rfl rfl) fun _ _ _ _ h => h) (pa_cons (pv 1) (pa_cons (pv 2) pa_nil))))) pss_nil)
    (pss_cons (ps_par (by rfl) sc_Desk_give_answer.nd rfl rfl (by decide) rfl rfl (pa_cons (pe_ix ix_tup (pe_ix ix_list (pv 2) pe_int (fun _ _ => rfl)) pe_int (fun _ _ => rfl)) (pa_cons (pe_slice sl_list (pv 2) (po_some pe_int) po_none) pa_nil)) (by rfl))
    (pss_cons (ps_if (pt_cmpR op_eq (pv 1) pe_int (nomark _)) (pss_cons (ps_dput (hu_of hr) (pe_fld (pv 0) rfl) (pv 3) (pe_pk (ok_door_of T) (hr.mono (by decide)) (L2N.passes_call (L2N.takes_of rfl rfl rfl rfl) fun _ _ _ _ h => h) (pa_cons (pv 4) pa_nil)) rfl)
    (pss_one (ps_ret (pe_glob rfl (T.glo 35) rfl)))) pss_nil)
    (pss_cons (ps_if (pt_cmpR op_le (pv 1) pe_int (nomark _)) (pss_one (ps_ret (pe_pk (ok_on_door T) (hr.mono (by decide)) (L2N.passes_call (L2N.takes_of rfl rfl rfl rfl) fun _ _ _ _ h => h) (pa_cons (pv 1) (pa_cons (pe_dget (hu_of hr) (pe_fld (pv 0) rfl) (pv 3) (fun _ _ => rfl)) (pa_cons (pv 4) pa_nil)))))) pss_nil)
    (pss_cons (ps_if (pt_cmpR op_eq (pv 1) pe_int (nomark _)) (pss_cons (ps_dput (hu_of hr) (pe_fld (pv 0) rfl) (pv 3) (pe_cp (ok_Field___init__ T) (hr.mono (by decide)) pass0 (pa_cons (pe_pk (ok_door_of T) (hr.mono (by decide)) (L2N.passes_call (L2N.takes_of rfl rfl rfl rfl) fun _ _ _ _ h => h) (pa_cons (pv 4) pa_nil)) pa_nil)) rfl)
    (pss_one (ps_ret (pe_glob rfl (T.glo 35) rfl)))) pss_nil)
    (pss_one (ps_ret (pe_ifExp (pt_cmpR op_le (pv 1) pe_int (nomark _)) (pe_pk (ok_on_field T) (hr.mono (by decide)) (L2N.passes_call (L2N.takes_of rfl rfl rfl rfl) fun _ _ _ _ h => h) (pa_cons (pv 1) (pa_cons (pe_dget (hu_of hr) (pe_fld (pv 0) rfl) (pv 3) (fun _ _ => rfl)) (pa_cons (pv 4) pa_nil)))) (pe_mp (pv 0) (T.cls 125) (ok_Desk_on_walk T) (hr.mono (by decide)) (L2N.passes_call (L2N.takes_of rfl rfl rfl rfl) fun _ _ _ _ h => h) (pa_cons (pv 1) (pa_cons (pv 3) (pa_cons (pv 4) pa_nil))))))))))))
end
end Dk
namespace Dk
open PySem PySem.Spec PyProof.Rows L2 Evl RZ
local macro_rules | `(tactic| walk_at "hp") => `(tactic| first | assumption | exact L2.upd_same | (apply Dk.Ex.at (by assumption); walk_at "hp"))
local macro_rules | `(tactic| walk_at "hq") => `(tactic| first | assumption | (apply Evl.sq_of; walk_at "hp") | (apply Evl.st_of; walk_at "hp") | (apply Evl.ex_l (by assumption); walk_at "hq") | (apply Evl.ex_t (by assumption); walk_at "hq"))
local macro_rules | `(tactic| walk_at "ex") => `(tactic| first | exact Evl.Ex.refl _ | assumption | (refine Evl.Ex.trans ?_ (by assumption); walk_at "ex"))
local macro_rules | `(tactic| walk_at "e1") => `(tactic| first
  | (with_reducible refine if_t ?_) | (with_reducible refine if_f ?_) | (with_reducible refine s_seq ?_) | (with_reducible refine s_asg ?_) | (with_reducible refine s_name ?_) | (with_reducible refine s_drop ?_) | (with_reducible refine s_ret ?_) | (with_reducible refine s_nil ?_) | (with_reducible refine s_cons ?_)
  | (with_reducible refine s_c ?_)
  | ((with_reducible refine' s_var ?h1 ?_); (case h1 => rfl))
  | (with_reducible refine s_op ?_) | (with_reducible refine s_call ?_) | (with_reducible refine s_cb ?_) | (with_reducible refine s_fld ?_) | (with_reducible refine s_tup ?_) | (with_reducible refine s_lst ?_) | (with_reducible refine s_meth ?_) | (with_reducible refine s_test ?_) | (with_reducible refine s_B ?_)
  | (with_reducible refine s_not ?_) | (with_reducible refine s_xb ?_) | (with_reducible refine s_if ?_) | (with_reducible refine s_ifS ?_) | (with_reducible refine s_next ?_) | (with_reducible refine s_sfld ?_)
  | (with_reducible refine s_I0 ?_) | ((with_reducible refine' s_I ?h1 ?_); (case h1 => first | exact ⟨by decide, by decide⟩ | exact .inr ⟨by decide, by decide⟩ | (show (0 : Int) < _; decide) | (show (0 : Int) ≤ _; first | decide | omega) | exact ⟨by omega, by omega⟩))
  | ((with_reducible refine' s_xf ?h1 ?h2 ?h3 ?h4 ?_); (case h1 => walk_at "hp"); (case h2 => exact Tx.clsK (by assumption) (by decide +kernel)); (case h3 => exact Tx.noatK (by assumption) (by decide +kernel)); (case h4 => rfl))
  | ((with_reducible refine' s_xs ?h1 ?h2 ?h3 ?h4 ?h5 ?_); (case h1 => walk_at "hp"); (case h2 => exact Tx.clsK (by assumption) (by decide +kernel)); (case h3 => exact Tx.noatK (by assumption) (by decide +kernel)); (case h4 => exact Dk.lt_ble rfl); (case h5 => rfl))
  | ((with_reducible refine' s_eq ?h1 ?_); (case h1 => rfl)) | ((with_reducible refine' s_ne ?h1 ?_); (case h1 => rfl)) | (with_reducible refine s_isN ?_)
  | ((with_reducible refine' s_xt ?h1 ?_); (case h1 => exact Nat.le_of_ble_eq_true rfl); intro _ _ _ _ _)
  | ((with_reducible refine' s_xl ?h1 ?_); (case h1 => exact Nat.le_of_ble_eq_true rfl); intro _ _ _ _ _)
  | ((with_reducible refine' s_lenL ?h1 ?_); (case h1 => walk_at "hq")) | ((with_reducible refine' s_lenT ?h1 ?_); (case h1 => walk_at "hq"))
  | ((with_reducible refine' s_ixL ?h1 ?h2 ?_); (case h1 => walk_at "hq"); (case h2 => first | assumption | exact atI_0 | exact atI_1 | rfl))
  | ((with_reducible refine' s_ixT ?h1 ?h2 ?_); (case h1 => walk_at "hq"); (case h2 => first | assumption | exact atI_0 | exact atI_1 | rfl))
  | (with_reducible refine s_or ?_) | (with_reducible refine s_and ?_)
  | ((with_reducible refine' s_nin ?h1 ?h2 ?h3 ?_); (case h1 => walk_at "hq"); (case h2 => rfl); (case h3 => rfl))
  | (with_reducible refine s_tru ?_)
  | (with_reducible refine s_ip ?_) | (with_reducible refine s_for1 ?_) | (with_reducible refine s_for2 ?_) | (with_reducible refine s_for3 ?_) | (with_reducible refine s_forL ?_) | (with_reducible refine s_forT ?_) | (with_reducible refine s_lcL ?_) | (with_reducible refine s_lcT ?_) | (with_reducible refine s_lcS ?_) | (with_reducible refine s_lcE ?_) | (with_reducible refine s_lcZ ?_) | (with_reducible refine s_lcZA ?_) | (with_reducible refine s_lcR ?_) | (with_reducible refine s_chain ?_) | (with_reducible refine s_av ?_) | (with_reducible refine s_ov ?_) | (with_reducible refine s_yes ?_) | (with_reducible refine s_tbm ?_) | (with_reducible refine s_ord ?_) | (with_reducible refine s_raise ?_) | (with_reducible refine s_fldaug ?_) | (with_reducible refine s_add ?_) | (with_reducible refine s_slc ?_) | (with_reducible refine s_part ?_) | (with_reducible refine x_p1 ?_) | (with_reducible refine s_nopart ?_)
  | ((with_reducible refine' x_bm ?h1 ?_); (case h1 => walk_at "hq")) | (with_reducible refine s_par1 ?_) | (with_reducible refine s_un ?_) | (with_reducible refine s_uI ?_))
local macro_rules | `(tactic| walk_at "ev") => `(tactic| repeat walk_at "e1")
-- plain
/-! ### a request and where it is read -/
abbrev fReq (p : Addr) (n : Nat) : List (Str × V) := [("octets", .ref p), ("at", natV n)]
structure RL where
  r : Addr
  dx : Addr
  p : Addr
  l : List UInt8
/-- b is still to be read -/
def RqAt (K : PySem.W.Frag) (H : Hp) (R : RL) (b : List UInt8) : Prop := H R.p = some (.lst (R.l.map octV)) ∧ ∃ n, n ≤ R.l.length ∧ R.l.drop n = b ∧ H R.r = some (.ins (cA K "Request") R.dx (fReq R.p n))
/-- only r was written -/
def Kr (r : Addr) (H H' : Hp) : Prop := ∀ b u, b ≠ r → H b = some u → H' b = some u
section
variable {K : PySem.W.Frag} {H H' H2 : Hp} {R : RL} {b : List UInt8} {r : Addr}
theorem Kr.of (x : Ex H H') : Kr r H H' := fun b u _ h => x b u h
theorem Kr.trans (a : Kr r H H') (c : Kr r H' H2) : Kr r H H2 := fun b u hb h => c b u hb (a b u hb h)
theorem Kr.tx (k : Kr r H H') (o : ∃ C dx fs, H r = some (.ins C dx fs)) : TX K H H' := fun a xs q => by
  obtain ⟨C, dx, fs, o⟩ := o
  rcases q with (q | ⟨z, q⟩) | q
  · exact .inl (.inl (k _ _ (ne_of q o (fun z => nomatch z)) q))
  · exact .inl (.inr ⟨z, k _ _ (ne_of q o (fun z => nomatch z)) q⟩)
  · exact .inr q
theorem RqAt.ins (h : RqAt K H R b) : ∃ C dx fs, H R.r = some (.ins C dx fs) := by
  obtain ⟨_, n, _, _, o⟩ := h
  exact ⟨_, _, _, o⟩
theorem RqAt.ex (h : RqAt K H R b) (x : Ex H H') : RqAt K H' R b := by
  obtain ⟨a, n, c, d, o⟩ := h
  exact ⟨x _ _ a, n, c, d, x _ _ o⟩
theorem RqAt.ne (h : RqAt K H R b) : R.p ≠ R.r := by
  obtain ⟨a, n, c, d, o⟩ := h
  exact ne_of a o (fun z => nomatch z)
end
theorem front_some : ∀ {k : Nat} {b x rest : List UInt8}, RWire.front k b = some (x, rest) → k ≤ b.length ∧ x = b.take k ∧ rest = b.drop k
  | 0, b, x, rest, h => by
    unfold RWire.front at h
    cases h
    exact ⟨Nat.zero_le _, rfl, rfl⟩
  | k + 1, [], x, rest, h => by
    unfold RWire.front at h
    cases h
  | k + 1, a :: b, x, rest, h => by
    unfold RWire.front at h
    cases hf : RWire.front k b with
    | none => rw [hf] at h; cases h
    | some p =>
      rw [hf] at h
      cases h
      obtain ⟨h1, h2, h3⟩ := front_some (x := p.1) (rest := p.2) hf
      exact ⟨Nat.succ_le_succ h1, by rw [h2]; rfl, by rw [h3]; rfl⟩
theorem readNum_some {k : Nat} {b rest : List UInt8} {n : Nat} (h : RWire.readNum k b = some (n, rest)) : ∃ x, RWire.front k b = some (x, rest) ∧ RWire.numOf x = n := by
  unfold RWire.readNum at h
  cases hf : RWire.front k b with
  | none => rw [hf] at h; cases h
  | some p =>
    rw [hf] at h
    cases h
    exact ⟨p.1, rfl, rfl⟩
theorem cut_eq (xs : List V) (a m : Nat) : cutV xs (some (a : Int)) (some ((a : Int) + (m : Int))) = (xs.drop a).take m := by
  unfold cutV
  rw [show (a : Int) + (m : Int) = ((a + m : Nat) : Int) by omega, HT.sIx_nat, HT.sIx_nat]
  by_cases h : a ≤ xs.length
  · rw [Nat.min_eq_left h]
    by_cases h2 : a + m ≤ xs.length
    · rw [Nat.min_eq_left h2]
      congr 1
      omega
    · rw [Nat.min_eq_right (by omega), List.take_of_length_le (by rw [List.length_drop]; exact Nat.le_refl _), List.take_of_length_le (by rw [List.length_drop]; omega)]
  · rw [Nat.min_eq_right (show xs.length ≤ a + m by omega), Nat.min_eq_right (show xs.length ≤ a by omega), List.drop_of_length_le (Nat.le_refl _), List.drop_of_length_le (by omega), List.take_nil, List.take_nil]
theorem numOf_fold : ∀ x : List UInt8, RWire.numOf x = x.reverse.foldl (fun a o => a * 256 + o.toNat) 0
  | [] => rfl
  | a :: r => by
    rw [List.reverse_cons, List.foldl_append, ← numOf_fold r]
    show a.toNat + 256 * RWire.numOf r = RWire.numOf r * 256 + a.toNat
    omega

/-! ### Request___init__ -/
abbrev s_Request___init__ : Stmt := inClass (top 33) 0
theorem sc_Request___init__ : FnScope ["self", "octets"] ["self", "octets"] (defScope s_Request___init__) := ⟨rfl, rfl, rfl, by decide +kernel, rfl, by decide +kernel, by decide +kernel⟩
def sp_Request___init__ (K : PySem.W.Frag) : Sp := fun vs H Q _ => vs.length = 2 ∧ ∃ x dx p, vs = [.ref x, .ref p] ∧ H x = some (.ins (cA K "Request") dx []) ∧
  ∀ H', (∀ b, b ≠ x → H' b = H b) → H' x = some (.ins (cA K "Request") dx (fReq p 0)) → Q .non H'
def t_Request___init__ (K : PySem.W.Frag) : TS :=
  (tSeq (sFld K (tVar 0) (tVar 1) "octets")
  (sFld K (tVar 0) (tC (.int 0)) "at"))
section
variable {P : Program} {w : World} {K : PySem.W.Frag} {mg : Str → Option Value} {base : Heap}
theorem pure_Request___init__ (T : Tx K mg) (vs : List V) (H : Hp) (Q : VK) (E : XK) (h : sp_Request___init__ K vs H Q E) : t_Request___init__ K { nx := fun _ H' => Q .non H', rt := Q } (start ["self", "octets"] vs) H := by
  obtain ⟨_, x, dx, p, rfl, hx, q⟩ := h
  unfold t_Request___init__
  walk_at "ev"
  refine q _ (fun b hb => ?_) upd_same
  repeat rw [upd_ne hb]
theorem mk_req {K : PySem.W.Frag} {H : Hp} {Q : Addr → Hp → Prop} {E : XK} {p : Addr} {l : List UInt8} (hp : H p = some (.lst (l.map octV))) (q : ∀ x dx H', H x = none → Ex H H' → RqAt K H' ⟨x, dx, p, l⟩ l → Q x H') :
    ∀ x dx, H x = none → H dx = none → dx ≠ x → sp_Request___init__ K (.ref x :: ([.ref p] ++ [])) (upd (upd H dx (.own x)) x (.ins (cA K "Request") dx [])) (fun v H2 => v = .non ∧ Q x H2) E := fun x dx hx hd _ =>
  ⟨rfl, x, dx, p, rfl, upd_same, fun H' h1 h2 => ⟨rfl, by
    have e : Ex H H' := fun b u hb => by
      have b1 : b ≠ x := fun e => by rw [e, hx] at hb; cases hb
      have b2 : b ≠ dx := fun e => by rw [e, hd] at hb; cases hb
      rw [h1 b b1, upd_ne b1, upd_ne b2, hb]
    exact q x dx H' hx e ⟨e _ _ hp, 0, Nat.zero_le _, rfl, h2⟩⟩⟩
theorem ok_Request___init__ (T : Tx K mg) : Cp P w K mg base CX0 "Request" (cA K "Request") ["self", "octets"] 1 (sp_Request___init__ K) := by
  obtain ⟨fd, F⟩ := T.fn 56 (p := ("Request", some "__init__")) (n := "__init__") (q := "Request.__init__") (st := s_Request___init__)
  refine ⟨⟨_, fd, T.glo 115, T.mkr 117, F.bindsN fun _ _ _ _ _ _ us hl => match us, hl with | [_, _], _ => rfl, F.ok sc_Request___init__ (fun _ _ _ _ h => h.1) fun cdv A outer s H vs Q E hr h => ⟨t_Request___init__ K, PSs.nox ?_, pure_Request___init__ T vs H Q E h⟩⟩⟩
  exact (pss_cons (ps_fld (pv 0) (pv 1) rfl)
    (pss_one (ps_fld (pv 0) pe_int rfl)))
end
/-! ### Request_take -/
abbrev s_Request_take : Stmt := inClass (top 33) 1
theorem sc_Request_take : FnScope ["self", "many", "found"] ["self", "many"] (defScope s_Request_take) := ⟨rfl, rfl, rfl, by decide +kernel, rfl, by decide +kernel, by decide +kernel⟩
def sp_Request_take (K : PySem.W.Frag) : Sp := fun vs H Q _ => vs.length = 2 ∧ ∃ R k b x rest, vs = [.ref R.r, natV k] ∧ RqAt K H R b ∧ RWire.front k b = some (x, rest) ∧ ∀ f H', Kr R.r H H' → H f = none → H' f = some (.lst (x.map octV)) → RqAt K H' R rest → Q (.ref f) H'
def t_Request_take (K : PySem.W.Frag) : TS :=
  (tSeq (tAsg (tSl (rSlL K) (tFld K (tVar 0) "octets") (tPart (tFld K (tVar 0) "at")) (tPart (tOp rrAdd (tFld K (tVar 0) "at") (tVar 1)))) (gName 2))
  (tSeq (sFldAug K (tVar 0) (tVar 1) rAdd "at")
  (tRet (tVar 2))))
section
variable {P : Program} {w : World} {K : PySem.W.Frag} {mg : Str → Option Value} {base : Heap}
theorem pure_Request_take (T : Tx K mg) (vs : List V) (H : Hp) (Q : VK) (E : XK) (h : sp_Request_take K vs H Q E) : t_Request_take K { nx := fun _ H' => Q .non H', rt := Q } (start ["self", "many", "found"] vs) H := by
  obtain ⟨_, R, k, b, x, rest, rfl, hR, hf, q⟩ := h
  obtain ⟨hk, rfl, rfl⟩ := front_some hf
  have hne := hR.ne
  obtain ⟨hp, n, hn, hb, ho⟩ := hR
  unfold t_Request_take
  walk_at "ev"
  refine s_sl (sq_of hp) fun f H1 hf1 x1 h1 => ?_
  rw [cut_eq, ← List.map_drop, ← List.map_take, hb] at h1
  have ho1 := x1 _ _ ho
  walk_at "ev"
  refine s_fa ho1 (Tx.clsK T (by decide +kernel)) (Tx.noatK T (by decide +kernel)) rfl ?_
  walk_at "ev"
  refine s_xfa (gs := fReq R.p (n + k)) ho1 (lt_ble rfl) rfl ?_
  walk_at "ev"
  have fr : f ≠ R.r := fun z => by rw [z, ho] at hf1; cases hf1
  have hbl : b.length = R.l.length - n := by rw [← hb, List.length_drop]
  refine q f _ (fun c u hc hu => by rw [upd_ne hc]; exact x1 _ _ hu) hf1 (by rw [upd_ne fr]; exact h1) ⟨by rw [upd_ne hne]; exact x1 _ _ hp, n + k, by omega, ?_, upd_same⟩
  rw [← List.drop_drop, hb]
theorem ok_Request_take (T : Tx K mg) : Mp P w K mg base CX0 (cA K "Request") "take" ["self", "many"] 1 (sp_Request_take K) := by
  obtain ⟨fd, F⟩ := T.fn 57 (p := ("Request", some "take")) (n := "take") (q := "Request.take") (st := s_Request_take)
  refine ⟨⟨_, fd, T.meth 120, F.bindsN fun _ _ _ _ _ _ us hl => match us, hl with | [_, _], _ => rfl, F.ok sc_Request_take (fun _ _ _ _ h => h.1) fun cdv A outer s H vs Q E hr h => ⟨t_Request_take K, PSs.nox ?_, pure_Request_take T vs H Q E h⟩⟩⟩
  exact (pss_cons (ps_set (i := 2) sc_Request_take.nd rfl (Or.inl rfl) (pe_slice sl_list (pe_fld (pv 0) rfl) (po_some (pe_fld (pv 0) rfl)) (po_some (pe_op op_add (pe_fld (pv 0) rfl) (pv 1)))))
    (pss_cons (ps_fldaug (pv 0) (pv 1) in_add)
    (pss_one (ps_ret (pv 2)))))
end
/-! ### Request_give_number -/
abbrev s_Request_give_number : Stmt := inClass (top 33) 2
theorem sc_Request_give_number : FnScope ["self", "many", "found", "octet"] ["self", "many"] (defScope s_Request_give_number) := ⟨rfl, rfl, rfl, by decide +kernel, rfl, by decide +kernel, by decide +kernel⟩
def sp_Request_give_number (K : PySem.W.Frag) : Sp := fun vs H Q _ => vs.length = 2 ∧ ∃ R k b n rest, vs = [.ref R.r, natV k] ∧ RqAt K H R b ∧ RWire.readNum k b = some (n, rest) ∧ ∀ H', Kr R.r H H' → RqAt K H' R rest → Q (natV n) H'
def t_Request_give_number (K : PySem.W.Frag) : TS :=
  (tSeq (tAsg (tC (.int 0)) (gName 2))
  (tSeq (tFor (iList K (tRevL K (tMeth (cA K "Request") "take" (sp_Request_take K) [] E0 (tVar 0) (tCons (tVar 1) tNil)))) (gName 3) (tAsg (tOp rrAdd (tOp rrMul (tVar 2) (tC (.int 256))) (tVar 3)) (gName 2)))
  (tRet (tVar 2))))
section
variable {P : Program} {w : World} {K : PySem.W.Frag} {mg : Str → Option Value} {base : Heap}
theorem pure_Request_give_number (T : Tx K mg) (vs : List V) (H : Hp) (Q : VK) (E : XK) (h : sp_Request_give_number K vs H Q E) : t_Request_give_number K { nx := fun _ H' => Q .non H', rt := Q } (start ["self", "many", "found", "octet"] vs) H := by
  obtain ⟨_, R, k, b, n, rest, rfl, hR, hf, q⟩ := h
  obtain ⟨x, hx, rfl⟩ := readNum_some hf
  obtain ⟨hp, m, hm, hb, ho⟩ := id hR
  unfold t_Request_give_number
  walk_at "ev"
  show (tMeth _ _ _ _ _ _ _) _ _ _
  walk_at "ev"
  refine s_xm ho rfl ?_
  walk_at "ev"
  refine ⟨rfl, R, k, b, x, rest, rfl, hR, hx, fun f H1 k1 hf1 h1 hR1 => ?_⟩
  refine ⟨f, _, rfl, sq_of h1, fun v hv => ?_⟩
  have x2 : Ex H1 (upd H1 v (.lst (x.map octV).reverse)) := Ex.new hv
  have h2 : (upd H1 v (.lst (x.map octV).reverse)) v = some (.lst (x.reverse.map octV)) := by rw [upd_same, List.map_reverse]
  generalize upd H1 v (.lst (x.map octV).reverse) = H2 at x2 h2
  refine x_fl (sq_of h2) (fun i σ H' => H' = H2 ∧ ∃ a, σ = [some (.ref R.r), some (natV k), some (natV ((x.reverse.take i).foldl (fun a o => a * 256 + o.toNat) 0)), a]) ⟨rfl, _, rfl⟩ (fun i σ H' _ P => by rw [P.1]; exact sq_of h2) (fun i y σ H' hy P => ?_) (fun σ H' P => ?_)
  · obtain ⟨rfl, a, rfl⟩ := P
    obtain ⟨o, ho, rfl⟩ := map_get hy
    walk_at "ev"
    rw [take_snoc ho, List.foldl_append]
    exact ⟨rfl, some (octV o), rfl⟩
  · obtain ⟨rfl, a, rfl⟩ := P
    walk_at "ev"
    rw [List.length_map, List.take_length, ← numOf_fold]
    exact q H' (k1.trans (Kr.of x2)) (hR1.ex x2)
theorem ok_Request_give_number (T : Tx K mg) : Mp P w K mg base CX0 (cA K "Request") "give_number" ["self", "many"] 2 (sp_Request_give_number K) := by
  obtain ⟨fd, F⟩ := T.fn 58 (p := ("Request", some "give_number")) (n := "give_number") (q := "Request.give_number") (st := s_Request_give_number)
  refine ⟨⟨_, fd, T.meth 121, F.bindsN fun _ _ _ _ _ _ us hl => match us, hl with | [_, _], _ => rfl, F.ok sc_Request_give_number (fun _ _ _ _ h => h.1) fun cdv A outer s H vs Q E hr h => ⟨t_Request_give_number K, PSs.nox ?_, pure_Request_give_number T vs H Q E h⟩⟩⟩
  exact (pss_cons (ps_set (i := 2) sc_Request_give_number.nd rfl (Or.inl rfl) pe_int)
    (pss_cons (ps_for PassesOwn.never rfl (pi_list (pe_revL (pe_mp (pv 0) (T.cls 116) (ok_Request_take T) (hr.mono (by decide)) pass0 (pa_cons (pv 1) pa_nil)))) (pg_name (i := 3) sc_Request_give_number.nd rfl (Or.inl rfl)) (pss_one (ps_set (i := 2) sc_Request_give_number.nd rfl (Or.inl rfl) (pe_op op_add (pe_op op_mul (pv 2) pe_int) (pv 3)))))
    (pss_one (ps_ret (pv 2)))))
end
end Dk
namespace Dk
open PySem PySem.Spec PyProof.Rows L2 Evl RZ
local macro_rules | `(tactic| walk_at "hp") => `(tactic| first | assumption | exact L2.upd_same | (apply Dk.Ex.at (by assumption); walk_at "hp"))
local macro_rules | `(tactic| walk_at "hq") => `(tactic| first | assumption | (apply Evl.sq_of; walk_at "hp") | (apply Evl.st_of; walk_at "hp") | (apply Evl.ex_l (by assumption); walk_at "hq") | (apply Evl.ex_t (by assumption); walk_at "hq"))
local macro_rules | `(tactic| walk_at "ex") => `(tactic| first | exact Evl.Ex.refl _ | assumption | (refine Evl.Ex.trans ?_ (by assumption); walk_at "ex"))
local macro_rules | `(tactic| walk_at "e1") => `(tactic| first
  | (with_reducible refine if_t ?_) | (with_reducible refine if_f ?_) | (with_reducible refine s_seq ?_) | (with_reducible refine s_asg ?_) | (with_reducible refine s_name ?_) | (with_reducible refine s_drop ?_) | (with_reducible refine s_ret ?_) | (with_reducible refine s_nil ?_) | (with_reducible refine s_cons ?_)
  | (with_reducible refine s_c ?_)
  | ((with_reducible refine' s_var ?h1 ?_); (case h1 => rfl))
  | (with_reducible refine s_op ?_) | (with_reducible refine s_call ?_) | (with_reducible refine s_cb ?_) | (with_reducible refine s_fld ?_) | (with_reducible refine s_tup ?_) | (with_reducible refine s_lst ?_) | (with_reducible refine s_meth ?_) | (with_reducible refine s_test ?_) | (with_reducible refine s_B ?_)
  | (with_reducible refine s_not ?_) | (with_reducible refine s_xb ?_) | (with_reducible refine s_if ?_) | (with_reducible refine s_ifS ?_) | (with_reducible refine s_next ?_) | (with_reducible refine s_sfld ?_)
  | (with_reducible refine s_I0 ?_) | ((with_reducible refine' s_I ?h1 ?_); (case h1 => first | exact ⟨by decide, by decide⟩ | exact .inr ⟨by decide, by decide⟩ | (show (0 : Int) < _; decide) | (show (0 : Int) ≤ _; first | decide | omega) | exact ⟨by omega, by omega⟩))
  | ((with_reducible refine' s_xf ?h1 ?h2 ?h3 ?h4 ?_); (case h1 => walk_at "hp"); (case h2 => exact Tx.clsK (by assumption) (by decide +kernel)); (case h3 => exact Tx.noatK (by assumption) (by decide +kernel)); (case h4 => rfl))
  | ((with_reducible refine' s_xs ?h1 ?h2 ?h3 ?h4 ?h5 ?_); (case h1 => walk_at "hp"); (case h2 => exact Tx.clsK (by assumption) (by decide +kernel)); (case h3 => exact Tx.noatK (by assumption) (by decide +kernel)); (case h4 => exact Dk.lt_ble rfl); (case h5 => rfl))
  | ((with_reducible refine' s_eq ?h1 ?_); (case h1 => rfl)) | ((with_reducible refine' s_ne ?h1 ?_); (case h1 => rfl)) | (with_reducible refine s_isN ?_)
  | ((with_reducible refine' s_xt ?h1 ?_); (case h1 => exact Nat.le_of_ble_eq_true rfl); intro _ _ _ _ _)
  | ((with_reducible refine' s_xl ?h1 ?_); (case h1 => exact Nat.le_of_ble_eq_true rfl); intro _ _ _ _ _)
  | ((with_reducible refine' s_lenL ?h1 ?_); (case h1 => walk_at "hq")) | ((with_reducible refine' s_lenT ?h1 ?_); (case h1 => walk_at "hq"))
  | ((with_reducible refine' s_ixL ?h1 ?h2 ?_); (case h1 => walk_at "hq"); (case h2 => first | assumption | exact atI_0 | exact atI_1 | rfl))
  | ((with_reducible refine' s_ixT ?h1 ?h2 ?_); (case h1 => walk_at "hq"); (case h2 => first | assumption | exact atI_0 | exact atI_1 | rfl))
  | (with_reducible refine s_or ?_) | (with_reducible refine s_and ?_)
  | ((with_reducible refine' s_nin ?h1 ?h2 ?h3 ?_); (case h1 => walk_at "hq"); (case h2 => rfl); (case h3 => rfl))
  | (with_reducible refine s_tru ?_)
  | (with_reducible refine s_ip ?_) | (with_reducible refine s_for1 ?_) | (with_reducible refine s_for2 ?_) | (with_reducible refine s_for3 ?_) | (with_reducible refine s_forL ?_) | (with_reducible refine s_forT ?_) | (with_reducible refine s_lcL ?_) | (with_reducible refine s_lcT ?_) | (with_reducible refine s_lcS ?_) | (with_reducible refine s_lcE ?_) | (with_reducible refine s_lcZ ?_) | (with_reducible refine s_lcZA ?_) | (with_reducible refine s_lcR ?_) | (with_reducible refine s_chain ?_) | (with_reducible refine s_av ?_) | (with_reducible refine s_ov ?_) | (with_reducible refine s_yes ?_) | (with_reducible refine s_tbm ?_) | (with_reducible refine s_ord ?_) | (with_reducible refine s_raise ?_) | (with_reducible refine s_fldaug ?_) | (with_reducible refine s_add ?_) | (with_reducible refine s_slc ?_) | (with_reducible refine s_part ?_) | (with_reducible refine x_p1 ?_) | (with_reducible refine s_nopart ?_)
  | ((with_reducible refine' x_bm ?h1 ?_); (case h1 => walk_at "hq")) | (with_reducible refine s_par1 ?_) | (with_reducible refine s_un ?_) | (with_reducible refine s_uI ?_))
local macro_rules | `(tactic| walk_at "ev") => `(tactic| repeat walk_at "e1")
/-! ### Request_value -/
abbrev s_Request_value : Stmt := inClass (top 33) 3
theorem sc_Request_value : FnScope ["self", "kind", "many", "pairs", "turn", "number", "name"] ["self"] (defScope s_Request_value) := ⟨rfl, rfl, rfl, by decide +kernel, rfl, by decide +kernel, by decide +kernel⟩
-- rec
/-- no kind of value that this document does not have -/
def fineV (v : RWire.Value) : Prop := RWire.noBig v = true ∧ RWire.noOctets v = true ∧ RWire.noWide v = true
def sp_Request_value (K : PySem.W.Frag) (n : Nat) : Sp := fun vs H Q _ => vs.length = 1 ∧ ∃ R b v rest, vs = [.ref R.r] ∧ R.l.length ≤ 100000 ∧ RqAt K H R b ∧ RWire.readF n b = some (v, rest) ∧ fineV v ∧ ∀ a H', Kr R.r H H' → RqAt K H' R rest → VAt K H' v a → Q (.ref a) H'
theorem no_Request_value {K : PySem.W.Frag} {vs : List V} {H : Hp} {Q : VK} {E : XK} (h : sp_Request_value K 0 vs H Q E) : False := by
  obtain ⟨_, R, b, v, rest, _, _, _, hf, _⟩ := h
  unfold RWire.readF at hf
  cases hf
theorem fine_list {l : List RWire.Value} (h : fineV (.list l)) : ∀ v ∈ l, fineV v := by
  obtain ⟨h1, h2, h3⟩ := h
  have h1 : RWire.noBigMany l = true := h1
  have h2 : RWire.noOctetsMany l = true := h2
  have h3 : RWire.noWideMany l = true := h3
  induction l with
  | nil => intro v hv; cases hv
  | cons a l ih =>
    have h1 : (RWire.noBig a && RWire.noBigMany l) = true := h1
    have h2 : (RWire.noOctets a && RWire.noOctetsMany l) = true := h2
    have h3 : (RWire.noWide a && RWire.noWideMany l) = true := h3
    rw [Bool.and_eq_true] at h1 h2 h3
    intro v hv
    rcases List.mem_cons.mp hv with rfl | hv
    · exact ⟨h1.1, h2.1, h3.1⟩
    · exact ih h1.2 h2.2 h3.2 h1.2 h2.2 h3.2 v hv
theorem fine_ents {l : List (RWire.Text × RWire.Value)} (h : fineV (.record l)) : ∀ e ∈ l, fineV e.2 := by
  obtain ⟨h1, h2, h3⟩ := h
  have h1 : RWire.noBigEntries l = true := h1
  have h2 : RWire.noOctetsEntries l = true := h2
  have h3 : RWire.noWideEntries l = true := h3
  induction l with
  | nil => intro v hv; cases hv
  | cons a l ih =>
    have h1 : (RWire.noBig a.2 && RWire.noBigEntries l) = true := h1
    have h2 : (RWire.noOctets a.2 && RWire.noOctetsEntries l) = true := h2
    have h3 : (RWire.noWide a.2 && RWire.noWideEntries l) = true := h3
    rw [Bool.and_eq_true] at h1 h2 h3
    intro v hv
    rcases List.mem_cons.mp hv with rfl | hv
    · exact ⟨h1.1, h2.1, h3.1⟩
    · exact ih h1.2 h2.2 h3.2 h1.2 h2.2 h3.2 v hv
/-- the things that are read one after the other -/
inductive Reads {α : Type} (f : List UInt8 → Option (α × List UInt8)) : List UInt8 → List α → List UInt8 → Prop where
  | nil (b : List UInt8) : Reads f b [] b
  | cons {b b1 b2 : List UInt8} {x : α} {xs : List α} (h : f b = some (x, b1)) (r : Reads f b1 xs b2) : Reads f b (x :: xs) b2
theorem reads_of {α : Type} {f : List UInt8 → Option (α × List UInt8)} : ∀ {n : Nat} {b b2 : List UInt8} {xs : List α}, RWire.readMany f n b = some (xs, b2) → Reads f b xs b2 ∧ xs.length = n
  | 0, b, b2, xs, h => by
    unfold RWire.readMany at h
    cases h
    exact ⟨.nil b, rfl⟩
  | n + 1, b, b2, xs, h => by
    unfold RWire.readMany at h
    cases hf : f b with
    | none => rw [hf] at h; cases h
    | some p =>
      rw [hf] at h
      dsimp only at h
      cases hm : RWire.readMany f n p.2 with
      | none => rw [hm] at h; cases h
      | some q =>
        rw [hm] at h
        cases h
        obtain ⟨h1, h2⟩ := reads_of (xs := q.1) (b2 := q.2) hm
        exact ⟨.cons hf h1, by rw [List.length_cons, h2]⟩
/-- where the reading stands after i things -/
theorem Reads.at {α : Type} {f : List UInt8 → Option (α × List UInt8)} : ∀ {i : Nat} {b b2 : List UInt8} {xs : List α}, Reads f b xs b2 → i ≤ xs.length → ∃ c, Reads f b (xs.take i) c ∧ Reads f c (xs.drop i) b2
  | 0, b, b2, xs, h, _ => ⟨b, .nil b, h⟩
  | i + 1, b, b2, _ :: xs, .cons h r, hi => by
    obtain ⟨c, h1, h2⟩ := Reads.at (i := i) r (Nat.le_of_succ_le_succ hi)
    exact ⟨c, .cons h h1, h2⟩
theorem Reads.next {α : Type} {f : List UInt8 → Option (α × List UInt8)} {b b2 : List UInt8} {xs : List α} {i : Nat} {x : α} (h : Reads f b (xs.drop i) b2) (hx : xs[i]? = some x) : ∃ c, f b = some (x, c) ∧ Reads f c (xs.drop (i + 1)) b2 := by
  have hi := (List.getElem?_eq_some_iff.mp hx)
  obtain ⟨hi1, hi2⟩ := hi
  rw [List.drop_eq_getElem_cons hi1, hi2] at h
  cases h with
  | cons h r => exact ⟨_, h, r⟩
theorem reads_end {α : Type} {f : List UInt8 → Option (α × List UInt8)} {b b2 : List UInt8} (h : Reads f b [] b2) : b = b2 := by
  cases h
  rfl
theorem front_le {k : Nat} {b x rest : List UInt8} (h : RWire.front k b = some (x, rest)) : rest.length ≤ b.length := by
  obtain ⟨_, _, rfl⟩ := front_some h
  rw [List.length_drop]
  omega
theorem num_le {k n : Nat} {b rest : List UInt8} (h : RWire.readNum k b = some (n, rest)) : rest.length ≤ b.length := by
  obtain ⟨x, h, _⟩ := readNum_some h
  exact front_le h
theorem text_le {b x rest : List UInt8} (h : RWire.readText b = some (x, rest)) : rest.length ≤ b.length := by
  unfold RWire.readText at h
  cases hn : RWire.readNum 4 b with
  | none => rw [hn] at h; cases h
  | some p =>
    rw [hn] at h
    exact Nat.le_trans (front_le (x := x) h) (num_le (n := p.1) (rest := p.2) hn)
theorem reads_le {α : Type} {f : List UInt8 → Option (α × List UInt8)} {b b2 : List UInt8} {xs : List α} (hlt : ∀ c x d, f c = some (x, d) → d.length < c.length) (h : Reads f b xs b2) : xs.length + b2.length ≤ b.length := by
  induction h with
  | nil b => rw [List.length_nil]; omega
  | cons h r ih =>
    have := hlt _ _ _ h
    rw [List.length_cons]
    omega
theorem many_le {α : Type} {f : List UInt8 → Option (α × List UInt8)} {n : Nat} {b b2 : List UInt8} {xs : List α} (hlt : ∀ c x d, f c = some (x, d) → d.length < c.length) (h : RWire.readMany f n b = some (xs, b2)) : b2.length ≤ b.length := by
  have := reads_le hlt (reads_of h).1
  omega
theorem entry_lt {f : List UInt8 → Option (RWire.Value × List UInt8)} (hlt : ∀ c x d, f c = some (x, d) → d.length < c.length) : ∀ c x d, RWire.readEntry f c = some (x, d) → d.length < c.length := fun c x d h => by
  unfold RWire.readEntry at h
  cases ht : RWire.readText c with
  | none => rw [ht] at h; cases h
  | some p =>
    rw [ht] at h
    dsimp only at h
    cases hf : f p.2 with
    | none => rw [hf] at h; cases h
    | some q =>
      rw [hf] at h
      cases h
      exact Nat.lt_of_lt_of_le (hlt _ q.1 q.2 hf) (text_le (x := p.1) ht)
theorem readF_lt : ∀ (n : Nat) (b : List UInt8) (v : RWire.Value) (rest : List UInt8), RWire.readF n b = some (v, rest) → rest.length < b.length
  | 0, b, v, rest, h => by
    unfold RWire.readF at h
    cases h
  | n + 1, [], v, rest, h => by
    unfold RWire.readF at h
    cases h
  | n + 1, k :: b, v, rest, h => by
    have ih := readF_lt n
    have h : RWire.readKind (RWire.readF n) k.toNat b = some (v, rest) := h
    rw [List.length_cons]
    refine Nat.lt_succ_of_le ?_
    unfold RWire.readKind at h
    split at h
    · cases h; exact Nat.le_refl _
    · cases h; exact Nat.le_refl _
    · cases h; exact Nat.le_refl _
    · cases h; exact Nat.le_refl _
    · unfold RWire.readInt at h
      cases hn : RWire.readNum 8 b with
      | none => rw [hn] at h; cases h
      | some p =>
        rw [hn] at h
        dsimp only at h
        split at h
        · cases h
          exact num_le (n := p.1) hn
        · cases h
    · rcases b with _ | ⟨s, r⟩
      · cases h
      · unfold RWire.readBig at h
        dsimp only at h
        cases hn : RWire.readNum 4 r with
        | none => rw [hn] at h; cases h
        | some p =>
          rw [hn] at h
          dsimp only at h
          cases hf : RWire.front p.1 p.2 with
          | none => rw [hf] at h; cases h
          | some q =>
            rw [hf] at h
            dsimp only at h
            split at h
            · cases h
            · cases h
              have h1 := num_le (n := p.1) (rest := p.2) hn
              have h2 := front_le (x := q.1) (rest := q.2) hf
              rw [List.length_cons]
              omega
    · unfold RWire.readWords at h
      cases ht : RWire.readText b with
      | none => rw [ht] at h; cases h
      | some p =>
        rw [ht] at h
        cases h
        exact text_le (x := p.1) ht
    · unfold RWire.readList at h
      cases hn : RWire.readNum 4 b with
      | none => rw [hn] at h; cases h
      | some p =>
        rw [hn] at h
        dsimp only at h
        cases hm : RWire.readMany (RWire.readF n) p.1 p.2 with
        | none => rw [hm] at h; cases h
        | some q =>
          rw [hm] at h
          cases h
          exact Nat.le_trans (many_le (xs := q.1) ih hm) (num_le (n := p.1) (rest := p.2) hn)
    · unfold RWire.readRecord at h
      cases hn : RWire.readNum 4 b with
      | none => rw [hn] at h; cases h
      | some p =>
        rw [hn] at h
        dsimp only at h
        cases hm : RWire.readMany (RWire.readEntry (RWire.readF n)) p.1 p.2 with
        | none => rw [hm] at h; cases h
        | some q =>
          rw [hm] at h
          dsimp only at h
          split at h
          · cases h
            exact Nat.le_trans (many_le (xs := q.1) (entry_lt ih) hm) (num_le (n := p.1) (rest := p.2) hn)
          · cases h
    · unfold RWire.readOctets at h
      cases ht : RWire.readText b with
      | none => rw [ht] at h; cases h
      | some p =>
        rw [ht] at h
        cases h
        exact text_le (x := p.1) ht
    · unfold RWire.readWide at h
      cases hn : RWire.readNum 4 b with
      | none => rw [hn] at h; cases h
      | some p =>
        rw [hn] at h
        dsimp only at h
        cases hs : RWire.readSigns p.1 p.2 with
        | none => rw [hs] at h; cases h
        | some q =>
          rw [hs] at h
          dsimp only at h
          split at h
          · cases h
            refine Nat.le_trans ?_ (num_le (n := p.1) (rest := p.2) hn)
            have sl : ∀ (k : Nat) (c : List UInt8) (z : List UInt16 × List UInt8), RWire.readSigns k c = some z → z.2.length ≤ c.length := fun k => by
              induction k with
              | zero =>
                intro c z h
                unfold RWire.readSigns at h
                cases h
                exact Nat.le_refl _
              | succ k ihk =>
                intro c z h
                rcases c with _ | ⟨a, _ | ⟨a2, c⟩⟩
                · unfold RWire.readSigns at h; cases h
                · unfold RWire.readSigns at h; cases h
                · unfold RWire.readSigns at h
                  cases hz : RWire.readSigns k c with
                  | none => rw [hz] at h; cases h
                  | some y =>
                    rw [hz] at h
                    cases h
                    have := ihk c y hz
                    show y.2.length ≤ _
                    rw [List.length_cons, List.length_cons]
                    omega
            exact sl _ _ _ hs
          · cases h
    · cases h
theorem s_yin {H : Hp} {Q : VK} {K : PySem.W.Frag} {x : V} {t : Addr} {xs : List V} (h : SqT K H t xs) (h1 : flatV x = true) (h2 : xs.all flatV = true) (q : Q (.bl (inV x xs)) H) : rIn K false x (.ref t) H Q := ⟨t, xs, rfl, .inr h, h1, h2, q⟩
theorem in23 {k : Nat} : inV (natV k) [.int 2, .int 3] = decide (k = 2 ∨ k = 3) := by
  show ((2 : Int) == (k : Int) || ((3 : Int) == (k : Int) || false)) = _
  rw [Bool.eq_iff_iff]
  simp
  omega
/-- a list comprehension whose elements write r -/
theorem lc_kr {α : Type} {K : PySem.W.Frag} {r : Addr} {J : It} {Y : Nat → Hp → V → Hp → Prop} {g : TG} {tt : TT} {te : TE} {vs : List Nat} {σ : L2.St} {Q : VK} {H1 : Hp} {n : Nat} (l : List α) (w : L2.Walk J n (fun _ => True) Y) (hl : n = l.length) (hn : n ≤ 1000000) (P : α → V → Hp → Prop) (I : Nat → Hp → Prop)
    (hr : H1 r ≠ none) (hI : ∀ i H H', I i H → Ex H H' → I i H') (hI2 : ∀ i H D o, I i H → H1 D = none → I i (upd H D o)) (h0 : I 0 H1)
    (hP : ∀ a y H H', P a y H → TX K H H' → P a y H') (hR : ∀ i H, I i H → ∃ C dx fs, H r = some (.ins C dx fs))
    (hs : ∀ i a x H H' (k1 : V → Hp → Prop) (k2 : Hp → Prop), l[i]? = some a → Kr r H1 H → I i H → Y i H x H' → (∀ y H4, Kr r H H4 → I (i + 1) H4 → P a y H4 → k1 y H4) →
      g x (wipe σ vs) H' fun σ2 H2 => wipe σ2 vs = wipe σ vs ∧ tt σ2 H2 fun b H3 => if b = true then te σ2 H3 k1 else k2 H3)
    (hq : ∀ D H' acc, H1 D = none → Kr r H1 H' → I l.length H' → H' D = some (.lst acc) → All2 (fun a y => P a y H') l acc → Q (.ref D) H') : XLc J g tt te vs σ Q H1 := by
  subst hl
  intro D hD
  have hDr : D ≠ r := fun z => hr (by rw [← z]; exact hD)
  refine lc_it w (fun i H => Kr r H1 H ∧ I i H ∧ ∃ acc, H D = some (.lst acc) ∧ acc.length ≤ i ∧ All2 (fun a y => P a y H) (l.take i) acc) ⟨Kr.of (Ex.new hD), hI2 _ _ _ _ h0 hD, [], upd_same, Nat.le_refl _, trivial⟩ (fun _ _ _ _ => trivial) (fun i x H H' hi q y => ?_) (fun H q => ?_)
  · obtain ⟨e, hi0, acc, ha, hl, hr2⟩ := q
    have hla : l[i]? = some l[i] := by simp [hi]
    refine hs i l[i] x H H' _ _ hla e hi0 y (fun z H4 e4 hi4 hz => ?_)
    have h4 := e4 D _ hDr ha
    have sz : acc.length < sizeLine := Nat.lt_of_le_of_lt (Nat.le_trans hl (Nat.le_trans (Nat.le_of_lt hi) hn)) (by decide)
    have t4 : TX K H4 (upd H4 D (.lst (acc ++ [z]))) := tx_upd h4 rfl
    have u4 : Kr r H1 (upd H4 D (.lst (acc ++ [z]))) := fun b u hb hu => by
      rw [upd_ne (fun q => by rw [q, hD] at hu; cases hu)]
      exact e4 _ _ hb (e _ _ hb hu)
    refine ⟨acc, h4, sz, u4, hI2 _ _ _ _ hi4 hD, _, upd_same, by rw [List.length_append, List.length_singleton]; omega, ?_⟩
    rw [take_snoc hla]
    exact All2.snoc (hr2.mono fun a y h => hP a y _ _ (hP a y _ _ h (Kr.tx e4 (hR i H hi0))) t4) (hP _ _ _ _ hz t4)
  · obtain ⟨e, hi0, acc, ha, _, hr2⟩ := q
    rw [List.take_length] at hr2
    exact hq D H acc hD e hi0 ha hr2
def t_Request_value (K : PySem.W.Frag) (n : Nat) : TS :=
  (tSeq (tAsg (tMeth (cA K "Request") "give_number" (sp_Request_give_number K) [] E0 (tVar 0) (tCons (tC (.int 1)) tNil)) (gName 1))
  (tSeq (tIfS (tTest (tOp rEq (tVar 1) (tC (.int 0)))) (tRet (tC (.ref (cA K "NOTHING")))) tNext)
  (tSeq (tIfS (tTest (tOp rEq (tVar 1) (tC (.int 1)))) (tRet (tC (.ref (cA K "NULL")))) tNext)
  (tSeq (tIfS (tTest (tOp (rIn K false) (tVar 1) (tTup (tCons (tC (.int 2)) (tCons (tC (.int 3)) tNil))))) (tRet (tTup (tCons (tC (.str "boolean")) (tCons (tOp rEq (tVar 1) (tC (.int 3))) tNil)))) tNext)
  (tSeq (tIfS (tTest (tOp rEq (tVar 1) (tC (.int 4)))) (tSeq (tAsg (tMeth (cA K "Request") "give_number" (sp_Request_give_number K) [] E0 (tVar 0) (tCons (tC (.int 8)) tNil)) (gName 5))
  (tRet (tTup (tCons (tC (.str "integer")) (tCons (tIf (tTest (tOp rrLt (tVar 5) (tOp rrShl (tC (.int 1)) (tC (.int 63))))) (tVar 5) (tOp rrSub (tVar 5) (tOp rrShl (tC (.int 1)) (tC (.int 64))))) tNil))))) tNext)
  (tSeq (tAsg (tMeth (cA K "Request") "give_number" (sp_Request_give_number K) [] E0 (tVar 0) (tCons (tC (.int 4)) tNil)) (gName 2))
  (tSeq (tIfS (tTest (tOp rEq (tVar 1) (tC (.int 6)))) (tRet (tTup (tCons (tC (.str "text")) (tCons (tCB (rTupS K) (tCons (tMeth (cA K "Request") "take" (sp_Request_take K) [] E0 (tVar 0) (tCons (tVar 2) tNil)) tNil)) tNil)))) tNext)
  (tSeq (tIfS (tTest (tOp rEq (tVar 1) (tC (.int 7)))) (tRet (tTup (tCons (tC (.str "list")) (tCons (tCB (rTupS K) (tCons (tLc (iRng1 (tCons (tVar 2) tNil)) (gName 4) tYes (tMeth (cA K "Request") "value" (sp_Request_value K n) [] E0 (tVar 0) tNil) [4]) tNil)) tNil)))) tNext)
  (tSeq (tAsg (tLst tNil) (gName 3))
  (tSeq (tFor (iRng1 (tCons (tVar 2) tNil)) (gName 4) (tSeq (tAsg (tCB (rTupS K) (tCons (tMeth (cA K "Request") "take" (sp_Request_take K) [] E0 (tVar 0) (tCons (tMeth (cA K "Request") "give_number" (sp_Request_give_number K) [] E0 (tVar 0) (tCons (tC (.int 4)) tNil)) tNil)) tNil)) (gName 6))
  (tDrop (tBM K "list" rAppend (tVar 3) (tCons (tTup (tCons (tVar 6) (tCons (tMeth (cA K "Request") "value" (sp_Request_value K n) [] E0 (tVar 0) tNil) tNil))) tNil)))))
  (tRet (tTup (tCons (tC (.str "record")) (tCons (tCB (rTupS K) (tCons (tVar 3) tNil)) tNil))))))))))))))
section
variable {P : Program} {w : World} {K : PySem.W.Frag} {mg : Str → Option Value} {base : Heap}
theorem pure_Request_value (T : Tx K mg) (n : Nat) (vs : List V) (H : Hp) (Q : VK) (E : XK) (h : sp_Request_value K (n + 1) vs H Q E) : t_Request_value K n { nx := fun _ H' => Q .non H', rt := Q } (start ["self", "kind", "many", "pairs", "turn", "number", "name"] vs) H := by
  obtain ⟨_, R, b, v, rest, rfl, hlen, hR, hf, hv, q⟩ := h
  have oR := hR.ins
  obtain ⟨C0, dx0, fs0, o0⟩ := id oR
  obtain ⟨_, m0, hm0, hb0, ho0⟩ := id hR
  cases b with
  | nil =>
    unfold RWire.readF at hf
    cases hf
  | cons kd b =>
  have hf : RWire.readKind (RWire.readF n) kd.toNat b = some (v, rest) := hf
  have h1 : RWire.readNum 1 (kd :: b) = some (kd.toNat, b) := rfl
  unfold t_Request_value
  walk_at "ev"
  refine s_xm ho0 rfl ?_
  walk_at "ev"
  refine ⟨rfl, R, 1, kd :: b, _, _, rfl, hR, h1, fun H1 k1 hR1 => ?_⟩
  generalize hkd : kd.toNat = kn at *
  walk_at "ev"
  refine ite_num (k := 0) (fun e => ?_) (fun e0 => ?_)
  · subst e
    cases hf
    walk_at "ev"
    exact q _ H1 k1 hR1 (by unfold VAt; exact He.tupB_ok (T.ex 0) H1)
  walk_at "ev"
  refine ite_num (k := 1) (fun e => ?_) (fun e1 => ?_)
  · subst e
    cases hf
    walk_at "ev"
    exact q _ H1 k1 hR1 (by unfold VAt; exact He.tupB_ok (T.ex 1) H1)
  walk_at "ev"
  rename_i tq H2 _ x2 h2
  refine s_yin (st_of h2) rfl rfl ?_
  rw [in23]
  have k2 := k1.trans (Kr.of x2)
  have hR2 := hR1.ex x2
  walk_at "ev"
  refine ite_b (fun e => ?_) (fun e23 => ?_)
  · have e := of_decide_eq_true e
    have ev : ∃ b0, v = .bool b0 ∧ rest = b ∧ decide (natV kn = natV 3) = b0 := by
      rcases e with rfl | rfl
      · cases hf
        exact ⟨false, rfl, rfl, rfl⟩
      · cases hf
        exact ⟨true, rfl, rfl, rfl⟩
    obtain ⟨b0, rfl, rfl, eb⟩ := ev
    walk_at "ev"
    rename_i t3 H3 _ x3 h3
    refine q t3 H3 (k2.trans (Kr.of x3)) (hR2.ex x3) ?_
    have h3 : H3 t3 = some (.tup [.str "boolean", .bl (decide (natV kn = natV 3))]) := h3
    rw [eb] at h3
    unfold VAt
    exact st_of h3
  have e23 := of_decide_eq_false e23
  have oR2 := hR2.ins
  obtain ⟨_, m2, _, _, ho2⟩ := id hR2
  walk_at "ev"
  refine ite_num (k := 4) (fun e => ?_) (fun e4 => ?_)
  · subst e
    have hf : RWire.readInt b = some (v, rest) := hf
    unfold RWire.readInt at hf
    cases hn8 : RWire.readNum 8 b with
    | none => rw [hn8] at hf; cases hf
    | some p8 =>
      obtain ⟨x8, r8⟩ := p8
      rw [hn8] at hf
      dsimp only at hf
      by_cases hc : Nat.ble (RWire.intOf x8).natAbs RWire.intMost = true
      · rw [if_pos hc] at hf
        cases hf
        walk_at "ev"
        refine s_xm ho2 rfl ?_
        walk_at "ev"
        refine ⟨rfl, R, 8, b, x8, rest, rfl, hR2, hn8, fun H3 k3 hR3 => ?_⟩
        walk_at "ev"
        have hlt : decide ((x8 : Int) < 1 * 2 ^ (63 : Int).toNat) = decide (x8 < 9223372036854775808) := by
          rw [Bool.eq_iff_iff]
          simp only [decide_eq_true_eq]
          show (x8 : Int) < 9223372036854775808 ↔ _
          omega
        have fin : ∀ i t H', Ex H3 H' → H' t = some (.tup [.str "integer", .int i]) → i = RWire.intOf x8 → Q (.ref t) H' := fun i t4 H4 x4 h4 hi => by
          refine q t4 H4 ((k2.trans k3).trans (Kr.of x4)) (hR3.ex x4) ?_
          rw [hi] at h4
          unfold VAt
          exact st_of h4
        show (if decide ((x8 : Int) < 1 * 2 ^ (63 : Int).toNat) = true then _ else _)
        rw [hlt]
        refine ite_b (fun c => ?_) (fun c => ?_)
        · walk_at "ev"
          rename_i t4 H4 _ x4 h4
          refine fin _ t4 H4 x4 h4 ?_
          unfold RWire.intOf
          rw [if_pos c]
          rfl
        · walk_at "ev"
          rename_i t4 H4 _ x4 h4
          refine fin _ t4 H4 x4 h4 ?_
          unfold RWire.intOf
          rw [if_neg (by rw [c]; exact Bool.false_ne_true)]
          have e64 : (1 : Int) * 2 ^ (64 : Int).toNat = RWire.wordMost := by decide
          show (x8 : Int) - 1 * 2 ^ (64 : Int).toNat = _
          rw [e64]
          rfl
      · rw [if_neg hc] at hf
        cases hf
  have hlim : b.length ≤ 100000 := by
    have h0 : (R.l.drop m0).length = (kd :: b).length := congrArg List.length hb0
    rw [List.length_drop, List.length_cons] at h0
    omega
  have kinds : (kn = 6 ∧ RWire.readWords b = some (v, rest)) ∨ (kn = 7 ∧ RWire.readList (RWire.readF n) b = some (v, rest)) ∨ (kn = 8 ∧ RWire.readRecord (RWire.readF n) b = some (v, rest)) := by
    unfold RWire.readKind at hf
    split at hf
    case h_1 => exact absurd rfl e0
    case h_2 => exact absurd rfl e1
    case h_3 => exact absurd (.inl rfl) e23
    case h_4 => exact absurd (.inr rfl) e23
    case h_5 => exact absurd rfl e4
    case h_6 =>
      exfalso
      unfold RWire.readBig at hf
      split at hf
      · cases hf
      · split at hf
        · cases hf
        · split at hf
          · cases hf
          · split at hf
            · cases hf
            · cases hf
              exact Bool.noConfusion (show false = true from hv.1)
    case h_7 => exact .inl ⟨rfl, hf⟩
    case h_8 => exact .inr (.inl ⟨rfl, hf⟩)
    case h_9 => exact .inr (.inr ⟨rfl, hf⟩)
    case h_10 =>
      exfalso
      unfold RWire.readOctets at hf
      split at hf
      · cases hf
      · cases hf
        exact Bool.noConfusion (show false = true from hv.2.1)
    case h_11 =>
      exfalso
      unfold RWire.readWide at hf
      split at hf
      · cases hf
      · split at hf
        · cases hf
        · split at hf
          · cases hf
            exact Bool.noConfusion (show false = true from hv.2.2)
          · cases hf
    case h_12 => cases hf
  have num4 : ∃ k4 r4, RWire.readNum 4 b = some (k4, r4) := by
    cases h4 : RWire.readNum 4 b with
    | some p => exact ⟨p.1, p.2, rfl⟩
    | none =>
      exfalso
      rcases kinds with ⟨_, h⟩ | ⟨_, h⟩ | ⟨_, h⟩
      · unfold RWire.readWords RWire.readText at h
        rw [h4] at h
        cases h
      · unfold RWire.readList at h
        rw [h4] at h
        cases h
      · unfold RWire.readRecord at h
        rw [h4] at h
        cases h
  obtain ⟨k4, r4, hn4⟩ := num4
  walk_at "ev"
  refine s_xm ho2 rfl ?_
  walk_at "ev"
  refine ⟨rfl, R, 4, b, k4, r4, rfl, hR2, hn4, fun H3 k3 hR3 => ?_⟩
  have k3 := k2.trans k3
  obtain ⟨_, m3, _, hb3, ho3⟩ := id hR3
  have hlim4 : r4.length ≤ 100000 := by
    rw [← hb3, List.length_drop]
    omega
  walk_at "ev"
  refine ite_num (k := 6) (fun e => ?_) (fun e6 => ?_)
  · subst e
    have hw : RWire.readWords b = some (v, rest) := by
      rcases kinds with ⟨_, h⟩ | ⟨z, _⟩ | ⟨z, _⟩
      · exact h
      · cases z
      · cases z
    unfold RWire.readWords RWire.readText at hw
    rw [hn4] at hw
    dsimp only at hw
    cases hft : RWire.front k4 r4 with
    | none => rw [hft] at hw; cases hw
    | some pt =>
      rw [hft] at hw
      cases hw
      walk_at "ev"
      refine s_xm ho3 rfl ?_
      walk_at "ev"
      refine ⟨rfl, R, k4, r4, pt.1, pt.2, rfl, hR3, hft, fun f H4 k4 hf4 h4 hR4 => ?_⟩
      walk_at "ev"
      refine s_tupL (sq_of h4) fun t5 H5 _ x5 h5 => ?_
      walk_at "ev"
      rename_i t6 H6 _ x6 h6
      refine q t6 H6 ((k3.trans k4).trans (Kr.of (Ex.trans x5 x6))) (hR4.ex (Ex.trans x5 x6)) ?_
      unfold VAt
      exact ⟨t5, st_of h6, st_of (x6 _ _ h5)⟩
  walk_at "ev"
  refine ite_num (k := 7) (fun e => ?_) (fun e7 => ?_)
  · subst e
    have hw : RWire.readList (RWire.readF n) b = some (v, rest) := by
      rcases kinds with ⟨z, _⟩ | ⟨_, h⟩ | ⟨z, _⟩
      · cases z
      · exact h
      · cases z
    unfold RWire.readList at hw
    rw [hn4] at hw
    dsimp only at hw
    cases hft : RWire.readMany (RWire.readF n) k4 r4 with
    | none => rw [hft] at hw; cases hw
    | some pt =>
      rw [hft] at hw
      cases hw
      obtain ⟨hrd, hrl⟩ := reads_of (xs := pt.1) (b2 := pt.2) hft
      have hcnt := reads_le (readF_lt n) hrd
      have hpn : H3 R.p ≠ none := fun z => by rw [hR3.1] at z; cases z
      have hrn : H3 R.r ≠ none := fun z => by rw [ho3] at z; cases z
      walk_at "ev"
      refine ⟨(k4 : Int), rfl, by omega, by omega, ?_⟩
      refine lc_kr (K := K) (r := R.r) pt.1 walk_range (by rw [hrl]; rfl) (by omega) (fun u y H => ∃ t, y = V.ref t ∧ VAt K H u t) (fun i H => ∃ c, RqAt K H R c ∧ Reads (RWire.readF n) c (pt.1.drop i) pt.2) hrn (fun i H H' h x => (by obtain ⟨c, h1, h2⟩ := h; exact ⟨c, h1.ex x, h2⟩))
        (fun i H D o h hD => ?_) ⟨r4, hR3, hrd⟩ (fun a y H H' h x => (by obtain ⟨t, h1, h2⟩ := h; exact ⟨t, h1, VAt.mono x _ _ h2⟩)) (fun i H h => (by obtain ⟨c, h1, _⟩ := h; exact h1.ins)) (fun i u x H4 H5 j1 j2 hi e4 hI hy f1 => ?_) (fun D H4 acc hD e4 hI hx ha => ?_)
      · obtain ⟨c, ⟨h1, m, h2, h3, h4⟩, h5⟩ := h
        exact ⟨c, ⟨by rw [upd_ne (fun z => hpn (by rw [z]; exact hD))]; exact h1, m, h2, h3, by rw [upd_ne (fun z => hrn (by rw [z]; exact hD))]; exact h4⟩, h5⟩
      · obtain ⟨rfl, rfl⟩ := hy
        obtain ⟨c, hRc, hrc⟩ := hI
        obtain ⟨d, hfd, hrd2⟩ := hrc.next hi
        obtain ⟨_, m5, _, _, ho5⟩ := id hRc
        refine ⟨rfl, ?_⟩
        walk_at "ev"
        refine s_xm ho5 rfl ?_
        walk_at "ev"
        exact ⟨rfl, R, c, u, d, rfl, hlen, hRc, hfd, fine_list hv u (List.mem_of_getElem? hi), fun a H6 k6 hR6 v6 => f1 _ _ k6 ⟨d, hR6, hrd2⟩ ⟨a, rfl, v6⟩⟩
      · obtain ⟨zs, rfl, hz⟩ := all2_vals (f := fun u => u) ha
        obtain ⟨c, hRc, hrc⟩ := hI
        rw [List.drop_length] at hrc
        have hrc := reads_end hrc
        subst hrc
        rw [List.map_id'] at hz
        walk_at "ev"
        refine s_tupL (sq_of hx) fun t5 H5 _ x5 h5 => ?_
        walk_at "ev"
        rename_i t6 H6 _ x6 h6
        refine q t6 H6 ((k3.trans e4).trans (Kr.of (Ex.trans x5 x6))) (hRc.ex (Ex.trans x5 x6)) ?_
        unfold VAt
        exact ⟨t5, zs, st_of h6, st_of (x6 _ _ h5), VAll.mono (TX.of (Ex.trans x5 x6)) _ _ hz⟩
  have hw : RWire.readRecord (RWire.readF n) b = some (v, rest) := by
    rcases kinds with ⟨z, _⟩ | ⟨z, _⟩ | ⟨_, h⟩
    · exact absurd z e6
    · exact absurd z e7
    · exact h
  unfold RWire.readRecord at hw
  rw [hn4] at hw
  dsimp only at hw
  cases hft : RWire.readMany (RWire.readEntry (RWire.readF n)) k4 r4 with
  | none => rw [hft] at hw; cases hw
  | some pt =>
    rw [hft] at hw
    dsimp only at hw
    by_cases hap : RWire.apart pt.1 = true
    · rw [if_pos hap] at hw
      cases hw
      obtain ⟨hrd, hrl⟩ := reads_of (xs := pt.1) (b2 := pt.2) hft
      have hcnt := reads_le (entry_lt (readF_lt n)) hrd
      have hpn : H3 R.p ≠ none := fun z => by rw [hR3.1] at z; cases z
      have hrn : H3 R.r ≠ none := fun z => by rw [ho3] at z; cases z
      walk_at "ev"
      rename_i P3 H4 hP3 x4 h4
      have pr : P3 ≠ R.r := fun z => hrn (by rw [← z]; exact hP3)
      have pp : P3 ≠ R.p := fun z => hpn (by rw [← z]; exact hP3)
      refine x_r1 (n := k4) (by omega) (fun i σ H' => Kr R.r H3 H' ∧ (∃ c, RqAt K H' R c ∧ Reads (RWire.readEntry (RWire.readF n)) c (pt.1.drop i) pt.2) ∧ (∃ es, H' P3 = some (.lst (es.map V.ref)) ∧ All2 (EAt K H') (pt.1.take i) es) ∧
          ∃ a4 a6, σ = [some (.ref R.r), some (natV kn), some (natV k4), some (.ref P3), a4, none, a6])
        ⟨Kr.of x4, ⟨r4, hR3.ex x4, hrd⟩, ⟨[], h4, trivial⟩, none, none, rfl⟩ (fun i σ H5 hi I => ?_) (fun σ H5 I => ?_)
      · obtain ⟨k5, ⟨c, hRc, hrc⟩, ⟨es, he, hes⟩, a4, a6, rfl⟩ := I
        have hi' : i < pt.1.length := by omega
        have hxi : pt.1[i]? = some pt.1[i] := by simp [hi']
        obtain ⟨d, hfd, hrd2⟩ := hrc.next hxi
        generalize pt.1[i] = en at hxi hfd
        unfold RWire.readEntry at hfd
        cases htx : RWire.readText c with
        | none => rw [htx] at hfd; cases hfd
        | some tp =>
          rw [htx] at hfd
          dsimp only at hfd
          cases hfv : RWire.readF n tp.2 with
          | none => rw [hfv] at hfd; cases hfd
          | some vp =>
            rw [hfv] at hfd
            cases hfd
            unfold RWire.readText at htx
            cases hnn : RWire.readNum 4 c with
            | none => rw [hnn] at htx; cases htx
            | some np =>
              rw [hnn] at htx
              dsimp only at htx
              obtain ⟨_, m5, _, _, ho5⟩ := id hRc
              walk_at "ev"
              refine s_xm ho5 rfl ?_
              walk_at "ev"
              refine s_xm ho5 rfl ?_
              walk_at "ev"
              refine ⟨rfl, R, 4, c, np.1, np.2, rfl, hRc, hnn, fun H6 k6 hR6 => ?_⟩
              walk_at "ev"
              refine ⟨rfl, R, np.1, np.2, tp.1, tp.2, rfl, hR6, htx, fun f H7 k7 hf7 h7 hR7 => ?_⟩
              walk_at "ev"
              refine s_tupL (sq_of h7) fun t8 H8 _ x8 h8 => ?_
              have kk : Kr R.r H5 H8 := (k6.trans k7).trans (Kr.of x8)
              have he8 := kk _ _ pr he
              have hR8 := hR7.ex x8
              obtain ⟨_, m8, _, _, ho8⟩ := id hR8
              walk_at "ev"
              refine s_xm ho8 rfl ?_
              walk_at "ev"
              refine ⟨rfl, R, tp.2, vp.1, vp.2, rfl, hlen, hR8, hfv, fine_ents hv _ (List.mem_of_getElem? hxi), fun a H9 k9 hR9 v9 => ?_⟩
              walk_at "ev"
              rename_i t10 H10 _ x10 h10
              have k10 : Kr R.r H5 H10 := (kk.trans k9).trans (Kr.of x10)
              have he10 := k10 _ _ pr he
              refine s_app he10 (by rw [List.length_map, ← hes.len, List.length_take]; omega) ?_
              walk_at "ev"
              have tt : TX K H10 (upd H10 P3 (.lst (es.map V.ref ++ [V.ref t10]))) := tx_upd he10 rfl
              have o5 := hRc.ins
              obtain ⟨rp, rm, rn, rb, ro⟩ := hR9.ex x10
              refine ⟨fun b u hb hu => ?_, ⟨vp.2, ⟨by rw [upd_ne (fun z => pp z.symm)]; exact rp, rm, rn, rb, by rw [upd_ne (fun z => pr z.symm)]; exact ro⟩, hrd2⟩, ⟨es ++ [t10], by rw [upd_same, List.map_append]; rfl, ?_⟩, _, _, rfl⟩
              · rw [upd_ne (fun z => by rw [z, hP3] at hu; cases hu)]
                exact k10 _ _ hb (k5 _ _ hb hu)
              · rw [take_snoc hxi]
                refine All2.snoc (hes.mono fun _ _ q => q.mono ((Kr.tx k10 o5).trans tt)) ⟨t8, a, tt _ _ (st_of h10), tt _ _ ?_, VAt.mono ((TX.of x10).trans tt) _ _ v9⟩
                exact st_of (x10 _ _ (k9 _ _ (ne_of h8 ho8 (fun z => nomatch z)) h8))
      · obtain ⟨k5, ⟨c, hRc, hrc⟩, ⟨es, he, hes⟩, a4, a6, rfl⟩ := I
        rw [← hrl, List.drop_length] at hrc
        rw [← hrl, List.take_length] at hes
        have hrc := reads_end hrc
        subst hrc
        walk_at "ev"
        refine s_tupL (sq_of he) fun t6 H6 _ x6 h6 => ?_
        walk_at "ev"
        rename_i t7 H7 _ x7 h7
        refine q t7 H7 ((k3.trans k5).trans (Kr.of (Ex.trans x6 x7))) (hRc.ex (Ex.trans x6 x7)) ?_
        unfold VAt
        exact ⟨t6, es, st_of h7, st_of (x7 _ _ h6), vents_iff.mpr (hes.mono fun _ _ q => q.mono (TX.of (Ex.trans x6 x7)))⟩
    · rw [if_neg hap] at hw
      cases hw
theorem ok_Request_value (T : Tx K mg) : ∀ n : Nat, Mp P w K mg base CX0 (cA K "Request") "value" ["self"] (n + 3) (sp_Request_value K n)
  | 0 => by
    obtain ⟨fd, F⟩ := T.fn 59 (p := ("Request", some "value")) (n := "value") (q := "Request.value") (st := s_Request_value)
    refine ⟨⟨_, fd, T.meth 122, F.bindsN fun _ _ _ _ _ _ us hl => match us, hl with | [_], _ => rfl, F.ok sc_Request_value (fun _ _ _ _ h => h.1) fun cdv A outer s H vs Q E hr h => (no_Request_value h).elim⟩⟩
  | n + 1 => by
    have IH := ok_Request_value T n
    obtain ⟨fd, F⟩ := T.fn 59 (p := ("Request", some "value")) (n := "value") (q := "Request.value") (st := s_Request_value)
    refine ⟨⟨_, fd, T.meth 122, F.bindsN fun _ _ _ _ _ _ us hl => match us, hl with | [_], _ => rfl, F.ok sc_Request_value (fun _ _ _ _ h => h.1) fun cdv A outer s H vs Q E hr h => ⟨t_Request_value K n, PSs.nox ?_, pure_Request_value T n vs H Q E h⟩⟩⟩
    exact (pss_cons (ps_set (i := 1) sc_Request_value.nd rfl (Or.inl rfl) (pe_mp (pv 0) (T.cls 116) (ok_Request_give_number T) (hr.mono (by omega)) pass0 (pa_cons pe_int pa_nil)))
      (pss_cons (ps_if (pt_cmpR op_eq (pv 1) pe_int (nomark _)) (pss_one (ps_ret (pe_glob rfl (T.glo 35) rfl))) pss_nil)
      (pss_cons (ps_if (pt_cmpR op_eq (pv 1) pe_int (nomark _)) (pss_one (ps_ret (pe_glob rfl (T.glo 36) rfl))) pss_nil)
      (pss_cons (ps_if (pt_cmpR op_in_seq (pv 1) (pe_tup (pa_cons pe_int (pa_cons pe_int pa_nil))) (by rfl)) (pss_one (ps_ret (pe_tup (pa_cons pe_str (pa_cons (pe_cmpR op_eq (pv 1) pe_int (nomark _)) pa_nil))))) pss_nil)
      (pss_cons (ps_if (pt_cmpR op_eq (pv 1) pe_int (nomark _)) (pss_cons (ps_set (i := 5) sc_Request_value.nd rfl (Or.inl rfl) (pe_mp (pv 0) (T.cls 116) (ok_Request_give_number T) (hr.mono (by omega)) pass0 (pa_cons pe_int pa_nil)))
      (pss_one (ps_ret (pe_tup (pa_cons pe_str (pa_cons (pe_ifExp (pt_cmpR op_lt (pv 5) (pe_op op_shl pe_int pe_int) (nomark _)) (pv 5) (pe_op op_sub (pv 5) (pe_op op_shl pe_int pe_int))) pa_nil)))))) pss_nil)
      (pss_cons (ps_set (i := 2) sc_Request_value.nd rfl (Or.inl rfl) (pe_mp (pv 0) (T.cls 116) (ok_Request_give_number T) (hr.mono (by omega)) pass0 (pa_cons pe_int pa_nil)))
      (pss_cons (ps_if (pt_cmpR op_eq (pv 1) pe_int (nomark _)) (pss_one (ps_ret (pe_tup (pa_cons pe_str (pa_cons (pe_callTy call_tuple_of (by rfl) (T.free 47) (by decide +kernel) (pa_cons (pe_mp (pv 0) (T.cls 116) (ok_Request_take T) (hr.mono (by omega)) pass0 (pa_cons (pv 2) pa_nil)) pa_nil)) pa_nil))))) pss_nil)
      (pss_cons (ps_if (pt_cmpR op_eq (pv 1) pe_int (nomark _)) (pss_one (ps_ret (pe_tup (pa_cons pe_str (pa_cons (pe_callTy call_tuple_of (by rfl) (T.free 47) (by decide +kernel) (pa_cons (pe_lc (own := [("turn", 4)]) (g := (gName 4)) (tt := tYes) rfl sc_Request_value.nd (pi_range1 (by rfl) (T.free 44) (pa_cons (pv 2) pa_nil)) (blkOk_by (own := [("turn", 4)]) (N := ["self", "kind", "many", "pairs", "turn", "number", "name"]) (sc := defScope s_Request_value) (by decide +kernel)) (fun _ _ _ _ _ => (pg_name (i := 4) sc_Request_value.nd rfl (Or.inl rfl))) (fun _ _ _ _ _ => pts_nil) (fun _ _ _ _ _ => (pe_mp0 (pv 0) (T.cls 116) IH (hr.mono (by omega)) pass0))) pa_nil)) pa_nil))))) pss_nil)
      (pss_cons (ps_set (i := 3) sc_Request_value.nd rfl (Or.inl rfl) (pe_lst pa_nil))
      (pss_cons (ps_for PassesOwn.never rfl (pi_range1 (by rfl) (T.free 44) (pa_cons (pv 2) pa_nil)) (pg_name (i := 4) sc_Request_value.nd rfl (Or.inl rfl)) (pss_cons (ps_set (i := 6) sc_Request_value.nd rfl (Or.inl rfl) (pe_callTy call_tuple_of (by rfl) (T.free 47) (by decide +kernel) (pa_cons (pe_mp (pv 0) (T.cls 116) (ok_Request_take T) (hr.mono (by omega)) pass0 (pa_cons (pe_mp (pv 0) (T.cls 116) (ok_Request_give_number T) (hr.mono (by omega)) pass0 (pa_cons pe_int pa_nil)) pa_nil)) pa_nil)))
      (pss_one (ps_expr (pe_bm PySem.F.plainAttrs_list PySem.F.slot_list_append PySem.F.type_list_append mt_append (pv 3) (pa_cons (pe_tup (pa_cons (pv 6) (pa_cons (pe_mp0 (pv 0) (T.cls 116) IH (hr.mono (by omega)) pass0) pa_nil))) pa_nil))))))
      (pss_one (ps_ret (pe_tup (pa_cons pe_str (pa_cons (pe_callTy call_tuple_of (by rfl) (T.free 47) (by decide +kernel) (pa_cons (pv 3) pa_nil)) pa_nil)))))))))))))))
end
end Dk
namespace Dk
open PySem PySem.Spec PyProof.Rows L2 Evl RZ
local macro_rules | `(tactic| walk_at "hp") => `(tactic| first | assumption | exact L2.upd_same | (apply Dk.Ex.at (by assumption); walk_at "hp"))
local macro_rules | `(tactic| walk_at "hq") => `(tactic| first | assumption | (apply Evl.sq_of; walk_at "hp") | (apply Evl.st_of; walk_at "hp") | (apply Evl.ex_l (by assumption); walk_at "hq") | (apply Evl.ex_t (by assumption); walk_at "hq"))
local macro_rules | `(tactic| walk_at "ex") => `(tactic| first | exact Evl.Ex.refl _ | assumption | (refine Evl.Ex.trans ?_ (by assumption); walk_at "ex"))
local macro_rules | `(tactic| walk_at "e1") => `(tactic| first
  | (with_reducible refine if_t ?_) | (with_reducible refine if_f ?_) | (with_reducible refine s_seq ?_) | (with_reducible refine s_asg ?_) | (with_reducible refine s_name ?_) | (with_reducible refine s_drop ?_) | (with_reducible refine s_ret ?_) | (with_reducible refine s_nil ?_) | (with_reducible refine s_cons ?_)
  | (with_reducible refine s_c ?_)
  | ((with_reducible refine' s_var ?h1 ?_); (case h1 => rfl))
  | (with_reducible refine s_op ?_) | (with_reducible refine s_call ?_) | (with_reducible refine s_cb ?_) | (with_reducible refine s_fld ?_) | (with_reducible refine s_tup ?_) | (with_reducible refine s_lst ?_) | (with_reducible refine s_meth ?_) | (with_reducible refine s_test ?_) | (with_reducible refine s_B ?_)
  | (with_reducible refine s_not ?_) | (with_reducible refine s_xb ?_) | (with_reducible refine s_if ?_) | (with_reducible refine s_ifS ?_) | (with_reducible refine s_next ?_) | (with_reducible refine s_sfld ?_)
  | (with_reducible refine s_I0 ?_) | ((with_reducible refine' s_I ?h1 ?_); (case h1 => first | exact ⟨by decide, by decide⟩ | exact .inr ⟨by decide, by decide⟩ | (show (0 : Int) < _; decide) | (show (0 : Int) ≤ _; first | decide | omega) | exact ⟨by omega, by omega⟩))
  | ((with_reducible refine' s_xf ?h1 ?h2 ?h3 ?h4 ?_); (case h1 => walk_at "hp"); (case h2 => exact Tx.clsK (by assumption) (by decide +kernel)); (case h3 => exact Tx.noatK (by assumption) (by decide +kernel)); (case h4 => rfl))
  | ((with_reducible refine' s_xs ?h1 ?h2 ?h3 ?h4 ?h5 ?_); (case h1 => walk_at "hp"); (case h2 => exact Tx.clsK (by assumption) (by decide +kernel)); (case h3 => exact Tx.noatK (by assumption) (by decide +kernel)); (case h4 => exact Dk.lt_ble rfl); (case h5 => rfl))
  | ((with_reducible refine' s_eq ?h1 ?_); (case h1 => rfl)) | ((with_reducible refine' s_ne ?h1 ?_); (case h1 => rfl)) | (with_reducible refine s_isN ?_)
  | ((with_reducible refine' s_xt ?h1 ?_); (case h1 => exact Nat.le_of_ble_eq_true rfl); intro _ _ _ _ _)
  | ((with_reducible refine' s_xl ?h1 ?_); (case h1 => exact Nat.le_of_ble_eq_true rfl); intro _ _ _ _ _)
  | ((with_reducible refine' s_lenL ?h1 ?_); (case h1 => walk_at "hq")) | ((with_reducible refine' s_lenT ?h1 ?_); (case h1 => walk_at "hq"))
  | ((with_reducible refine' s_ixL ?h1 ?h2 ?_); (case h1 => walk_at "hq"); (case h2 => first | assumption | exact atI_0 | exact atI_1 | rfl))
  | ((with_reducible refine' s_ixT ?h1 ?h2 ?_); (case h1 => walk_at "hq"); (case h2 => first | assumption | exact atI_0 | exact atI_1 | rfl))
  | (with_reducible refine s_or ?_) | (with_reducible refine s_and ?_)
  | ((with_reducible refine' s_nin ?h1 ?h2 ?h3 ?_); (case h1 => walk_at "hq"); (case h2 => rfl); (case h3 => rfl))
  | (with_reducible refine s_tru ?_)
  | (with_reducible refine s_ip ?_) | (with_reducible refine s_for1 ?_) | (with_reducible refine s_for2 ?_) | (with_reducible refine s_for3 ?_) | (with_reducible refine s_forL ?_) | (with_reducible refine s_forT ?_) | (with_reducible refine s_lcL ?_) | (with_reducible refine s_lcT ?_) | (with_reducible refine s_lcS ?_) | (with_reducible refine s_lcE ?_) | (with_reducible refine s_lcZ ?_) | (with_reducible refine s_lcZA ?_) | (with_reducible refine s_lcR ?_) | (with_reducible refine s_chain ?_) | (with_reducible refine s_av ?_) | (with_reducible refine s_ov ?_) | (with_reducible refine s_yes ?_) | (with_reducible refine s_tbm ?_) | (with_reducible refine s_ord ?_) | (with_reducible refine s_raise ?_) | (with_reducible refine s_fldaug ?_) | (with_reducible refine s_add ?_) | (with_reducible refine s_slc ?_) | (with_reducible refine s_part ?_) | (with_reducible refine x_p1 ?_) | (with_reducible refine s_nopart ?_)
  | ((with_reducible refine' x_bm ?h1 ?_); (case h1 => walk_at "hq")) | (with_reducible refine s_par1 ?_) | (with_reducible refine s_un ?_) | (with_reducible refine s_uI ?_))
local macro_rules | `(tactic| walk_at "ev") => `(tactic| repeat walk_at "e1")
/-! ### Request_call -/
abbrev s_Request_call : Stmt := inClass (top 33) 4
theorem sc_Request_call : FnScope ["self", "most", "door", "many", "found", "turn"] ["self", "most"] (defScope s_Request_call) := ⟨rfl, rfl, rfl, by decide +kernel, rfl, by decide +kernel, by decide +kernel⟩
-- rep (sp_Request_value K) => (sp_Request_value K 32)
-- rep (ok_Request_value T) => (ok_Request_value T 32)
def sp_Request_call (K : PySem.W.Frag) : Sp := fun vs H Q _ => vs.length = 2 ∧ ∃ R b door l, vs = [.ref R.r, .int 4] ∧ R.l.length ≤ 100000 ∧ RqAt K H R b ∧ RWire.readRequest b = some (door, l) ∧ (∀ v ∈ l, fineV v) ∧ l.length ≤ 4 ∧
  ∀ t p H', Kr R.r H H' → H' t = some (.tup [natV door, .ref p]) → Args K H' p (pad l) → Q (.ref t) H'
def t_Request_call (K : PySem.W.Frag) : TS :=
  (tSeq (tAsg (tMeth (cA K "Request") "give_number" (sp_Request_give_number K) [] E0 (tVar 0) (tCons (tC (.int 2)) tNil)) (gName 2))
  (tSeq (tAsg (tMeth (cA K "Request") "give_number" (sp_Request_give_number K) [] E0 (tVar 0) (tCons (tC (.int 1)) tNil)) (gName 3))
  (tSeq (tAsg (tLc (iRng1 (tCons (tVar 3) tNil)) (gName 5) tYes (tMeth (cA K "Request") "value" (sp_Request_value K 32) [] E0 (tVar 0) tNil) [5]) (gName 4))
  (tRet (tTup (tCons (tVar 2) (tCons (tOp rCat (tVar 4) (tOp rRep (tLst (tCons (tC (.ref (cA K "NOTHING"))) tNil)) (tOp rrSub (tVar 1) (tVar 3)))) tNil)))))))
section
variable {P : Program} {w : World} {K : PySem.W.Frag} {mg : Str → Option Value} {base : Heap}
theorem pure_Request_call (T : Tx K mg) (vs : List V) (H : Hp) (Q : VK) (E : XK) (h : sp_Request_call K vs H Q E) : t_Request_call K { nx := fun _ H' => Q .non H', rt := Q } (start ["self", "most", "door", "many", "found", "turn"] vs) H := by
  obtain ⟨_, R, b, door, l, rfl, hlen, hR, hf, hv, hl4, q⟩ := h
  rcases b with _ | ⟨b0, _ | ⟨b1, _ | ⟨b2, b⟩⟩⟩
  · cases hf
  · cases hf
  · cases hf
  have hf : (match RWire.readArgs b2.toNat b with
    | none => none
    | some l => some (b0.toNat + 256 * b1.toNat, l)) = some (door, l) := hf
  cases ha : RWire.readArgs b2.toNat b with
  | none => rw [ha] at hf; cases hf
  | some l' =>
    rw [ha] at hf
    cases hf
    unfold RWire.readArgs at ha
    cases hm : RWire.readMany (RWire.readF RWire.nestMost) b2.toNat b with
    | none => rw [hm] at ha; cases ha
    | some pm =>
      obtain ⟨xs, rb⟩ := pm
      rw [hm] at ha
      cases rb with
      | cons _ _ => cases ha
      | nil =>
        cases ha
        have hm : RWire.readMany (RWire.readF 32) b2.toNat b = some (l, []) := hm
        obtain ⟨hrd, hrl⟩ := reads_of hm
        have h1 : RWire.readNum 2 (b0 :: b1 :: b2 :: b) = some (b0.toNat + 256 * b1.toNat, b2 :: b) := rfl
        have h2 : RWire.readNum 1 (b2 :: b) = some (b2.toNat, b) := rfl
        obtain ⟨_, m0, _, _, ho0⟩ := id hR
        unfold t_Request_call
        walk_at "ev"
        refine s_xm ho0 rfl ?_
        walk_at "ev"
        refine ⟨rfl, R, 2, _, _, _, rfl, hR, h1, fun H1 k1 hR1 => ?_⟩
        obtain ⟨_, m1, _, _, ho1⟩ := id hR1
        walk_at "ev"
        refine s_xm ho1 rfl ?_
        walk_at "ev"
        refine ⟨rfl, R, 1, _, _, _, rfl, hR1, h2, fun H2 k2 hR2 => ?_⟩
        obtain ⟨_, m2, _, _, ho2⟩ := id hR2
        have hpn : H2 R.p ≠ none := fun z => by rw [hR2.1] at z; cases z
        have hrn : H2 R.r ≠ none := fun z => by rw [ho2] at z; cases z
        walk_at "ev"
        refine ⟨(b2.toNat : Int), rfl, by omega, by omega, ?_⟩
        refine lc_kr (K := K) (r := R.r) l walk_range (by rw [hrl]; rfl) (by omega) (fun u y H => ∃ t, y = V.ref t ∧ VAt K H u t) (fun i H => ∃ c, RqAt K H R c ∧ Reads (RWire.readF 32) c (l.drop i) []) hrn (fun i H H' h x => (by obtain ⟨c, h1, h2⟩ := h; exact ⟨c, h1.ex x, h2⟩))
          (fun i H D o h hD => ?_) ⟨b, hR2, hrd⟩ (fun a y H H' h x => (by obtain ⟨t, h1, h2⟩ := h; exact ⟨t, h1, VAt.mono x _ _ h2⟩)) (fun i H h => (by obtain ⟨c, h1, _⟩ := h; exact h1.ins)) (fun i u x H4 H5 j1 j2 hi e4 hI hy f1 => ?_) (fun D H4 acc hD e4 hI hx ha => ?_)
        · obtain ⟨c, ⟨h1, m, h2, h3, h4⟩, h5⟩ := h
          exact ⟨c, ⟨by rw [upd_ne (fun z => hpn (by rw [z]; exact hD))]; exact h1, m, h2, h3, by rw [upd_ne (fun z => hrn (by rw [z]; exact hD))]; exact h4⟩, h5⟩
        · obtain ⟨rfl, rfl⟩ := hy
          obtain ⟨c, hRc, hrc⟩ := hI
          obtain ⟨d, hfd, hrd2⟩ := hrc.next hi
          obtain ⟨_, m5, _, _, ho5⟩ := id hRc
          refine ⟨rfl, ?_⟩
          walk_at "ev"
          refine s_xm ho5 rfl ?_
          walk_at "ev"
          exact ⟨rfl, R, c, u, d, rfl, hlen, hRc, hfd, hv u (List.mem_of_getElem? hi), fun a H6 k6 hR6 v6 => f1 _ _ k6 ⟨d, hR6, hrd2⟩ ⟨a, rfl, v6⟩⟩
        · obtain ⟨zs, rfl, hz⟩ := all2_vals (f := fun u => u) ha
          rw [List.map_id'] at hz
          have hz := vall_iff.mp hz
          walk_at "ev"
          rename_i p5 H5 hp5 x5 h5
          refine ⟨p5, ((4 : Int) - (b2.toNat : Int)), [V.ref (cA K "NOTHING")], rfl, rfl, h5, by omega, by omega, ?_, fun p6 hp6 => ?_⟩
          · show 1 * ((4 : Int) - (b2.toNat : Int)).toNat ≤ sizeLine
            exact Nat.le_trans (show 1 * ((4 : Int) - (b2.toNat : Int)).toNat ≤ 4 by omega) (by decide)
          have x6 : Ex H5 (upd H5 p6 (.lst (List.replicate ((4 : Int) - (b2.toNat : Int)).toNat [V.ref (cA K "NOTHING")]).flatten)) := Ex.new hp6
          have h6 : (upd H5 p6 (.lst (List.replicate ((4 : Int) - (b2.toNat : Int)).toNat [V.ref (cA K "NOTHING")]).flatten)) p6 = some (.lst ((List.replicate (4 - l.length) (cA K "NOTHING")).map V.ref)) := by
            rw [upd_same, List.map_replicate]
            have e1 : ((4 : Int) - (b2.toNat : Int)).toNat = 4 - l.length := by rw [hrl]; omega
            rw [e1]
            have : ∀ k : Nat, (List.replicate k [V.ref (cA K "NOTHING")]).flatten = List.replicate k (V.ref (cA K "NOTHING")) := fun k => by
              induction k with
              | zero => rfl
              | succ k ih => rw [List.replicate_succ, List.replicate_succ, List.flatten_cons, ih]; rfl
            rw [this]
          generalize (upd H5 p6 (.lst (List.replicate ((4 : Int) - (b2.toNat : Int)).toNat [V.ref (cA K "NOTHING")]).flatten)) = H6 at x6 h6
          refine s_cat (x6 _ _ (x5 _ _ hx)) h6 (by rw [List.length_map, List.length_map, List.length_replicate, ← hz.len]; exact Nat.le_trans (show l.length + (4 - l.length) ≤ 4 by omega) (by decide)) fun p7 H7 _ x7 h7 => ?_
          walk_at "ev"
          rename_i t8 H8 _ x8 h8
          refine q t8 p7 H8 ((k1.trans (k2.trans e4)).trans (Kr.of (Ex.trans x5 (Ex.trans x6 (Ex.trans x7 x8))))) h8 ⟨zs ++ List.replicate (4 - l.length) (cA K "NOTHING"), ?_, ?_⟩
          · rw [List.map_append]
            exact sq_of (x8 _ _ h7)
          · unfold pad
            have : ∀ k : Nat, All2 (VAt K H8) (List.replicate k RWire.Value.nothing) (List.replicate k (cA K "NOTHING")) := fun k => by
              induction k with
              | zero => trivial
              | succ k ih => exact ⟨by unfold VAt; exact He.tupB_ok (T.ex 0) H8, ih⟩
            have ap : ∀ {l : List RWire.Value} {zs : List Addr} {l2 : List RWire.Value} {z2 : List Addr}, All2 (VAt K H8) l zs → All2 (VAt K H8) l2 z2 → All2 (VAt K H8) (l ++ l2) (zs ++ z2) := fun {l zs l2 z2} h1 h2 => by
              induction l generalizing zs with
              | nil =>
                cases zs with
                | nil => exact h2
                | cons _ _ => exact h1.elim
              | cons a l ih =>
                cases zs with
                | nil => exact h1.elim
                | cons b zs => exact ⟨h1.1, ih h1.2⟩
            exact ap (hz.mono fun _ _ q => q.ex (Ex.trans x5 (Ex.trans x6 (Ex.trans x7 x8)))) (this _)
theorem ok_Request_call (T : Tx K mg) : Mp P w K mg base CX0 (cA K "Request") "call" ["self", "most"] 37 (sp_Request_call K) := by
  obtain ⟨fd, F⟩ := T.fn 60 (p := ("Request", some "call")) (n := "call") (q := "Request.call") (st := s_Request_call)
  refine ⟨⟨_, fd, T.meth 123, F.bindsN fun _ _ _ _ _ _ us hl => match us, hl with | [_, _], _ => rfl, F.ok sc_Request_call (fun _ _ _ _ h => h.1) fun cdv A outer s H vs Q E hr h => ⟨t_Request_call K, PSs.nox ?_, pure_Request_call T vs H Q E h⟩⟩⟩
  exact (pss_cons (ps_set (i := 2) sc_Request_call.nd rfl (Or.inl rfl) (pe_mp (pv 0) (T.cls 116) (ok_Request_give_number T) (hr.mono (by decide)) pass0 (pa_cons pe_int pa_nil)))
    (pss_cons (ps_set (i := 3) sc_Request_call.nd rfl (Or.inl rfl) (pe_mp (pv 0) (T.cls 116) (ok_Request_give_number T) (hr.mono (by decide)) pass0 (pa_cons pe_int pa_nil)))
    (pss_cons (ps_setLc (i := 4) (own := [("turn", 5)]) (g := (gName 5)) (tt := tYes) rfl sc_Request_call.nd rfl rfl (sw_true rfl rfl rfl (by decide +kernel)) (pi_range1 (by rfl) (T.free 44) (pa_cons (pv 3) pa_nil)) (blkOk_by (own := [("turn", 5)]) (N := ["self", "most", "door", "many", "found", "turn"]) (sc := defScope s_Request_call) (by decide +kernel)) (fun _ _ _ _ _ => (pg_name (i := 5) sc_Request_call.nd rfl (Or.inl rfl))) (fun _ _ _ _ _ => pts_nil) (fun _ _ _ _ _ => (pe_mp0 (pv 0) (T.cls 116) (ok_Request_value T 32) (hr.mono (by omega)) pass0)))
    (pss_one (ps_ret (pe_tup (pa_cons (pv 2) (pa_cons (pe_op op_cat (pv 4) (pe_op op_rep (pe_lst (pa_cons (pe_glob rfl (T.glo 35) rfl) pa_nil)) (pe_op op_sub (pv 1) (pv 3)))) pa_nil))))))))
end
end Dk
namespace Dk
open PySem PySem.Spec PyProof.Rows L2 Evl RZ
local macro_rules | `(tactic| walk_at "hp") => `(tactic| first | assumption | exact L2.upd_same | (apply Dk.Ex.at (by assumption); walk_at "hp"))
local macro_rules | `(tactic| walk_at "hq") => `(tactic| first | assumption | (apply Evl.sq_of; walk_at "hp") | (apply Evl.st_of; walk_at "hp") | (apply Evl.ex_l (by assumption); walk_at "hq") | (apply Evl.ex_t (by assumption); walk_at "hq"))
local macro_rules | `(tactic| walk_at "ex") => `(tactic| first | exact Evl.Ex.refl _ | assumption | (refine Evl.Ex.trans ?_ (by assumption); walk_at "ex"))
local macro_rules | `(tactic| walk_at "e1") => `(tactic| first
  | (with_reducible refine if_t ?_) | (with_reducible refine if_f ?_) | (with_reducible refine s_seq ?_) | (with_reducible refine s_asg ?_) | (with_reducible refine s_name ?_) | (with_reducible refine s_drop ?_) | (with_reducible refine s_ret ?_) | (with_reducible refine s_nil ?_) | (with_reducible refine s_cons ?_)
  | (with_reducible refine s_c ?_)
  | ((with_reducible refine' s_var ?h1 ?_); (case h1 => rfl))
  | (with_reducible refine s_op ?_) | (with_reducible refine s_call ?_) | (with_reducible refine s_cb ?_) | (with_reducible refine s_fld ?_) | (with_reducible refine s_tup ?_) | (with_reducible refine s_lst ?_) | (with_reducible refine s_meth ?_) | (with_reducible refine s_test ?_) | (with_reducible refine s_B ?_)
  | (with_reducible refine s_not ?_) | (with_reducible refine s_xb ?_) | (with_reducible refine s_if ?_) | (with_reducible refine s_ifS ?_) | (with_reducible refine s_next ?_) | (with_reducible refine s_sfld ?_)
  | (with_reducible refine s_I0 ?_) | ((with_reducible refine' s_I ?h1 ?_); (case h1 => first | exact ⟨by decide, by decide⟩ | exact .inr ⟨by decide, by decide⟩ | (show (0 : Int) < _; decide) | (show (0 : Int) ≤ _; first | decide | omega) | exact ⟨by omega, by omega⟩))
  | ((with_reducible refine' s_xf ?h1 ?h2 ?h3 ?h4 ?_); (case h1 => walk_at "hp"); (case h2 => exact Tx.clsK (by assumption) (by decide +kernel)); (case h3 => exact Tx.noatK (by assumption) (by decide +kernel)); (case h4 => rfl))
  | ((with_reducible refine' s_xs ?h1 ?h2 ?h3 ?h4 ?h5 ?_); (case h1 => walk_at "hp"); (case h2 => exact Tx.clsK (by assumption) (by decide +kernel)); (case h3 => exact Tx.noatK (by assumption) (by decide +kernel)); (case h4 => exact Dk.lt_ble rfl); (case h5 => rfl))
  | ((with_reducible refine' s_eq ?h1 ?_); (case h1 => rfl)) | ((with_reducible refine' s_ne ?h1 ?_); (case h1 => rfl)) | (with_reducible refine s_isN ?_)
  | ((with_reducible refine' s_xt ?h1 ?_); (case h1 => exact Nat.le_of_ble_eq_true rfl); intro _ _ _ _ _)
  | ((with_reducible refine' s_xl ?h1 ?_); (case h1 => exact Nat.le_of_ble_eq_true rfl); intro _ _ _ _ _)
  | ((with_reducible refine' s_lenL ?h1 ?_); (case h1 => walk_at "hq")) | ((with_reducible refine' s_lenT ?h1 ?_); (case h1 => walk_at "hq"))
  | ((with_reducible refine' s_ixL ?h1 ?h2 ?_); (case h1 => walk_at "hq"); (case h2 => first | assumption | exact atI_0 | exact atI_1 | rfl))
  | ((with_reducible refine' s_ixT ?h1 ?h2 ?_); (case h1 => walk_at "hq"); (case h2 => first | assumption | exact atI_0 | exact atI_1 | rfl))
  | (with_reducible refine s_or ?_) | (with_reducible refine s_and ?_)
  | ((with_reducible refine' s_nin ?h1 ?h2 ?h3 ?_); (case h1 => walk_at "hq"); (case h2 => rfl); (case h3 => rfl))
  | (with_reducible refine s_tru ?_)
  | (with_reducible refine s_ip ?_) | (with_reducible refine s_for1 ?_) | (with_reducible refine s_for2 ?_) | (with_reducible refine s_for3 ?_) | (with_reducible refine s_forL ?_) | (with_reducible refine s_forT ?_) | (with_reducible refine s_lcL ?_) | (with_reducible refine s_lcT ?_) | (with_reducible refine s_lcS ?_) | (with_reducible refine s_lcE ?_) | (with_reducible refine s_lcZ ?_) | (with_reducible refine s_lcZA ?_) | (with_reducible refine s_lcR ?_) | (with_reducible refine s_chain ?_) | (with_reducible refine s_av ?_) | (with_reducible refine s_ov ?_) | (with_reducible refine s_yes ?_) | (with_reducible refine s_tbm ?_) | (with_reducible refine s_ord ?_) | (with_reducible refine s_raise ?_) | (with_reducible refine s_fldaug ?_) | (with_reducible refine s_add ?_) | (with_reducible refine s_slc ?_) | (with_reducible refine s_part ?_) | (with_reducible refine x_p1 ?_) | (with_reducible refine s_nopart ?_)
  | ((with_reducible refine' x_bm ?h1 ?_); (case h1 => walk_at "hq")) | (with_reducible refine s_par1 ?_) | (with_reducible refine s_un ?_) | (with_reducible refine s_uI ?_))
local macro_rules | `(tactic| walk_at "ev") => `(tactic| repeat walk_at "e1")
/-! ### value_octets -/
abbrev s_value_octets : Stmt := top 35
theorem sc_value_octets : FnScope ["value", "kind", "found", "one", "name"] ["value"] (defScope s_value_octets) := ⟨rfl, rfl, rfl, by decide +kernel, rfl, by decide +kernel, by decide +kernel⟩
-- rec
def sp_value_octets (K : PySem.W.Frag) (n : Nat) : Sp := fun vs H Q _ => vs.length = 1 ∧ ∃ a v, vs = [.ref a] ∧ VAt K H v a ∧ RWire.depth v ≤ n ∧ (RWire.write v).length ≤ 100000 ∧ ∀ p H', H p = none → Ex H H' → H' p = some (.lst ((RWire.write v).map octV)) → Q (.ref p) H'
theorem depth_pos : ∀ v : RWire.Value, 1 ≤ RWire.depth v
  | .list l => Nat.le_add_left 1 (RWire.depthMany l)
  | .record l => Nat.le_add_left 1 (RWire.depthEntries l)
  | .nothing => Nat.le_refl 1
  | .null => Nat.le_refl 1
  | .bool _ => Nat.le_refl 1
  | .int _ => Nat.le_refl 1
  | .big _ => Nat.le_refl 1
  | .text _ => Nat.le_refl 1
  | .octets _ => Nat.le_refl 1
  | .wide _ => Nat.le_refl 1
theorem no_value_octets {K : PySem.W.Frag} {vs : List V} {H : Hp} {Q : VK} {E : XK} (h : sp_value_octets K 0 vs H Q E) : False := by
  obtain ⟨_, a, v, _, hv, hd, _⟩ := h
  have : 1 ≤ RWire.depth v := depth_pos v
  omega
theorem if_ne {x y : V} {A B : Prop} (h : x ≠ y) (q : B) : if decide (x = y) = true then A else B := by
  rw [if_neg (by rw [decide_eq_false h]; exact Bool.false_ne_true)]
  exact q
theorem if_eq {x : V} {A B : Prop} (q : A) : if decide (x = x) = true then A else B := by
  rw [if_pos (decide_eq_true rfl)]
  exact q
theorem many_snoc (v : RWire.Value) : ∀ l : List RWire.Value, RWire.writeMany (l ++ [v]) = RWire.writeMany l ++ RWire.write v
  | [] => by
    show RWire.write v ++ [] = [] ++ RWire.write v
    rw [List.append_nil, List.nil_append]
  | a :: l => by
    show RWire.write a ++ RWire.writeMany (l ++ [v]) = (RWire.write a ++ RWire.writeMany l) ++ RWire.write v
    rw [many_snoc v l, List.append_assoc]
theorem ents_snoc (e : RWire.Text × RWire.Value) : ∀ l : List (RWire.Text × RWire.Value), RWire.writeEntries (l ++ [e]) = RWire.writeEntries l ++ (RWire.writeText e.1 ++ RWire.write e.2)
  | [] => by
    show RWire.writeText e.1 ++ (RWire.write e.2 ++ []) = [] ++ _
    rw [List.append_nil, List.nil_append]
  | a :: l => by
    show RWire.writeText a.1 ++ (RWire.write a.2 ++ RWire.writeEntries (l ++ [e])) = (RWire.writeText a.1 ++ (RWire.write a.2 ++ RWire.writeEntries l)) ++ _
    rw [ents_snoc e l, List.append_assoc, List.append_assoc]
theorem many_len {v : RWire.Value} : ∀ {l : List RWire.Value}, v ∈ l → (RWire.write v).length ≤ (RWire.writeMany l).length
  | a :: l, h => by
    show _ ≤ (RWire.write a ++ RWire.writeMany l).length
    rw [List.length_append]
    rcases List.mem_cons.mp h with rfl | h
    · omega
    · have := many_len h
      omega
theorem ents_len {e : RWire.Text × RWire.Value} : ∀ {l : List (RWire.Text × RWire.Value)}, e ∈ l → (RWire.writeText e.1).length + (RWire.write e.2).length ≤ (RWire.writeEntries l).length
  | a :: l, h => by
    show _ ≤ (RWire.writeText a.1 ++ (RWire.write a.2 ++ RWire.writeEntries l)).length
    rw [List.length_append, List.length_append]
    rcases List.mem_cons.mp h with rfl | h
    · omega
    · have := ents_len h
      omega
theorem many_take (l : List RWire.Value) (i : Nat) : (RWire.writeMany (l.take i)).length ≤ (RWire.writeMany l).length := by
  induction l generalizing i with
  | nil => rw [List.take_nil]; exact Nat.le_refl _
  | cons a l ih =>
    cases i with
    | zero => exact Nat.zero_le _
    | succ i =>
      show (RWire.write a ++ RWire.writeMany (l.take i)).length ≤ (RWire.write a ++ RWire.writeMany l).length
      rw [List.length_append, List.length_append]
      have := ih i
      omega
theorem ents_take (l : List (RWire.Text × RWire.Value)) (i : Nat) : (RWire.writeEntries (l.take i)).length ≤ (RWire.writeEntries l).length := by
  induction l generalizing i with
  | nil => rw [List.take_nil]; exact Nat.le_refl _
  | cons a l ih =>
    cases i with
    | zero => exact Nat.zero_le _
    | succ i =>
      show (RWire.writeText a.1 ++ (RWire.write a.2 ++ RWire.writeEntries (l.take i))).length ≤ (RWire.writeText a.1 ++ (RWire.write a.2 ++ RWire.writeEntries l)).length
      rw [List.length_append, List.length_append, List.length_append, List.length_append]
      have := ih i
      omega
theorem depth_many {v : RWire.Value} : ∀ {l : List RWire.Value}, v ∈ l → RWire.depth v ≤ RWire.depthMany l
  | a :: l, h => by
    show _ ≤ Nat.max (RWire.depth a) (RWire.depthMany l)
    rcases List.mem_cons.mp h with rfl | h
    · exact Nat.le_max_left _ _
    · exact Nat.le_trans (depth_many h) (Nat.le_max_right _ _)
theorem depth_ents {e : RWire.Text × RWire.Value} : ∀ {l : List (RWire.Text × RWire.Value)}, e ∈ l → RWire.depth e.2 ≤ RWire.depthEntries l
  | a :: l, h => by
    show _ ≤ Nat.max (RWire.depth a.2) (RWire.depthEntries l)
    rcases List.mem_cons.mp h with rfl | h
    · exact Nat.le_max_left _ _
    · exact Nat.le_trans (depth_ents h) (Nat.le_max_right _ _)
theorem s_catL {l c : Addr} {xs ys : List UInt8} {H : Hp} {Q : VK} (h : H l = some (.lst (xs.map octV))) (h2 : H c = some (.lst (ys.map octV))) (hz : xs.length + ys.length ≤ 1000000) (q : ∀ p H', H p = none → Ex H H' → H' p = some (.lst ((xs ++ ys).map octV)) → Q (.ref p) H') : rCat (.ref l) (.ref c) H Q :=
  s_cat h h2 (by rw [List.length_map, List.length_map]; exact Nat.le_trans hz (by decide)) fun p H' h1 h2 h3 => q p H' h1 h2 (by rw [h3, List.map_append])
def t_value_octets (K : PySem.W.Frag) (n : Nat) : TS :=
  (tSeq (tAsg (tOp (rIxT K) (tVar 0) (tC (.int 0))) (gName 1))
  (tSeq (tIfS (tTest (tOp rEq (tVar 1) (tC (.str "nothing")))) (tRet (tLst (tCons (tC (.int 0)) tNil))) tNext)
  (tSeq (tIfS (tTest (tOp rEq (tVar 1) (tC (.str "null")))) (tRet (tLst (tCons (tC (.int 1)) tNil))) tNext)
  (tSeq (tIfS (tTest (tOp rEq (tVar 1) (tC (.str "boolean")))) (tRet (tLst (tCons (tIf (tB (tOp (rIxT K) (tVar 0) (tC (.int 1)))) (tC (.int 3)) (tC (.int 2))) tNil))) tNext)
  (tSeq (tIfS (tTest (tOp rEq (tVar 1) (tC (.str "integer")))) (tRet (tOp rCat (tLst (tCons (tC (.int 4)) tNil)) (tCall (sp_number_octets K) [] E0 (tCons (tOp rrMod (tOp (rIxT K) (tVar 0) (tC (.int 1))) (tOp rrShl (tC (.int 1)) (tC (.int 64)))) (tCons (tC (.int 8)) tNil))))) tNext)
  (tSeq (tAsg (tCall (sp_number_octets K) [] E0 (tCons (tCB (rLenS K) (tCons (tOp (rIxT K) (tVar 0) (tC (.int 1))) tNil)) (tCons (tC (.int 4)) tNil))) (gName 2))
  (tSeq (tIfS (tTest (tOp rEq (tVar 1) (tC (.str "text")))) (tRet (tOp rCat (tOp rCat (tLst (tCons (tC (.int 6)) tNil)) (tVar 2)) (tCB (rListS K) (tCons (tOp (rIxT K) (tVar 0) (tC (.int 1))) tNil)))) tNext)
  (tSeq (tIfS (tTest (tOp rEq (tVar 1) (tC (.str "list")))) (tSeq (tFor (iTup K (tOp (rIxT K) (tVar 0) (tC (.int 1)))) (gName 3) (tDrop (tBM K "list" rExtend (tVar 2) (tCons (tCall (sp_value_octets K n) [] E0 (tCons (tVar 3) tNil)) tNil))))
  (tRet (tOp rCat (tLst (tCons (tC (.int 7)) tNil)) (tVar 2)))) tNext)
  (tSeq (tFor (iTup K (tOp (rIxT K) (tVar 0) (tC (.int 1)))) (gTup K 2 (gCons (gName 4) (gCons (gName 3) gNil))) (tDrop (tBM K "list" rExtend (tVar 2) (tCons (tOp rCat (tOp rCat (tCall (sp_number_octets K) [] E0 (tCons (tCB (rLenS K) (tCons (tVar 4) tNil)) (tCons (tC (.int 4)) tNil))) (tCB (rListS K) (tCons (tVar 4) tNil))) (tCall (sp_value_octets K n) [] E0 (tCons (tVar 3) tNil))) tNil))))
  (tRet (tOp rCat (tLst (tCons (tC (.int 8)) tNil)) (tVar 2))))))))))))
section
variable {P : Program} {w : World} {K : PySem.W.Frag} {mg : Str → Option Value} {base : Heap}
theorem pure_value_octets (T : Tx K mg) (n : Nat) (vs : List V) (H : Hp) (Q : VK) (E : XK) (h : sp_value_octets K (n + 1) vs H Q E) : t_value_octets K n { nx := fun _ H' => Q .non H', rt := Q } (start ["value", "kind", "found", "one", "name"] vs) H := by
  obtain ⟨_, a, v, rfl, hv, hd, hs, q⟩ := h
  unfold t_value_octets
  cases v
  case big i => unfold VAt at hv; exact hv.elim
  case octets i => unfold VAt at hv; exact hv.elim
  case wide i => unfold VAt at hv; exact hv.elim
  case nothing =>
    have hv : SqT K H a [.str "nothing"] := by unfold VAt at hv; exact hv
    walk_at "ev"
    refine if_eq ?_
    walk_at "ev"
    exact q _ _ ‹_› ‹_› ‹_›
  case null =>
    have hv : SqT K H a [.str "null"] := by unfold VAt at hv; exact hv
    walk_at "ev"
    refine if_ne (by decide) ?_
    walk_at "ev"
    refine if_eq ?_
    walk_at "ev"
    exact q _ _ ‹_› ‹_› ‹_›
  case bool b =>
    have hv : SqT K H a [.str "boolean", .bl b] := by unfold VAt at hv; exact hv
    walk_at "ev"
    refine if_ne (by decide) ?_
    walk_at "ev"
    refine if_ne (by decide) ?_
    walk_at "ev"
    refine if_eq ?_
    cases b with
    | true =>
      walk_at "ev"
      exact q _ _ ‹_› ‹_› ‹_›
    | false =>
      walk_at "ev"
      exact q _ _ ‹_› ‹_› ‹_›
  case int i =>
    have hv : SqT K H a [.str "integer", .int i] := by unfold VAt at hv; exact hv
    walk_at "ev"
    refine if_ne (by decide) ?_
    walk_at "ev"
    refine if_ne (by decide) ?_
    walk_at "ev"
    refine if_ne (by decide) ?_
    walk_at "ev"
    refine if_eq ?_
    walk_at "ev"
    rename_i p1 H1 hp1 x1 h1
    have hv1 := ex_t x1 hv
    try (refine s_ixT hv1 rfl ?_; walk_at "ev")
    have e64 : (1 : Int) * 2 ^ (64 : Int).toNat = RWire.wordMost := by decide
    have en : i % (1 * 2 ^ (64 : Int).toNat) = (((i % RWire.wordMost).toNat : Nat) : Int) := by
      rw [e64, Int.toNat_of_nonneg (Int.emod_nonneg _ (by decide))]
    refine ⟨rfl, (i % RWire.wordMost).toNat, 8, by show [V.int (i % (1 * 2 ^ (64 : Int).toNat)), V.int 8] = _; rw [en]; rfl, by decide, fun p2 H2 hp2 x2 h2 => ?_⟩
    refine s_catL (xs := [4]) (x2 _ _ h1) h2 (by rw [show (RWire.low 8 (i % RWire.wordMost).toNat).length = 8 from rfl]; decide) fun p3 H3 hp3 x3 h3 => ?_
    walk_at "ev"
    exact q p3 H3 (Ex.fr x1 (Ex.fr x2 hp3)) (Ex.trans x1 (Ex.trans x2 x3)) h3
  case text u =>
    have hv : ∃ p, SqT K H a [.str "text", .ref p] ∧ SqT K H p (u.map octV) := by unfold VAt at hv; exact hv
    obtain ⟨p, hv, hu⟩ := hv
    have hul : (RWire.write (.text u)).length = 1 + (4 + u.length) := by
      show (6 :: (RWire.low 4 u.length ++ u)).length = _
      rw [List.length_cons, List.length_append, show (RWire.low 4 u.length).length = 4 from rfl]
      omega
    walk_at "ev"
    refine if_ne (by decide) ?_
    walk_at "ev"
    refine if_ne (by decide) ?_
    walk_at "ev"
    refine if_ne (by decide) ?_
    walk_at "ev"
    refine if_ne (by decide) ?_
    walk_at "ev"
    rw [List.length_map]
    refine ⟨rfl, u.length, 4, rfl, by decide, fun p2 H2 hp2 x2 h2 => ?_⟩
    walk_at "ev"
    refine if_eq ?_
    walk_at "ev"
    rename_i p3 H3 hp3 x3 h3
    refine s_catL (xs := [6]) h3 (x3 _ _ h2) (by rw [show (RWire.low 4 u.length).length = 4 from rfl]; decide) fun p4 H4 hp4 x4 h4 => ?_
    have y4 := Ex.trans x2 (Ex.trans x3 x4)
    have hv4 := ex_t y4 hv
    have hu4 := ex_t y4 hu
    walk_at "ev"
    try (refine s_ixT hv4 rfl ?_; walk_at "ev")
    refine s_listT hu4 fun p5 H5 hp5 x5 h5 => ?_
    refine s_catL (x5 _ _ h4) h5 (by
      have e1 : ([6] ++ RWire.low 4 u.length).length = 5 := rfl
      rw [e1]
      omega) fun p6 H6 hp6 x6 h6 => ?_
    exact q p6 H6 (Ex.fr y4 (Ex.fr x5 hp6)) (Ex.trans y4 (Ex.trans x5 x6)) h6
  case list l =>
    have hv : ∃ p xs, SqT K H a [.str "list", .ref p] ∧ SqT K H p (xs.map V.ref) ∧ VAll K H l xs := by unfold VAt at hv; exact hv
    obtain ⟨p, xs, hv, hp, hl⟩ := hv
    have hl := vall_iff.mp hl
    have hd : RWire.depthMany l + 1 ≤ n + 1 := hd
    have hwl : (RWire.write (.list l)).length = 1 + (4 + (RWire.writeMany l).length) := by
      show (7 :: (RWire.low 4 l.length ++ RWire.writeMany l)).length = _
      rw [List.length_cons, List.length_append, show (RWire.low 4 l.length).length = 4 from rfl]
      omega
    walk_at "ev"
    refine if_ne (by decide) ?_
    walk_at "ev"
    refine if_ne (by decide) ?_
    walk_at "ev"
    refine if_ne (by decide) ?_
    walk_at "ev"
    refine if_ne (by decide) ?_
    walk_at "ev"
    rw [List.length_map, ← hl.len]
    refine ⟨rfl, l.length, 4, rfl, by decide, fun p2 H2 hp2 x2 h2 => ?_⟩
    walk_at "ev"
    refine if_ne (by decide) ?_
    have hv2 := ex_t x2 hv
    have hq2 := ex_t x2 hp
    walk_at "ev"
    refine if_eq ?_
    walk_at "ev"
    try (refine s_ixT hv2 rfl ?_; walk_at "ev")
    refine x_ft hq2 (fun i σ H' => Ex H H' ∧ H' p2 = some (.lst ((RWire.low 4 l.length ++ RWire.writeMany (l.take i)).map octV)) ∧ ∃ y, σ = [some (.ref a), some (.str "list"), some (.ref p2), y, none])
      ⟨x2, by rw [h2]; show _ = some (HO.lst ((RWire.low 4 l.length ++ []).map octV)); rw [List.append_nil], none, rfl⟩ (fun i σ H' _ P => ex_t P.1 hp) (fun i x σ H' hx P => ?_) (fun σ H' P => ?_)
    · obtain ⟨e, he, y, rfl⟩ := P
      obtain ⟨b, hb, rfl⟩ := map_get hx
      obtain ⟨u, hu, pu⟩ := hl.get hb
      have hm := List.mem_of_getElem? hu
      walk_at "ev"
      have h1 := many_len hm
      refine ⟨rfl, b, u, rfl, pu.ex e, Nat.le_trans (depth_many hm) (by omega), by omega, fun p3 H3 hp3 x3 h3 => ?_⟩
      walk_at "ev"
      have h4 := many_take l i
      refine s_ext (x3 _ _ he) h3 (by
        rw [List.length_map, List.length_map, List.length_append, show (RWire.low 4 l.length).length = 4 from rfl]
        omega) ?_
      walk_at "ev"
      refine ⟨Ex.mut (Ex.trans e x3) hp2, ?_, _, rfl⟩
      rw [upd_same, take_snoc hu, many_snoc, ← List.map_append, List.append_assoc]
    · obtain ⟨e, he, y, rfl⟩ := P
      rw [List.length_map, ← hl.len, List.take_length] at he
      walk_at "ev"
      rename_i p5 H5 hp5 x5 h5
      refine s_catL (xs := [7]) h5 (x5 _ _ he) (by
        rw [List.length_append, show (RWire.low 4 l.length).length = 4 from rfl]
        show 1 + _ ≤ _
        omega) fun p6 H6 hp6 x6 h6 => ?_
      exact q p6 H6 (Ex.fr e (Ex.fr x5 hp6)) (Ex.trans e (Ex.trans x5 x6)) h6
  case record l =>
    have hv : ∃ p xs, SqT K H a [.str "record", .ref p] ∧ SqT K H p (xs.map V.ref) ∧ VEnts K H l xs := by unfold VAt at hv; exact hv
    obtain ⟨p, xs, hv, hp, hl⟩ := hv
    have hl := vents_iff.mp hl
    have hd : RWire.depthEntries l + 1 ≤ n + 1 := hd
    have hwl : (RWire.write (.record l)).length = 1 + (4 + (RWire.writeEntries l).length) := by
      show (8 :: (RWire.low 4 l.length ++ RWire.writeEntries l)).length = _
      rw [List.length_cons, List.length_append, show (RWire.low 4 l.length).length = 4 from rfl]
      omega
    walk_at "ev"
    refine if_ne (by decide) ?_
    walk_at "ev"
    refine if_ne (by decide) ?_
    walk_at "ev"
    refine if_ne (by decide) ?_
    walk_at "ev"
    refine if_ne (by decide) ?_
    walk_at "ev"
    rw [List.length_map, ← hl.len]
    refine ⟨rfl, l.length, 4, rfl, by decide, fun p2 H2 hp2 x2 h2 => ?_⟩
    walk_at "ev"
    refine if_ne (by decide) ?_
    have hv2 := ex_t x2 hv
    have hq2 := ex_t x2 hp
    walk_at "ev"
    refine if_ne (by decide) ?_
    walk_at "ev"
    try (refine s_ixT hv2 rfl ?_; walk_at "ev")
    refine x_ft hq2 (fun i σ H' => Ex H H' ∧ H' p2 = some (.lst ((RWire.low 4 l.length ++ RWire.writeEntries (l.take i)).map octV)) ∧ ∃ y z, σ = [some (.ref a), some (.str "record"), some (.ref p2), y, z])
      ⟨x2, by rw [h2]; show _ = some (HO.lst ((RWire.low 4 l.length ++ []).map octV)); rw [List.append_nil], none, none, rfl⟩ (fun i σ H' _ P => ex_t P.1 hp) (fun i x σ H' hx P => ?_) (fun σ H' P => ?_)
    · obtain ⟨e, he, y, z, rfl⟩ := P
      obtain ⟨b, hb, rfl⟩ := map_get hx
      obtain ⟨u, hu, pu⟩ := hl.get hb
      obtain ⟨nm, vv, g1, g2, g3⟩ := pu
      have hm := List.mem_of_getElem? hu
      have h1 := ents_len hm
      have htl : (RWire.writeText u.1).length = 4 + u.1.length := by
        show (RWire.low 4 u.1.length ++ u.1).length = _
        rw [List.length_append, show (RWire.low 4 u.1.length).length = 4 from rfl]
      refine s_pair (ex_t e g1) ?_
      have g2e := ex_t e g2
      walk_at "ev"
      rw [List.length_map]
      refine ⟨rfl, u.1.length, 4, rfl, by decide, fun p3 H3 hp3 x3 h3 => ?_⟩
      walk_at "ev"
      refine s_listT (ex_t x3 g2e) fun p4 H4 hp4 x4 h4 => ?_
      refine s_catL (x4 _ _ h3) h4 (by
        rw [show (RWire.low 4 u.1.length).length = 4 from rfl]
        omega) fun p5 H5 hp5 x5 h5 => ?_
      have y5 := Ex.trans x3 (Ex.trans x4 x5)
      walk_at "ev"
      refine ⟨rfl, vv, u.2, rfl, (g3.ex e).ex y5, Nat.le_trans (depth_ents hm) (by omega), by omega, fun p6 H6 hp6 x6 h6 => ?_⟩
      refine s_catL (x6 _ _ h5) h6 (by
        have : (RWire.low 4 u.1.length ++ u.1).length = 4 + u.1.length := htl
        rw [this]
        omega) fun p7 H7 hp7 x7 h7 => ?_
      walk_at "ev"
      have y7 := Ex.trans y5 (Ex.trans x6 x7)
      have h8 := ents_take l i
      refine s_ext (y7 _ _ he) h7 (by
        have h9 : (RWire.low 4 u.1.length ++ u.1).length = 4 + u.1.length := htl
        rw [List.length_map, List.length_map, List.length_append, List.length_append, h9, show (RWire.low 4 l.length).length = 4 from rfl]
        omega) ?_
      walk_at "ev"
      refine ⟨Ex.mut (Ex.trans e y7) hp2, ?_, _, _, rfl⟩
      rw [upd_same, take_snoc hu, ents_snoc, ← List.map_append, List.append_assoc]
      rfl
    · obtain ⟨e, he, y, z, rfl⟩ := P
      rw [List.length_map, ← hl.len, List.take_length] at he
      walk_at "ev"
      rename_i p5 H5 hp5 x5 h5
      refine s_catL (xs := [8]) h5 (x5 _ _ he) (by
        rw [List.length_append, show (RWire.low 4 l.length).length = 4 from rfl]
        show 1 + _ ≤ _
        omega) fun p6 H6 hp6 x6 h6 => ?_
      exact q p6 H6 (Ex.fr e (Ex.fr x5 hp6)) (Ex.trans e (Ex.trans x5 x6)) h6
theorem ok_value_octets (T : Tx K mg) : ∀ n : Nat, Pk P w K mg base CX0 "value_octets" ["value"] (n + 2) (sp_value_octets K n)
  | 0 => by
    obtain ⟨fd, F⟩ := T.fn 15 (p := ("value_octets", none)) (n := "value_octets") (q := "value_octets") (st := s_value_octets)
    refine ⟨⟨_, fd, T.glo 15, F.kp, F.bindsN fun _ _ _ _ _ _ us hl => match us, hl with | [_], _ => rfl, F.ok sc_value_octets (fun _ _ _ _ h => h.1) fun cdv A outer s H vs Q E hr h => (no_value_octets h).elim⟩⟩
  | n + 1 => by
    have IH := ok_value_octets T n
    obtain ⟨fd, F⟩ := T.fn 15 (p := ("value_octets", none)) (n := "value_octets") (q := "value_octets") (st := s_value_octets)
    refine ⟨⟨_, fd, T.glo 15, F.kp, F.bindsN fun _ _ _ _ _ _ us hl => match us, hl with | [_], _ => rfl, F.ok sc_value_octets (fun _ _ _ _ h => h.1) fun cdv A outer s H vs Q E hr h => ⟨t_value_octets K n, PSs.nox ?_, pure_value_octets T n vs H Q E h⟩⟩⟩
    exact (pss_cons (ps_set (i := 1) sc_value_octets.nd rfl (Or.inl rfl) (pe_ix ix_tup (pv 0) pe_int (fun _ _ => rfl)))
      (pss_cons (ps_if (pt_cmpR op_eq (pv 1) pe_str (nomark _)) (pss_one (ps_ret (pe_lst (pa_cons pe_int pa_nil)))) pss_nil)
      (pss_cons (ps_if (pt_cmpR op_eq (pv 1) pe_str (nomark _)) (pss_one (ps_ret (pe_lst (pa_cons pe_int pa_nil)))) pss_nil)
      (pss_cons (ps_if (pt_cmpR op_eq (pv 1) pe_str (nomark _)) (pss_one (ps_ret (pe_lst (pa_cons (pe_ifExp (pt_val (pe_ix ix_tup (pv 0) pe_int (fun _ _ => rfl))) pe_int pe_int) pa_nil)))) pss_nil)
      (pss_cons (ps_if (pt_cmpR op_eq (pv 1) pe_str (nomark _)) (pss_one (ps_ret (pe_op op_cat (pe_lst (pa_cons pe_int pa_nil)) (pe_pk (ok_number_octets T) (hr.mono (by omega)) pass0 (pa_cons (pe_op op_mod (pe_ix ix_tup (pv 0) pe_int (fun _ _ => rfl)) (pe_op op_shl pe_int pe_int)) (pa_cons pe_int pa_nil)))))) pss_nil)
      (pss_cons (ps_set (i := 2) sc_value_octets.nd rfl (Or.inl rfl) (pe_pk (ok_number_octets T) (hr.mono (by omega)) pass0 (pa_cons (pe_callB call_len_seq (by rfl) (T.free 40) PySem.boot_len (pa_cons (pe_ix ix_tup (pv 0) pe_int (fun _ _ => rfl)) pa_nil)) (pa_cons pe_int pa_nil))))
      (pss_cons (ps_if (pt_cmpR op_eq (pv 1) pe_str (nomark _)) (pss_one (ps_ret (pe_op op_cat (pe_op op_cat (pe_lst (pa_cons pe_int pa_nil)) (pv 2)) (pe_callTy call_list_of (by rfl) (T.free 41) (by decide +kernel) (pa_cons (pe_ix ix_tup (pv 0) pe_int (fun _ _ => rfl)) pa_nil))))) pss_nil)
      (pss_cons (ps_if (pt_cmpR op_eq (pv 1) pe_str (nomark _)) (pss_cons (ps_for PassesOwn.never rfl (pi_tup (pe_ix ix_tup (pv 0) pe_int (fun _ _ => rfl))) (pg_name (i := 3) sc_value_octets.nd rfl (Or.inl rfl)) (pss_one (ps_expr (pe_bm PySem.F.plainAttrs_list PySem.F.slot_list_extend PySem.F.type_list_extend mt_extend (pv 2) (pa_cons (pe_pk IH (hr.mono (by omega)) pass0 (pa_cons (pv 3) pa_nil)) pa_nil)))))
      (pss_one (ps_ret (pe_op op_cat (pe_lst (pa_cons pe_int pa_nil)) (pv 2))))) pss_nil)
      (pss_cons (ps_for PassesOwn.never rfl (pi_tup (pe_ix ix_tup (pv 0) pe_int (fun _ _ => rfl))) (pg_tup rfl (pgs_cons (pg_name (i := 4) sc_value_octets.nd rfl (Or.inl rfl)) (pgs_cons (pg_name (i := 3) sc_value_octets.nd rfl (Or.inl rfl)) pgs_nil))) (pss_one (ps_expr (pe_bm PySem.F.plainAttrs_list PySem.F.slot_list_extend PySem.F.type_list_extend mt_extend (pv 2) (pa_cons (pe_op op_cat (pe_op op_cat (pe_pk (ok_number_octets T) (hr.mono (by omega)) pass0 (pa_cons (pe_callB call_len_seq (by rfl) (T.free 40) PySem.boot_len (pa_cons (pv 4) pa_nil)) (pa_cons pe_int pa_nil))) (pe_callTy call_list_of (by rfl) (T.free 41) (by decide +kernel) (pa_cons (pv 4) pa_nil))) (pe_pk IH (hr.mono (by omega)) pass0 (pa_cons (pv 3) pa_nil))) pa_nil)))))
      (pss_one (ps_ret (pe_op op_cat (pe_lst (pa_cons pe_int pa_nil)) (pv 2)))))))))))))
end
end Dk
namespace Dk
open PySem PySem.Spec PyProof.Rows L2 Evl RZ
local macro_rules | `(tactic| walk_at "hp") => `(tactic| first | assumption | exact L2.upd_same | (apply Dk.Ex.at (by assumption); walk_at "hp"))
local macro_rules | `(tactic| walk_at "hq") => `(tactic| first | assumption | (apply Evl.sq_of; walk_at "hp") | (apply Evl.st_of; walk_at "hp") | (apply Evl.ex_l (by assumption); walk_at "hq") | (apply Evl.ex_t (by assumption); walk_at "hq"))
local macro_rules | `(tactic| walk_at "ex") => `(tactic| first | exact Evl.Ex.refl _ | assumption | (refine Evl.Ex.trans ?_ (by assumption); walk_at "ex"))
local macro_rules | `(tactic| walk_at "e1") => `(tactic| first
  | (with_reducible refine if_t ?_) | (with_reducible refine if_f ?_) | (with_reducible refine s_seq ?_) | (with_reducible refine s_asg ?_) | (with_reducible refine s_name ?_) | (with_reducible refine s_drop ?_) | (with_reducible refine s_ret ?_) | (with_reducible refine s_nil ?_) | (with_reducible refine s_cons ?_)
  | (with_reducible refine s_c ?_)
  | ((with_reducible refine' s_var ?h1 ?_); (case h1 => rfl))
  | (with_reducible refine s_op ?_) | (with_reducible refine s_call ?_) | (with_reducible refine s_cb ?_) | (with_reducible refine s_fld ?_) | (with_reducible refine s_tup ?_) | (with_reducible refine s_lst ?_) | (with_reducible refine s_meth ?_) | (with_reducible refine s_test ?_) | (with_reducible refine s_B ?_)
  | (with_reducible refine s_not ?_) | (with_reducible refine s_xb ?_) | (with_reducible refine s_if ?_) | (with_reducible refine s_ifS ?_) | (with_reducible refine s_next ?_) | (with_reducible refine s_sfld ?_)
  | (with_reducible refine s_I0 ?_) | ((with_reducible refine' s_I ?h1 ?_); (case h1 => first | exact ⟨by decide, by decide⟩ | exact .inr ⟨by decide, by decide⟩ | (show (0 : Int) < _; decide) | (show (0 : Int) ≤ _; first | decide | omega) | exact ⟨by omega, by omega⟩))
  | ((with_reducible refine' s_xf ?h1 ?h2 ?h3 ?h4 ?_); (case h1 => walk_at "hp"); (case h2 => exact Tx.clsK (by assumption) (by decide +kernel)); (case h3 => exact Tx.noatK (by assumption) (by decide +kernel)); (case h4 => rfl))
  | ((with_reducible refine' s_xs ?h1 ?h2 ?h3 ?h4 ?h5 ?_); (case h1 => walk_at "hp"); (case h2 => exact Tx.clsK (by assumption) (by decide +kernel)); (case h3 => exact Tx.noatK (by assumption) (by decide +kernel)); (case h4 => exact Dk.lt_ble rfl); (case h5 => rfl))
  | ((with_reducible refine' s_eq ?h1 ?_); (case h1 => rfl)) | ((with_reducible refine' s_ne ?h1 ?_); (case h1 => rfl)) | (with_reducible refine s_isN ?_)
  | ((with_reducible refine' s_xt ?h1 ?_); (case h1 => exact Nat.le_of_ble_eq_true rfl); intro _ _ _ _ _)
  | ((with_reducible refine' s_xl ?h1 ?_); (case h1 => exact Nat.le_of_ble_eq_true rfl); intro _ _ _ _ _)
  | ((with_reducible refine' s_lenL ?h1 ?_); (case h1 => walk_at "hq")) | ((with_reducible refine' s_lenT ?h1 ?_); (case h1 => walk_at "hq"))
  | ((with_reducible refine' s_ixL ?h1 ?h2 ?_); (case h1 => walk_at "hq"); (case h2 => first | assumption | exact atI_0 | exact atI_1 | rfl))
  | ((with_reducible refine' s_ixT ?h1 ?h2 ?_); (case h1 => walk_at "hq"); (case h2 => first | assumption | exact atI_0 | exact atI_1 | rfl))
  | (with_reducible refine s_or ?_) | (with_reducible refine s_and ?_)
  | ((with_reducible refine' s_nin ?h1 ?h2 ?h3 ?_); (case h1 => walk_at "hq"); (case h2 => rfl); (case h3 => rfl))
  | (with_reducible refine s_tru ?_)
  | (with_reducible refine s_ip ?_) | (with_reducible refine s_for1 ?_) | (with_reducible refine s_for2 ?_) | (with_reducible refine s_for3 ?_) | (with_reducible refine s_forL ?_) | (with_reducible refine s_forT ?_) | (with_reducible refine s_lcL ?_) | (with_reducible refine s_lcT ?_) | (with_reducible refine s_lcS ?_) | (with_reducible refine s_lcE ?_) | (with_reducible refine s_lcZ ?_) | (with_reducible refine s_lcZA ?_) | (with_reducible refine s_lcR ?_) | (with_reducible refine s_chain ?_) | (with_reducible refine s_av ?_) | (with_reducible refine s_ov ?_) | (with_reducible refine s_yes ?_) | (with_reducible refine s_tbm ?_) | (with_reducible refine s_ord ?_) | (with_reducible refine s_raise ?_) | (with_reducible refine s_fldaug ?_) | (with_reducible refine s_add ?_) | (with_reducible refine s_slc ?_) | (with_reducible refine s_part ?_) | (with_reducible refine x_p1 ?_) | (with_reducible refine s_nopart ?_)
  | ((with_reducible refine' x_bm ?h1 ?_); (case h1 => walk_at "hq")) | (with_reducible refine s_par1 ?_) | (with_reducible refine s_un ?_) | (with_reducible refine s_uI ?_))
local macro_rules | `(tactic| walk_at "ev") => `(tactic| repeat walk_at "e1")
-- plain
/-! ### while an error is handled: a text, sign by sign, in a list comprehension -/
section
variable {P : Program} {w : World} {B : Around} {E : Value → Shared → Prop} {z : Shared}
/-- the iterator of a text has come to its end: a StopIteration comes and goes, its context is the error that is handled -/
theorem hot_text_end {a y : Addr} {x : Str} {t : Tok} {i : Nat} {Q : Option Value → Shared → Prop} (hot : HotX.HotAt B y z.heap) (hya : y ≠ a) (hit : z.heap.IsStrIter a "str_ascii_iterator" x t i) (hx : x.cps[i]? = none)
    (hQ : ∀ g, (∀ b o, b ≠ a → z.heap.get? b = some o → g.get? b = some o) → Q none { z with heap := g }) : wpAny (model P w) B (pyNext (.ref a)) Q E z := by
  obtain ⟨hh, o1, vs1, h1, d1, c1⟩ := hot
  obtain ⟨o, ho, hc, hd⟩ := id hit
  unfold pyNext
  refine wpAny_bind (wpAny_attempt (wpAny_callSpecial?_slot (name := Str.ofString "__next__") hit.typeIs F.slot_str_ascii_iterator_next (wpAny_call_entry F.slot_str_ascii_iterator_next hit.typeIs F.entry_str_ascii_iterator_next ?_ (F.args_str_ascii_iterator_next_1 _))))
  show wpAny _ _ (field (.ref a) 0 >>= _) _ _ z
  refine wpAny_bind (wpAny_field (x := .str x t) ho hd rfl ?_)
  show wpAny _ _ (field (.ref a) 1 >>= _) _ _ z
  refine wpAny_bind (wpAny_field (x := .int i 0) ho hd rfl ?_)
  simp only [Int.toNat_natCast, hx]
  have hs1 : (z.heap.update a (Obj.mapFields (·.setIfInBounds 0 Value.none))).get? y = some o1 := (Heap.get?_update_other _ _ hya.symm).trans h1
  refine wpAny_bind (wpAny_rule (wpAny_bind (wpAny_setField ho hd (by simp) (wpAny_bind (wpAny_letGo ?_)))))
  have up2 : ∀ {u v : Obj} {b : Addr} {q : Obj}, (z.heap.update a (Obj.mapFields (·.setIfInBounds 0 Value.none))).get? b = some q → (((z.heap.update a (Obj.mapFields (·.setIfInBounds 0 Value.none))).push u).push v).get? b = some q := fun hq => Heap.get?_push_of_some _ (Heap.get?_push_of_some _ hq)
  refine wpAny_bind ?_; simp only [newExc, newTuple]; refine wpAny_bind (wpAny_newObj_type ?_ (by size_fits))
  refine wpAny_bind (m := firstArgMember _ _) (wpAny_of_eq (a := Value.none) (by first | rfl | (simp only [firstArgMember] <;> rfl)) (wpAny_newObj_type ?_ (by size_fits)))
  refine HotX.raiseNew_hot (x1 := y) ⟨hh, o1, vs1, up2 hs1, d1, c1⟩ (Nat.ne_of_lt (Heap.lt_size (Heap.get?_push_of_some _ hs1))) (Heap.get?_push_size _ rfl) rfl (by first | (simp; done) | (simp; omega) | (simp only [Array.size_append]; simp; omega)) ?_
  refine wpAny_bind (wpAny_isInstance (b := true) (T := "StopIteration") ⟨_, Heap.get?_update_self _ (Heap.get?_push_size _ rfl) rfl, rfl⟩ isSubtype_stop (wpAny_pure (hQ _ fun b q hb hq => ?_)))
  have hq2 := (Heap.get?_update_other z.heap (Obj.mapFields (·.setIfInBounds 0 Value.none)) (Ne.symm hb)).trans hq
  rw [Heap.get?_update_other _ _ (Nat.ne_of_gt (Heap.lt_size (Heap.get?_push_of_some _ hq2)))]
  exact up2 hq2
end
/-- what such a comprehension asks -/
def tLcS (ti : TE) (g : TG) (te : TE) (ws : List Nat) : TE := fun σ H Q => ti σ H fun v H1 => ∃ x, v = .str x ∧ x.cps.all (· < 128) = true ∧ XLc (Its x) g tYes te ws σ Q H1
theorem pe_lcS {X : Cx} {elt tg iter : Expr} {sc : Scope} {own : List (Str × Nat)} {pos : Pos} {ti : TE} {g : TG} {te : TE} (hot : L2H.HotC X) (nd : X.N.Nodup) (hi : PE X iter ti) (ok : BlkOk X.N X.env.scope sc own)
    (hg : ∀ (s : Shared) (H : Hp) (C : Addr) (cl : List (Str × Addr)) (fp : List Addr), PG (X.blk s H sc (compEnvC sc cl C X.env) fp) tg g)
    (he : ∀ (s : Shared) (H : Hp) (C : Addr) (cl : List (Str × Addr)) (fp : List Addr), PE (X.blk s H sc (compEnvC sc cl C X.env) fp) elt te)
    (fs : ∀ x, foldedSetIterable iter X.env x = pure x := by intro _; rfl) : PE X (.ListComp elt [⟨tg, iter, [], 0⟩] sc pos) (tLcS ti g te (own.map (·.2))) := by
  refine ⟨fun pins s0 σ H Q I0 h => ?_⟩
  have fr : ∀ y ∈ sc.names, y.2 = .free → ∃ c, X.env.cells.lookup y.1 = some c := fun y hy e => (ok.free y hy e).elim (fun k => I0.ok.has _ (.inl k)) fun k => I0.ok.has _ (.inr k)
  obtain ⟨p, hp1, hp2⟩ := hot
  rw [eval_ListComp]
  refine wpAny_comprehension_free (use := none) rfl fs (closure_ok fr) ok.kind (fun y hy e => by rw [ok.uniq y hy, e]) (thn (hi.run pins s0 σ H _ I0 h) fun xv s1 ⟨v, H1, I1, rv, x, ev, ascii, q⟩ => ?_)
  subst ev
  obtain ⟨tk, rfl⟩ := rv
  have hA : X.A.handled = some (.ref p.1) := hp1.1
  have P1 := I1.pin p (List.mem_append_left _ hp2)
  -- the iterator
  refine wpAny_pyIter_ascii ascii ?_
  generalize hit : s1.heap.objs.size = it
  generalize hs2 : ({ s1 with heap := s1.heap.push { cls := .type "str_ascii_iterator", data := .fields #[.str x tk, .int 0 0] } } : Shared) = s2
  have g2 : s2.heap = s1.heap.push { cls := .type "str_ascii_iterator", data := .fields #[.str x tk, .int 0 0] } := by rw [← hs2]
  have I2 : Inv X pins σ H1 s2 := by
    rw [← hs2]
    exact I1.kept (t' := s1.toks) fun b u e => Heap.get?_push_of_some _ e
  have st2 : s2.heap.IsStrIter it "str_ascii_iterator" x tk 0 := by
    rw [g2, ← hit]
    exact ⟨_, Heap.get?_push_size _ rfl, rfl, rfl⟩
  have f2 : FpOk X pins H1 it := I1.fpOk (Nat.le_of_eq hit) (I1.hok.fresh (Nat.le_of_eq hit))
  have lit : it < s2.heap.objs.size := by rw [g2, Heap.size_push, ← hit]; exact Nat.lt_succ_self _
  have pit : p.1 ≠ it := fun e => f2.2.2.2.2.2 p (List.mem_append_left _ hp2) e
  have P2 : s2.heap.get? p.1 = some p.2 := (I2.pin p (List.mem_append_left _ hp2)).1
  -- the new list
  refine wpAny_newObj_type (newEnv_comp ?_) (by show 0 ≤ sizeLine; decide)
  generalize hD : s2.heap.objs.size = D
  have nD : H1 D = none := I2.hok.fresh (Nat.le_of_eq hD)
  obtain ⟨W, ⟨m0, w0⟩, turn⟩ := q D nD
  generalize hs3 : ({ s2 with heap := s2.heap.push { cls := .type "list", data := .seq ([] : List Value).toArray } } : Shared) = s3
  have g3 : s3.heap = s2.heap.push { cls := .type "list", data := .seq ([] : List Value).toArray } := by rw [← hs3]
  have I3 : Inv X pins σ (upd H1 D (.lst [])) s3 := by
    rw [← hs3]
    refine I2.laid (t' := s2.toks) (fun b u e => Heap.get?_push_of_some _ e) (Nat.le_of_eq hD) ⟨Nat.zero_le _, [], 0, .nil, ?_⟩
    rw [← hD]
    exact Heap.get?_push_size _ rfl
  have f3 : FpOk X pins (upd H1 D (.lst [])) it ∧ it < s3.heap.objs.size := ⟨⟨by rw [upd_ne (by rw [← hD]; exact Nat.ne_of_lt lit)]; exact f2.1, f2.2⟩, by rw [g3, Heap.size_push]; exact Nat.lt_succ_of_lt lit⟩
  have P3 : s3.heap.get? p.1 = some p.2 ∧ upd H1 D (.lst []) p.1 = none := by
    have := I3.pin p (List.mem_append_left _ hp2)
    exact ⟨this.1, this.2.1⟩
  have st3 : s3.heap.IsStrIter it "str_ascii_iterator" x tk 0 := by
    obtain ⟨o, e, r⟩ := st2
    exact ⟨o, by rw [g3]; exact Heap.get?_push_of_some _ e, r⟩
  have I4 := block_start (fp := [it]) I3 ok nd fun b hb => by
    rw [List.mem_singleton.mp hb]
    exact f3
  have pg := hg s3 (upd H1 D (.lst [])) s3.heap.objs.size (cellsFrom (s3.heap.objs.size + 1) sc.names (cloFrom X.env.cells sc.names [])) [it]
  have pe := he s3 (upd H1 D (.lst [])) s3.heap.objs.size (cellsFrom (s3.heap.objs.size + 1) sc.names (cloFrom X.env.cells sc.names [])) [it]
  show codeAny _ _ (.compStart (.ListComp elt [⟨tg, iter, [], 0⟩] sc pos) 0 (.ref it) (.ref D) (compEnvC sc (cellsFrom (s3.heap.objs.size + 1) sc.names (cloFrom X.env.cells sc.names [])) s3.heap.objs.size X.env)) (compPost (model X.prog X.w) X.A X.xe none _ (.ref D) s3.heap.objs.size) { s3 with heap := pushCells (s3.heap.push { cls := .type "dict", data := .dict #[] }) sc.names }
  have kp4 : ∀ b u, s3.heap.get? b = some u → (pushCells (s3.heap.push { cls := .type "dict", data := .dict #[] }) sc.names).get? b = some u := fun b u e => pushCells_keeps _ _ _ _ (Heap.get?_push_of_some _ e)
  generalize hce : compEnvC sc (cellsFrom (s3.heap.objs.size + 1) sc.names (cloFrom X.env.cells sc.names [])) s3.heap.objs.size X.env = ce at I4 pg pe ⊢
  have cL : ce.locals = s3.heap.objs.size := by subst hce; rfl
  generalize hH3 : upd H1 D (.lst []) = H3 at I3 I4 pg pe w0 f3 P3
  generalize hs4 : ({ s3 with heap := pushCells (s3.heap.push { cls := .type "dict", data := .dict #[] }) sc.names } : Shared) = s4 at I4 ⊢
  have st4 : s4.heap.IsStrIter it "str_ascii_iterator" x tk 0 := by
    obtain ⟨o, e, r⟩ := st3
    exact ⟨o, by rw [← hs4]; exact kp4 _ _ e, r⟩
  have P4 : s4.heap.get? p.1 = some p.2 := by
    rw [← hs4]
    exact kp4 _ _ P3.1
  have I4 : Inv (X.blk s3 H3 sc ce [it]) [p] (wipe σ (own.map (·.2))) H3 s4 := I4.pins_of fun r hr => by
    rw [List.mem_singleton.mp hr]
    refine ⟨P4, P3.2, fun e => ?_, fun hm => ?_, P1.2.2.2.2⟩
    · have e : p.1 = ce.locals := e
      rw [cL] at e
      exact absurd (Heap.lt_size P3.1) (by rw [e]; exact Nat.lt_irrefl _)
    · exact (List.mem_cons.mp (I3.stkSub p.1 hm)).elim P1.2.2.1 P1.2.2.2.1
  have stat : ∀ {σ' : L2.St} {H' : Hp} {s' : Shared}, Inv (X.blk s3 H3 sc ce [it]) [p] σ' H' s' → H' it = none → FpOk (X.blk s3 H3 sc ce [it]) [p] H' it := fun {σ' H' s'} J n =>
    ⟨n, (J.ok.exf it List.mem_cons_self).1, J.ok.exfs it List.mem_cons_self, .inl List.mem_cons_self, fun y c e => (J.ok.exf it List.mem_cons_self).2 y c e, fun r hr => by
      have : r = p := by simpa using (show r ∈ ([] : List (Addr × Obj)) ++ [p] from hr)
      rw [this]
      exact pit⟩
  have loop : codeAny (model X.prog X.w) X.A (.compLoop (.ListComp elt [⟨tg, iter, [], 0⟩] sc pos) 0 (.ref it) (.ref D) ce) (compPost (model X.prog X.w) X.A X.xe none (EP X pins σ Q) (.ref D) s3.heap.objs.size) s4 := by
    refine compLoop_any (fun n s' => ∃ i H', Inv (X.blk s3 H3 sc ce [it]) [p] (wipe σ (own.map (·.2))) H' s' ∧ s'.heap.IsStrIter it "str_ascii_iterator" x tk i ∧ H' it = none ∧ W i n H') ?_ m0 ⟨0, H3, I4, st4, f3.1.1, w0⟩
    rintro n s5 ⟨i, H5, I5, st5, n5, w5⟩
    have P5 : s5.heap.get? p.1 = some p.2 := (I5.pin p (List.mem_append_right _ List.mem_cons_self)).1
    obtain ⟨f0, f1, f9, f4, f5, f6⟩ := stat I5 n5
    rcases turn i n H5 w5 with ⟨stop, qq⟩ | ⟨go, Nx, hNx, step⟩
    · obtain ⟨vs1, d1, c1⟩ := hp1.2
      refine hot_text_end (y := p.1) ⟨hA, p.2, vs1, P5, d1, c1⟩ pit st5 (Array.getElem?_eq_none stop) fun g6 kp => ?_
      have I6 : Inv (X.blk s3 H3 sc ce [it]) [p] (wipe σ (own.map (·.2))) H5 { s5 with heap := g6 } := I5.turned (t' := s5.toks) kp f0 f1 f4 f5 f6
      have I7 : Inv X pins σ H5 { s5 with heap := g6 } := I3.call' (ch := [it]) I6.os I6.base I6.hok I6.bare fun b hb => by
        rw [List.mem_singleton.mp hb]
        exact ⟨f3.1.2.2.2.1, f3.1.2.1, f3.1.2.2.2.2.1, f3.1.2.2.2.2.2⟩
      have nC : H5 s3.heap.objs.size = none := by
        have e : H5 ce.locals = none := I6.free
        rw [cL] at e
        exact e
      obtain ⟨m, hn, _⟩ := I6.loc
      have hn : g6.Ns ce.locals m := hn
      rw [cL] at hn
      refine ⟨m, hn, fun g7 sb => ?_⟩
      obtain ⟨e0, e1, e2, e3, e4, e5⟩ := I3.fpOk (Nat.le_refl _) nC
      exact ⟨.ref D, H5, I7.turned (t' := s5.toks) (fun b u hb e => (sb.2 b hb).trans e) e0 e1 e3 e4 e5, rfl, qq⟩
    · have hci : x.cps[i]? = some x.cps[i] := Array.getElem?_eq_getElem go
      refine wpAny_pyNext_ascii_item st5 hci fun g6 st6 sb => ?_
      have I6 : Inv (X.blk s3 H3 sc ce [it]) [p] (wipe σ (own.map (·.2))) H5 { s5 with heap := g6, toks := s5.toks + 1 } := I5.turned (fun b u hb e => (sb.2 b hb).trans e) f0 f1 f4 f5 f6
      obtain ⟨oi, e6, c6, d6⟩ := id st6
      refine go_of (s := { s5 with heap := g6, toks := s5.toks + 1 }) e6 c6 d6 (by decide) ?_
      have I7 := I6.pinned (fp := [it]) (fun b hb => by rw [List.mem_singleton.mp hb]; exact stat I6 n5) fun b hb => by
        rw [List.mem_singleton.mp hb]
        exact ⟨oi, e6, fun v e => by rw [d6] at e; cases e⟩
      refine thnF (pg.run _ _ _ H5 (.str ⟨#[x.cps[i]]⟩) _ _ I7 ⟨_, rfl⟩ (step _ H5 ⟨rfl, _, hci, rfl⟩)) fun _ s8 ⟨σ8, H8, I8, hw8, q8⟩ => ?_
      have q8 : te σ8 H8 fun y H4 => ∃ acc, H4 D = some (.lst acc) ∧ acc.length < sizeLine ∧ Nx (upd H4 D (.lst (acc ++ [y]))) := q8
      refine wpAny_tests_nil ?_
      show wpAny _ _ _ _ _ _
      refine thnF (pe.run _ s8 σ8 H8 _ I8 q8) fun u9 s9 ⟨yv, H9, I9, r9, acc, hD9, hz9, nx⟩ => ?_
      refine app_ok (X := X.blk s3 H3 sc ce [it]) I9 hD9 hz9 r9 fun s10 I10 => ?_
      obtain ⟨m', hm, w'⟩ := hNx _ nx
      have pi := I10.pin (it, oi) (List.mem_append_right _ (List.mem_append_right _ (mem_pinsAt List.mem_cons_self e6)))
      have hl : (wipe σ (own.map (·.2))).length = σ8.length := by rw [← hw8, wipe_length]
      refine ⟨m', hm, i + 1, _, (I10.unpinned (pins := [p])).weak hl (fun j v e => ?_), ⟨oi, pi.1, c6, d6⟩, pi.2.1, w'⟩
      rw [← hw8] at e
      exact (wipe_some e).1
  exact codeAny_compStart_list loop (wpAny_pyIter_striter_ascii st4 loop)

end Dk
namespace Dk
open PySem PySem.Spec PyProof.Rows L2 Evl RZ
local macro_rules | `(tactic| walk_at "hp") => `(tactic| first | assumption | exact L2.upd_same | (apply Dk.Ex.at (by assumption); walk_at "hp"))
local macro_rules | `(tactic| walk_at "hq") => `(tactic| first | assumption | (apply Evl.sq_of; walk_at "hp") | (apply Evl.st_of; walk_at "hp") | (apply Evl.ex_l (by assumption); walk_at "hq") | (apply Evl.ex_t (by assumption); walk_at "hq"))
local macro_rules | `(tactic| walk_at "ex") => `(tactic| first | exact Evl.Ex.refl _ | assumption | (refine Evl.Ex.trans ?_ (by assumption); walk_at "ex"))
local macro_rules | `(tactic| walk_at "e1") => `(tactic| first
  | (with_reducible refine if_t ?_) | (with_reducible refine if_f ?_) | (with_reducible refine s_seq ?_) | (with_reducible refine s_asg ?_) | (with_reducible refine s_name ?_) | (with_reducible refine s_drop ?_) | (with_reducible refine s_ret ?_) | (with_reducible refine s_nil ?_) | (with_reducible refine s_cons ?_)
  | (with_reducible refine s_c ?_)
  | ((with_reducible refine' s_var ?h1 ?_); (case h1 => rfl))
  | (with_reducible refine s_op ?_) | (with_reducible refine s_call ?_) | (with_reducible refine s_cb ?_) | (with_reducible refine s_fld ?_) | (with_reducible refine s_tup ?_) | (with_reducible refine s_lst ?_) | (with_reducible refine s_meth ?_) | (with_reducible refine s_test ?_) | (with_reducible refine s_B ?_)
  | (with_reducible refine s_not ?_) | (with_reducible refine s_xb ?_) | (with_reducible refine s_if ?_) | (with_reducible refine s_ifS ?_) | (with_reducible refine s_next ?_) | (with_reducible refine s_sfld ?_)
  | (with_reducible refine s_I0 ?_) | ((with_reducible refine' s_I ?h1 ?_); (case h1 => first | exact ⟨by decide, by decide⟩ | exact .inr ⟨by decide, by decide⟩ | (show (0 : Int) < _; decide) | (show (0 : Int) ≤ _; first | decide | omega) | exact ⟨by omega, by omega⟩))
  | ((with_reducible refine' s_xf ?h1 ?h2 ?h3 ?h4 ?_); (case h1 => walk_at "hp"); (case h2 => exact Tx.clsK (by assumption) (by decide +kernel)); (case h3 => exact Tx.noatK (by assumption) (by decide +kernel)); (case h4 => rfl))
  | ((with_reducible refine' s_xs ?h1 ?h2 ?h3 ?h4 ?h5 ?_); (case h1 => walk_at "hp"); (case h2 => exact Tx.clsK (by assumption) (by decide +kernel)); (case h3 => exact Tx.noatK (by assumption) (by decide +kernel)); (case h4 => exact Dk.lt_ble rfl); (case h5 => rfl))
  | ((with_reducible refine' s_eq ?h1 ?_); (case h1 => rfl)) | ((with_reducible refine' s_ne ?h1 ?_); (case h1 => rfl)) | (with_reducible refine s_isN ?_)
  | ((with_reducible refine' s_xt ?h1 ?_); (case h1 => exact Nat.le_of_ble_eq_true rfl); intro _ _ _ _ _)
  | ((with_reducible refine' s_xl ?h1 ?_); (case h1 => exact Nat.le_of_ble_eq_true rfl); intro _ _ _ _ _)
  | ((with_reducible refine' s_lenL ?h1 ?_); (case h1 => walk_at "hq")) | ((with_reducible refine' s_lenT ?h1 ?_); (case h1 => walk_at "hq"))
  | ((with_reducible refine' s_ixL ?h1 ?h2 ?_); (case h1 => walk_at "hq"); (case h2 => first | assumption | exact atI_0 | exact atI_1 | rfl))
  | ((with_reducible refine' s_ixT ?h1 ?h2 ?_); (case h1 => walk_at "hq"); (case h2 => first | assumption | exact atI_0 | exact atI_1 | rfl))
  | (with_reducible refine s_or ?_) | (with_reducible refine s_and ?_)
  | ((with_reducible refine' s_nin ?h1 ?h2 ?h3 ?_); (case h1 => walk_at "hq"); (case h2 => rfl); (case h3 => rfl))
  | (with_reducible refine s_tru ?_)
  | (with_reducible refine s_ip ?_) | (with_reducible refine s_for1 ?_) | (with_reducible refine s_for2 ?_) | (with_reducible refine s_for3 ?_) | (with_reducible refine s_forL ?_) | (with_reducible refine s_forT ?_) | (with_reducible refine s_lcL ?_) | (with_reducible refine s_lcT ?_) | (with_reducible refine s_lcS ?_) | (with_reducible refine s_lcE ?_) | (with_reducible refine s_lcZ ?_) | (with_reducible refine s_lcZA ?_) | (with_reducible refine s_lcR ?_) | (with_reducible refine s_chain ?_) | (with_reducible refine s_av ?_) | (with_reducible refine s_ov ?_) | (with_reducible refine s_yes ?_) | (with_reducible refine s_tbm ?_) | (with_reducible refine s_ord ?_) | (with_reducible refine s_raise ?_) | (with_reducible refine s_fldaug ?_) | (with_reducible refine s_add ?_) | (with_reducible refine s_slc ?_) | (with_reducible refine s_part ?_) | (with_reducible refine x_p1 ?_) | (with_reducible refine s_nopart ?_)
  | ((with_reducible refine' x_bm ?h1 ?_); (case h1 => walk_at "hq")) | (with_reducible refine s_par1 ?_) | (with_reducible refine s_un ?_) | (with_reducible refine s_uI ?_))
local macro_rules | `(tactic| walk_at "ev") => `(tactic| repeat walk_at "e1")
-- plain
/-! ### the defs that tell a refusal, called while it is handled -/
structure PkH (P : Program) (w : World) (K : PySem.W.Frag) (mg : Str → Option Value) (base : Heap) (x : Str) (ps : List Str) (k : Nat) (sp : Sp) : Prop where
  ex : ∃ (f : Addr) (fd : FuncData), mg x = some (.ref f) ∧ PySem.W.keepIn K (.ref f) = true ∧ Binds K fd ps [] ∧ L2H.FnH P w K mg base CX0 k f fd ps sp
def sp_octets_ofH (K : PySem.W.Frag) : Sp := fun vs H Q E => sp_octets_of K vs H Q E ∧ ∀ m, vs = [.str m] → m.cps.all (· < 128) = true
section
variable {P : Program} {w : World} {K : PySem.W.Frag} {mg : Str → Option Value} {base : Heap}
theorem pass0A {X : Cx} {E : XK} {σ : L2.St} : PassesAt CX0 X σ E := fun _ _ _ _ _ _ h => h.elim
theorem pe_pkH {X : Cx} {k : Nat} {ps : List Str} {sp : Sp} {x : Str} {p pos : Pos} {e : Expr} {es : List Expr} {t : TA} (F : PkH X.prog X.w X.K X.mg X.base x ps k sp) (hr : L2H.RoomH k X.A) (hc : L2H.HotC X) (ha : PA X (e :: es) t) (hg : Gl X x := by rfl) (hdb : (x == ("__debug__" : Str)) = false := by decide)
    (he : starEach (e :: es) X.env = (false, eval e X.env) :: starEach es X.env := by rfl) (hpl : (backTo pos (starEach es X.env)).any (·.1) = false := by rfl) : PE X (.Call (.Name x p) (e :: es) [] pos) (tCallS sp (fun _ => E0) t) := by
  obtain ⟨f, fd, hm, hk, hb, G⟩ := F.ex
  exact L2H.pe_callH G hr hc hg hm hk hb (fun _ => pass0A) ha hdb he hpl
def t_octets_ofH (K : PySem.W.Frag) : TS :=
  (tRet (tCB (rTupS K) (tCons (tLcS (tVar 0) (gName 1) (tCB rOrd (tCons (tVar 1) tNil)) [1]) tNil)))
theorem pure_octets_ofH (T : Tx K mg) (vs : List V) (H : Hp) (Q : VK) (E : XK) (h : sp_octets_ofH K vs H Q E) : t_octets_ofH K { nx := fun _ H' => Q .non H', rt := Q } (start ["letters", "letter"] vs) H := by
  obtain ⟨⟨_, m, rfl, hm, q⟩, ha⟩ := h
  have ha := ha m rfl
  unfold t_octets_ofH
  walk_at "ev"
  refine ⟨_, rfl, m, rfl, ha, lc_all (K := K) m.cps.toList walk_str rfl (by omega) (fun _ => true) (fun c y _ => y = natV c) (fun _ _ => trivial) (fun _ _ _ _ h _ => h) (fun i a x H1 H2 k1 k2 hi e hy f1 f2 => ?_) (fun D H1 acc hD e hx ha => ?_)⟩
  · obtain ⟨rfl, c, hc, rfl⟩ := hy
    have ec : a = c := by
      rw [← Array.getElem?_toList, hi] at hc
      exact Option.some.inj hc
    subst ec
    refine ⟨rfl, ?_⟩
    walk_at "ev"
    exact f1 rfl _ _ (Ex.refl _) rfl
  · rw [all2_map ha] at hx
    walk_at "ev"
    refine s_tupL (sq_of hx) (fun p H2 hp e2 h2 => ?_)
    refine q p H2 (Ex.fr e hp) (Ex.trans e e2) (st_of ?_)
    rw [h2]
    unfold codes
    rw [List.filter_eq_self.mpr (fun _ _ => rfl)]
theorem ok_octets_ofH (T : Tx K mg) : PkH P w K mg base "octets_of" ["letters"] 1 (sp_octets_ofH K) := by
  obtain ⟨fd, F⟩ := T.fn 8 (p := ("octets_of", none)) (n := "octets_of") (q := "octets_of") (st := s_octets_of)
  refine ⟨⟨_, fd, T.glo 8, F.kp, F.bindsN fun _ _ _ _ _ _ us hl => match us, hl with | [_], _ => rfl, ?_⟩⟩
  obtain ⟨oc, od, dV, kV, doc, pm, an, cdv, ct, osl, rfl, lk, hcd, _, _⟩ := F.ex
  refine L2H.fn_ofH lk hcd sc_octets_of (fun _ _ _ _ h => h.1.1) fun A outer s H vs Q E p hot hr h => ⟨t_octets_ofH K, PSs.nox ?_, pure_octets_ofH T vs H Q E h⟩
  exact (pss_one (ps_ret (pe_callTy call_tuple_of (by rfl) (T.free 47) (by decide +kernel) (pa_cons (pe_lcS (own := [("letter", 1)]) (g := (gName 1)) ⟨p, hot, List.mem_cons_self⟩ sc_octets_of.nd (pv 0) (blkOk_by (own := [("letter", 1)]) (N := ["letters", "letter"]) (sc := defScope s_octets_of) (by decide +kernel)) (fun _ _ _ _ _ => (pg_name (i := 1) sc_octets_of.nd rfl (Or.inl rfl))) (fun _ _ _ _ _ => (pe_callB call_ord (by rfl) (T.free 43) (by decide +kernel) (pa_cons (pv 1) pa_nil)))) pa_nil))))
theorem ok_number_octetsH (T : Tx K mg) : PkH P w K mg base "number_octets" ["number", "many"] 1 (sp_number_octets K) := by
  obtain ⟨fd, F⟩ := T.fn 14 (p := ("number_octets", none)) (n := "number_octets") (q := "number_octets") (st := s_number_octets)
  refine ⟨⟨_, fd, T.glo 14, F.kp, F.bindsN fun _ _ _ _ _ _ us hl => match us, hl with | [_, _], _ => rfl, ?_⟩⟩
  obtain ⟨oc, od, dV, kV, doc, pm, an, cdv, ct, osl, rfl, lk, hcd, _, _⟩ := F.ex
  refine L2H.fn_ofH lk hcd sc_number_octets (fun _ _ _ _ h => h.1) fun A outer s H vs Q E p hot hr h => ⟨t_number_octets K, PSs.nox ?_, pure_number_octets T vs H Q E h⟩
  exact (pss_cons (ps_set (i := 2) sc_number_octets.nd rfl (Or.inl rfl) (pe_lst pa_nil))
    (pss_cons (L2H.ps_forH PassesOwn.never ⟨p, hot, List.mem_cons_self⟩ (L2H.pi_range1H (by rfl) (T.free 44) (pa_cons (pv 1) pa_nil)) (pg_name (i := 3) sc_number_octets.nd rfl (Or.inl rfl)) (pss_cons (ps_expr (pe_bm PySem.F.plainAttrs_list PySem.F.slot_list_append PySem.F.type_list_append mt_append (pv 2) (pa_cons (pe_op op_mod (pv 0) pe_int) pa_nil)))
    (pss_one (ps_aug (i := 0) sc_number_octets.nd rfl (Or.inl rfl) pe_int iop_fdiv))))
    (pss_one (ps_ret (pv 2)))))
end

end Dk
namespace Dk
open PySem PySem.Spec PyProof.Rows L2 Evl RZ
local macro_rules | `(tactic| walk_at "hp") => `(tactic| first | assumption | exact L2.upd_same | (apply Dk.Ex.at (by assumption); walk_at "hp"))
local macro_rules | `(tactic| walk_at "hq") => `(tactic| first | assumption | (apply Evl.sq_of; walk_at "hp") | (apply Evl.st_of; walk_at "hp") | (apply Evl.ex_l (by assumption); walk_at "hq") | (apply Evl.ex_t (by assumption); walk_at "hq"))
local macro_rules | `(tactic| walk_at "ex") => `(tactic| first | exact Evl.Ex.refl _ | assumption | (refine Evl.Ex.trans ?_ (by assumption); walk_at "ex"))
local macro_rules | `(tactic| walk_at "e1") => `(tactic| first
  | (with_reducible refine if_t ?_) | (with_reducible refine if_f ?_) | (with_reducible refine s_seq ?_) | (with_reducible refine s_asg ?_) | (with_reducible refine s_name ?_) | (with_reducible refine s_drop ?_) | (with_reducible refine s_ret ?_) | (with_reducible refine s_nil ?_) | (with_reducible refine s_cons ?_)
  | (with_reducible refine s_c ?_)
  | ((with_reducible refine' s_var ?h1 ?_); (case h1 => rfl))
  | (with_reducible refine s_op ?_) | (with_reducible refine s_call ?_) | (with_reducible refine s_cb ?_) | (with_reducible refine s_fld ?_) | (with_reducible refine s_tup ?_) | (with_reducible refine s_lst ?_) | (with_reducible refine s_meth ?_) | (with_reducible refine s_test ?_) | (with_reducible refine s_B ?_)
  | (with_reducible refine s_not ?_) | (with_reducible refine s_xb ?_) | (with_reducible refine s_if ?_) | (with_reducible refine s_ifS ?_) | (with_reducible refine s_next ?_) | (with_reducible refine s_sfld ?_)
  | (with_reducible refine s_I0 ?_) | ((with_reducible refine' s_I ?h1 ?_); (case h1 => first | exact ⟨by decide, by decide⟩ | exact .inr ⟨by decide, by decide⟩ | (show (0 : Int) < _; decide) | (show (0 : Int) ≤ _; first | decide | omega) | exact ⟨by omega, by omega⟩))
  | ((with_reducible refine' s_xf ?h1 ?h2 ?h3 ?h4 ?_); (case h1 => walk_at "hp"); (case h2 => exact Tx.clsK (by assumption) (by decide +kernel)); (case h3 => exact Tx.noatK (by assumption) (by decide +kernel)); (case h4 => rfl))
  | ((with_reducible refine' s_xs ?h1 ?h2 ?h3 ?h4 ?h5 ?_); (case h1 => walk_at "hp"); (case h2 => exact Tx.clsK (by assumption) (by decide +kernel)); (case h3 => exact Tx.noatK (by assumption) (by decide +kernel)); (case h4 => exact Dk.lt_ble rfl); (case h5 => rfl))
  | ((with_reducible refine' s_eq ?h1 ?_); (case h1 => rfl)) | ((with_reducible refine' s_ne ?h1 ?_); (case h1 => rfl)) | (with_reducible refine s_isN ?_)
  | ((with_reducible refine' s_xt ?h1 ?_); (case h1 => exact Nat.le_of_ble_eq_true rfl); intro _ _ _ _ _)
  | ((with_reducible refine' s_xl ?h1 ?_); (case h1 => exact Nat.le_of_ble_eq_true rfl); intro _ _ _ _ _)
  | ((with_reducible refine' s_lenL ?h1 ?_); (case h1 => walk_at "hq")) | ((with_reducible refine' s_lenT ?h1 ?_); (case h1 => walk_at "hq"))
  | ((with_reducible refine' s_ixL ?h1 ?h2 ?_); (case h1 => walk_at "hq"); (case h2 => first | assumption | exact atI_0 | exact atI_1 | rfl))
  | ((with_reducible refine' s_ixT ?h1 ?h2 ?_); (case h1 => walk_at "hq"); (case h2 => first | assumption | exact atI_0 | exact atI_1 | rfl))
  | (with_reducible refine s_or ?_) | (with_reducible refine s_and ?_)
  | ((with_reducible refine' s_nin ?h1 ?h2 ?h3 ?_); (case h1 => walk_at "hq"); (case h2 => rfl); (case h3 => rfl))
  | (with_reducible refine s_tru ?_)
  | (with_reducible refine s_ip ?_) | (with_reducible refine s_for1 ?_) | (with_reducible refine s_for2 ?_) | (with_reducible refine s_for3 ?_) | (with_reducible refine s_forL ?_) | (with_reducible refine s_forT ?_) | (with_reducible refine s_lcL ?_) | (with_reducible refine s_lcT ?_) | (with_reducible refine s_lcS ?_) | (with_reducible refine s_lcE ?_) | (with_reducible refine s_lcZ ?_) | (with_reducible refine s_lcZA ?_) | (with_reducible refine s_lcR ?_) | (with_reducible refine s_chain ?_) | (with_reducible refine s_av ?_) | (with_reducible refine s_ov ?_) | (with_reducible refine s_yes ?_) | (with_reducible refine s_tbm ?_) | (with_reducible refine s_ord ?_) | (with_reducible refine s_raise ?_) | (with_reducible refine s_fldaug ?_) | (with_reducible refine s_add ?_) | (with_reducible refine s_slc ?_) | (with_reducible refine s_part ?_) | (with_reducible refine x_p1 ?_) | (with_reducible refine s_nopart ?_)
  | ((with_reducible refine' x_bm ?h1 ?_); (case h1 => walk_at "hq")) | (with_reducible refine s_par1 ?_) | (with_reducible refine s_un ?_) | (with_reducible refine s_uI ?_))
local macro_rules | `(tactic| walk_at "ev") => `(tactic| repeat walk_at "e1")
-- plain
abbrev s_refusal_octets : Stmt := top 36
theorem sc_refusal_octets : FnScope ["kind", "message", "octets"] ["kind", "message"] (defScope s_refusal_octets) := ⟨rfl, rfl, rfl, by decide +kernel, rfl, by decide +kernel, by decide +kernel⟩
def sp_refusal_octets (K : PySem.W.Frag) : Sp := fun vs H Q _ => vs.length = 2 ∧ ∃ (c : Nat) (m : Str) (l : List UInt8), vs = [natV c, .str m] ∧ c < 256 ∧ m.cps.toList = (l.map fun o => o.toNat) ∧ m.cps.all (· < 128) = true ∧ m.cps.size ≤ 1000 ∧
  ∀ p H', H p = none → Ex H H' → H' p = some (.lst ((1 :: UInt8.ofNat c :: RWire.writeText l).map octV)) → Q (.ref p) H'
def t_refusal_octets (K : PySem.W.Frag) : TS :=
  (tSeq (tAsg (tCallS (sp_octets_ofH K) (fun _ => E0) (tCons (tVar 1) tNil)) (gName 2))
  (tRet (tOp rCat (tOp rCat (tLst (tCons (tC (.int 1)) (tCons (tVar 0) tNil))) (tCallS (sp_number_octets K) (fun _ => E0) (tCons (tCB (rLenS K) (tCons (tVar 2) tNil)) (tCons (tC (.int 4)) tNil)))) (tCB (rListS K) (tCons (tVar 2) tNil)))))
theorem s_callS {σ : L2.St} {H : Hp} {Q : VK} {sp : Sp} {E : L2.St → XK} {t : TA} (h : t σ H fun vs H1 => sp vs H1 Q (E σ)) : tCallS sp E t σ H Q := h
section
variable {P : Program} {w : World} {K : PySem.W.Frag} {mg : Str → Option Value} {base : Heap}
theorem pure_refusal_octets (T : Tx K mg) (vs : List V) (H : Hp) (Q : VK) (E : XK) (h : sp_refusal_octets K vs H Q E) : t_refusal_octets K { nx := fun _ H' => Q .non H', rt := Q } (start ["kind", "message", "octets"] vs) H := by
  obtain ⟨_, c, m, l, rfl, hc, hm, ha, hz, q⟩ := h
  have hco : codes m = l.map octV := by
    unfold codes
    rw [hm, List.map_map]
    rfl
  have hll : l.length ≤ 1000 := by
    have := congrArg List.length hm
    rw [List.length_map, Array.length_toList] at this
    omega
  unfold t_refusal_octets
  walk_at "ev"
  with_reducible refine s_callS ?_
  walk_at "ev"
  refine ⟨⟨rfl, m, rfl, hz, fun p1 H1 hp1 x1 h1 => ?_⟩, fun m' e => ?_⟩
  · rw [hco] at h1
    walk_at "ev"
    rename_i p2 H2 hp2 x2 h2
    with_reducible refine s_callS ?_
    have h12 := ex_t x2 h1
    walk_at "ev"
    rw [List.length_map]
    refine ⟨rfl, l.length, 4, rfl, by decide, fun p3 H3 hp3 x3 h3 => ?_⟩
    have h2' : H2 p2 = some (.lst (([1, UInt8.ofNat c] : List UInt8).map octV)) := by
      rw [h2]
      show some (HO.lst [V.int 1, natV c]) = some (HO.lst [octV 1, octV (UInt8.ofNat c)])
      rw [oct_mod, Nat.mod_eq_of_lt hc]
      rfl
    refine s_catL (x3 _ _ h2') h3 (by rw [show (RWire.low 4 l.length).length = 4 from rfl]; show 2 + 4 ≤ 1000000; decide) fun p4 H4 hp4 x4 h4 => ?_
    have h14 := ex_t (Ex.trans x3 x4) h12
    walk_at "ev"
    refine s_listT h14 fun p5 H5 hp5 x5 h5 => ?_
    refine s_catL (x5 _ _ h4) h5 (by
      have e1 : ([1, UInt8.ofNat c] ++ RWire.low 4 l.length).length = 6 := rfl
      rw [e1]
      omega) fun p6 H6 hp6 x6 h6 => ?_
    have y5 := Ex.trans x1 (Ex.trans x2 (Ex.trans x3 (Ex.trans x4 x5)))
    exact q p6 H6 (Ex.fr y5 hp6) (Ex.trans y5 x6) h6
  · cases e
    exact ha
theorem ok_refusal_octets (T : Tx K mg) : PkH P w K mg base "refusal_octets" ["kind", "message"] 2 (sp_refusal_octets K) := by
  obtain ⟨fd, F⟩ := T.fn 16 (p := ("refusal_octets", none)) (n := "refusal_octets") (q := "refusal_octets") (st := s_refusal_octets)
  refine ⟨⟨_, fd, T.glo 16, F.kp, F.bindsN fun _ _ _ _ _ _ us hl => match us, hl with | [_, _], _ => rfl, ?_⟩⟩
  obtain ⟨oc, od, dV, kV, doc, pm, an, cdv, ct, osl, rfl, lk, hcd, _, _⟩ := F.ex
  refine L2H.fn_ofH lk hcd sc_refusal_octets (fun _ _ _ _ h => h.1) fun A outer s H vs Q E p hot hr h => ⟨t_refusal_octets K, PSs.nox ?_, pure_refusal_octets T vs H Q E h⟩
  exact (pss_cons (ps_set (i := 2) sc_refusal_octets.nd rfl (Or.inl rfl) (pe_pkH (ok_octets_ofH T) (hr.mono (by decide)) ⟨p, hot, List.mem_cons_self⟩ (pa_cons (pv 1) pa_nil)))
    (pss_one (ps_ret (pe_op op_cat (pe_op op_cat (pe_lst (pa_cons pe_int (pa_cons (pv 0) pa_nil))) (pe_pkH (ok_number_octetsH T) (hr.mono (by decide)) ⟨p, hot, List.mem_cons_self⟩ (pa_cons (pe_callB call_len_seq (by rfl) (T.free 40) PySem.boot_len (pa_cons (pv 2) pa_nil)) (pa_cons pe_int pa_nil)))) (pe_callTy call_list_of (by rfl) (T.free 41) (by decide +kernel) (pa_cons (pv 2) pa_nil))))))
end

-- plain
/-! ### a call that is refused changes nothing -/
section
open R7293g.Spec
theorem chgD_fail {w : R7293g.Spec.World} {d : Nat} {f : Gate → Res (Gate × Plain)} {e : Err} (h : (changeDoor w d f).2 = .fail e) : (changeDoor w d f).1 = w := by
  unfold changeDoor at h ⊢
  split at h
  · split at h
    · cases h
    · rfl
  · cases h
theorem chgF_fail {w : R7293g.Spec.World} {d : Nat} {f : Field → Res (Field × Plain)} {e : Err} (h : (changeField w d f).2 = .fail e) : (changeField w d f).1 = w := by
  unfold changeField at h ⊢
  split at h
  · split at h
    · cases h
    · rfl
  · cases h
theorem step_fail {w : R7293g.Spec.World} {c : Call} {e : Err} (h : (step w c).2 = .fail e) : (step w c).1 = w := by
  cases c
  case roundOffer x y => rfl
  case bestTable x y => rfl
  case doorNew d x y z =>
    have h : (newDoor w d x y z).2 = .fail e := h
    show (newDoor w d x y z).1 = w
    unfold newDoor at h ⊢
    split at h
    · cases h
    · rfl
  case doorKnock d x y z => exact chgD_fail h
  case doorBack d x y z => exact chgD_fail h
  case doorClose d x => exact chgD_fail h
  case doorNext d => exact chgD_fail h
  case doorRead d x =>
    unfold R7293g.Spec.step
    dsimp only
    split <;> rfl
  case doorState d =>
    unfold R7293g.Spec.step
    dsimp only
    split <;> rfl
  case fieldNew d x y z =>
    have h : (newField w d x y z).2 = .fail e := h
    show (newField w d x y z).1 = w
    unfold newField at h ⊢
    split at h
    · cases h
    · rfl
  case fieldKnock d x y z => exact chgF_fail h
  case fieldBack d x => exact chgF_fail h
  case fieldClose d x => exact chgF_fail h
  case fieldNext d => exact chgF_fail h
  case fieldState d =>
    unfold R7293g.Spec.step
    dsimp only
    split <;> rfl
  case traceNew t f x =>
    have h : (newTrace w t f x).2 = .fail e := h
    show (newTrace w t f x).1 = w
    unfold newTrace at h ⊢
    split at h
    · cases h
    · split at h
      · cases h
      · rfl
  case traceNext t =>
    have h : (nextOfTrace w t).2 = .fail e := h
    unfold nextOfTrace at h
    split at h
    · cases h
    · cases h
    · split at h
      · cases h
      · split at h <;> cases h
  case traceReturn t x =>
    unfold R7293g.Spec.step at h
    dsimp only at h
    split at h <;> cases h
end
/-- tags where something lies -/
theorem WorldAt.clean {K : PySem.W.Frag} {H : Hp} {n : Nat} {L : WL} {w : R7293g.Spec.World} (h : WorldAt K H n L w) : ∃ L2, L2.k = L.k ∧ L2.dx = L.dx ∧ WorldAt K H n L2 w ∧ (∀ b, H b = none → L2.tag b = none) ∧ (∀ b, L.tag b = none → L2.tag b = none) := by
  classical
  have so : ∀ {b : Addr} {o : HO} {t : Option Tg}, H b = some o → (if H b = none then none else t) = t := fun {b o t} e => by rw [if_neg (fun z => by rw [z] at e; cases e)]
  have sn : ∀ {b : Addr} {t : Option Tg}, H b ≠ none → (if H b = none then none else t) = t := fun {b t} e => by rw [if_neg e]
  obtain ⟨kd, d1, d2, d3⟩ := h.ds
  obtain ⟨kf, f1, f2, f3⟩ := h.fs
  obtain ⟨kw, w1, w2, w3⟩ := h.ws
  refine ⟨{ L with tag := fun b => if H b = none then none else L.tag b }, rfl, rfl, { h with
    ws := ⟨kw, w1, w2, fun s tr hs => ?_⟩
    t1 := (so h.obj).trans h.t1
    t2 := (so d1).trans h.t2
    t3 := (so f1).trans h.t3
    t4 := (so w1).trans h.t4
    td := fun i d hd b s => ?_
    tf := fun i d hd b s => ?_ }, fun b hb => if_pos hb, fun b hb => ?_⟩
  · obtain ⟨f, a, dx, q1, q2, q3, q4⟩ := w3 s tr hs
    exact ⟨f, a, dx, q1, q2, q3, (so q3).trans q4⟩
  · obtain ⟨u, _, pu⟩ := h.doors.get' hd
    exact (sn (pu.dom s)).trans (h.td i d hd b s)
  · obtain ⟨u, _, pu⟩ := h.fields.get' hd
    exact (sn (pu.dom s)).trans (h.tf i d hd b s)
  · show (if H b = none then none else L.tag b) = none
    split
    · rfl
    · exact hb
theorem taking_len {n : Nat} {l : List R7293g.Spec.Plain} {c : Option R7293g.Spec.Call} {r : R7293g.Spec.Call} (h : Rust.taking n l c = some r) : l.length ≤ n := by
  unfold Rust.taking at h
  split at h
  · rename_i hb
    exact Nat.le_of_ble_eq_true hb
  · cases h
theorem call_len {number : Nat} {l : List RWire.Value} {c : R7293g.Spec.Call} (h : Rust.callOf number (Rust.takenAll l) = some c) : l.length ≤ 4 := by
  have e : (Rust.takenAll l).length = l.length := by rw [taken_all, List.length_map]
  rw [← e]
  unfold Rust.callOf at h
  split at h
  · unfold Rust.calls0 at h
    split at h
    case h_17 => cases h
    all_goals exact Nat.le_trans (taking_len h) (by decide)
  · unfold Rust.calls1 at h
    split at h
    case h_3 => cases h
    all_goals exact Nat.le_trans (taking_len h) (by decide)
  · cases h
/-! ### one call -/
abbrev s_reply : Stmt := top 58
theorem sc_reply : FnScope ["desk", "octets", "refused", "door", "values"] ["desk", "octets"] (defScope s_reply) := ⟨rfl, rfl, rfl, by decide +kernel, rfl, by decide +kernel, by decide +kernel⟩
def tMethS (C : Addr) (m : Str) (sp : Sp) (E : L2.St → XK) (ta : TE) (t : TA) : TE := fun σ H Q => ta σ H fun x H1 => ∃ a dx fs, x = .ref a ∧ H1 a = some (.ins C dx fs) ∧ fs.lookup m = none ∧ t σ H1 fun vs H2 => sp (x :: vs) H2 Q (E σ)
theorem pe_mpS {X : Cx} {CX : CXT} {k : Nat} {C : Addr} {ps : List Str} {sp : Sp} {E : L2.St → XK} {m : Str} {pos apos : Pos} {e o : Expr} {es : List Expr} {ta : TE} {t : TA} {pl : Sem Bool} (he : PE X o ta) (c : Cls X.K C)
    (F : Mp X.prog X.w X.K X.mg X.base CX C m ps k sp) (hr : Room k X.A) (hx : ∀ σ, PassesAt CX X σ (E σ)) (ha : PA X (e :: es) t)
    (hst : starEach (e :: es) X.env = (false, eval e X.env) :: starEach es X.env := by rfl) (hpl : (backTo pos (starEach es X.env)).any (·.1) = false := by rfl)
    (ht : eval (.Call (.Attribute o m apos) (e :: es) [] pos) X.env = (do
      let ov ← eval o X.env
      standAt apos.atName
      let (f, first) ← holding [ov] (getMethod ov m pl)
      callWith pos f first (backTo pos (starEach (e :: es) X.env)) (backToKw pos (keywordEach [] X.env))) := by rfl) : PE X (.Call (.Attribute o m apos) (e :: es) [] pos) (tMethS C m sp E ta t) := by
  obtain ⟨f, fd, hm, hb, G⟩ := F.ex
  refine ⟨fun pins s σ H Q I h => ?_⟩
  refine PySem.W.methodCall_KW (pl := pl) (thn (he.run pins s σ H _ I h) fun u s1 ⟨x, H1, I1, rx, a, dx, fs, ex, ea, l, q⟩ => ?_) ht
  subst ex
  obtain rfl : u = Value.ref a := rx
  refine getmeth_ok I1 ea c hm l ?_
  refine PySem.W.callWith_K (first := [.ref a]) (h₀ := X.base) I.ok.mod.kin hm.kp (thn (ha.run pos pins s1 σ H1 _ I1 q) fun us s2 ⟨vs, H2, I2, r, q2⟩ => ⟨I2.kIn, ?_⟩) hst hpl
  exact run_fnS (us := .ref a :: us) (vs := .ref a :: vs) G hr hb (hx σ) I2 (.cons rfl r) q2
def t_suite (K : PySem.W.Frag) : Addr → Value → Option Addr → TS := fun a cls d => tRet (tCallS (sp_refusal_octets K) (fun _ => E0) (tCons (tByRf K "kind" a cls d (tVar 2)) (tCons (tByRf K "message" a cls d (tVar 2)) tNil)))
def t_tried (K : PySem.W.Frag) : WX → TS := fun W => tRet (tOp rCat (tLst (tCons (tC (.int 0)) tNil)) (tCall (sp_value_octets K 32) [] E0 (tCons (tMethS (cA K "Desk") "give_answer" (sp_Desk_give_answer K) (WE W) (tVar 0) (tCons (tVar 3) (tCons (tVar 4) tNil))) tNil)))
def t_reply (K : PySem.W.Frag) : TS :=
  tSeq (tAsg (tMeth (cA K "Request") "call" (sp_Request_call K) [] E0 (tMake (cA K "Request") (sp_Request___init__ K) [] E0 (tCons (tVar 1) tNil)) (tCons (tC (.int 4)) tNil)) (gTup K 2 (gCons (gName 3) (gCons (gName 4) gNil))))
    (fun D σ H => t_tried K (wAs K (.ref (rfA K)) 2 (t_suite K) (fun _ _ _ _ => False) D) D σ H)
def sp_reply (K : PySem.W.Frag) : Sp := fun vs H Q _ => vs.length = 2 ∧ ∃ n L w p b c, vs = [.ref L.k, .ref p] ∧ WorldAt K H n L w ∧ n < 1000 ∧ H p = some (.lst (b.map octV)) ∧ b.length ≤ 100000 ∧ Rust.asked b = some c ∧ R7293g.Spec.within w c = true ∧ Rust.tellable (R7293g.Spec.step w c).2 = true ∧
  (RWire.writeAnswer (Rust.answerOf (R7293g.Spec.step w c).2)).length ≤ 100000 ∧
  ∀ L' H' r, (∀ b o, H b = some o → L.tag b = none → b ≠ r) → WorldAt K H' (n + 1) L' (R7293g.Spec.step w c).1 → Out1 H H' L L' → H' r = some (.lst ((RWire.writeAnswer (Rust.answerOf (R7293g.Spec.step w c).2)).map octV)) → Q (.ref r) H'
theorem fine_many : ∀ {l : List RWire.Value}, RWire.noBigMany l = true → RWire.noOctetsMany l = true → RWire.noWideMany l = true → ∀ v ∈ l, fineV v := fun {l} h1 h2 h3 => fine_list (l := l) ⟨h1, h2, h3⟩
section
variable {P : Program} {w : World} {K : PySem.W.Frag} {mg : Str → Option Value} {base : Heap}
theorem pure_reply (T : Tx K mg) (vs : List V) (H : Hp) (Q : VK) (E : XK) (h : sp_reply K vs H Q E) : t_reply K { nx := fun _ H' => Q .non H', rt := Q } (start ["desk", "octets", "refused", "door", "values"] vs) H := by
  obtain ⟨_, n, L, w, p, b, c, rfl, hw, hn, hp, hb, hask, hin, htell, hlen, q⟩ := h
  unfold Rust.asked at hask
  cases hrq : RWire.readRequest b with
  | none => rw [hrq] at hask; cases hask
  | some dl =>
    obtain ⟨door, l⟩ := dl
    rw [hrq] at hask
    dsimp only at hask
    by_cases hk : Rust.ofKinds l = true
    · rw [if_pos hk] at hask
      have hk : ((false || RWire.noBigMany l) && (false || RWire.noOctetsMany l) && (false || RWire.noWideMany l)) = true := hk
      rw [Bool.and_eq_true, Bool.and_eq_true, Bool.false_or, Bool.false_or, Bool.false_or] at hk
      have hl4 : l.length ≤ 4 := call_len hask
      obtain ⟨v0, v1, v2, v3, hpad⟩ : ∃ v0 v1 v2 v3, pad l = [v0, v1, v2, v3] := by
        unfold pad
        rcases l with _ | ⟨a, _ | ⟨b, _ | ⟨c, _ | ⟨d, _ | ⟨e, l⟩⟩⟩⟩⟩
        · exact ⟨_, _, _, _, rfl⟩
        · exact ⟨_, _, _, _, rfl⟩
        · exact ⟨_, _, _, _, rfl⟩
        · exact ⟨_, _, _, _, rfl⟩
        · exact ⟨_, _, _, _, rfl⟩
        · simp only [List.length_cons] at hl4
          omega
      have hcall := call_cases hask hpad
      unfold t_reply
      walk_at "ev"
      refine s_make ?_
      walk_at "ev"
      refine mk_req (l := b) hp fun r dx H1 hr x1 hR => ?_
      obtain ⟨_, m1, _, _, ho1⟩ := id hR
      walk_at "ev"
      refine s_xm ho1 rfl ?_
      walk_at "ev"
      refine ⟨rfl, ⟨r, dx, p, b⟩, b, door, l, rfl, hb, hR, hrq, fine_many hk.1.1 hk.1.2 hk.2, hl4, fun t pa H2 k2 h2 hA => ?_⟩
      refine s_pair (st_of h2) ?_
      have x2 : Ex H H2 := fun a u hu => k2 a u (fun z => by
        have z : a = r := z
        rw [z, hr] at hu
        cases hu) (x1 a u hu)
      obtain ⟨L2, ek, edx, hw2, hcl, hun⟩ := (hw.ex x2).clean
      have ho2 := hw2.obj
      rw [hpad] at hA
      unfold t_tried
      walk_at "ev"
      rename_i z0 H3 hz0 x3 h3
      have hw3 := hw2.ex x3
      refine ⟨_, rfl, L2.k, L2.dx, _, by rw [ek], hw3.obj, rfl, ?_⟩
      walk_at "ev"
      refine ⟨rfl, n, L2, w, door, pa, v0, v1, v2, v3, c, by rw [ek], hw3, hn, hA.ex x3, hcall, hin, ?_⟩
      unfold AOut
      have x13 := Ex.trans x2 x3
      have out : ∀ {L' H4 H5}, Out1 H3 H4 L2 L' → Ex H4 H5 → Out1 H H5 L L' := fun {L' H4 H5} hO x5 => ⟨hO.k.trans ek, fun b o hb ht => x5 _ _ (hO.fr b o (x13 _ _ hb) (hun b ht)), fun b hb ht => hO.tg b (fun z => hb (Ex.fr x13 z)) (hun b ht)⟩
      cases hres : (R7293g.Spec.step w c).2 with
      | ret pl =>
        rw [hres] at htell hlen q
        have htell : (Rust.narrow pl && RWire.writable (Rust.given pl)) = true := htell
        rw [Bool.and_eq_true] at htell
        have hwr := htell.2
        unfold RWire.writable at hwr
        rw [Bool.and_eq_true] at hwr
        have hdep : RWire.depth (Rust.given pl) ≤ 32 := of_decide_eq_true hwr.2
        have hlen : (0 :: RWire.write (Rust.given pl)).length ≤ 100000 := hlen
        rw [List.length_cons] at hlen
        intro L' H4 a hW hO hv
        walk_at "ev"
        have hz4 : H4 z0 = some (.lst (([0] : List UInt8).map octV)) := hO.fr _ _ h3 (hcl _ hz0)
        refine ⟨rfl, a, _, rfl, hv, hdep, by omega, fun p5 H5 hp5 x5 h5 => ?_⟩
        refine s_catL (x5 _ _ hz4) h5 (by show 1 + _ ≤ _; omega) fun p6 H6 hp6 x6 h6 => ?_
        have y6 := Ex.trans x5 x6
        refine q L' H6 p6 (fun b o hb ht z => ?_) (hW.ex y6) (out hO y6) h6
        have := (out hO x5).fr b o hb ht
        rw [z, hp6] at this
        cases this
      | fail e =>
        have hst := step_fail hres
        rw [hres, hst] at q
        intro k m hm d H4 x4 hd4
        have x14 := Ex.trans x13 x4
        refine ⟨true, of_decide_eq_true (T.ex 12), fun _ a ha => ?_, fun z => Bool.noConfusion z⟩
        unfold t_suite
        walk_at "ev"
        with_reducible refine s_callS ?_
        walk_at "ev"
        refine ⟨_, rfl, rfl, rfl, d, _, _, rfl, hd4, rfl, ?_⟩
        walk_at "ev"
        refine ⟨_, rfl, rfl, rfl, d, _, _, rfl, hd4, rfl, ?_⟩
        walk_at "ev"
        refine ⟨rfl, Rust.classOf e.cls, m, e.msg.map Rust.octetOf, by rw [hm.1], by cases e.cls <;> decide, hm.2.1, hm.2.2.1, hm.2.2.2, fun p5 H5 hp5 x5 h5 => ?_⟩
        have x15 := Ex.trans x14 x5
        refine q L2 H5 p5 (fun b o hb ht z => ?_) (hw3.ex (Ex.trans x4 x5)).up ⟨ek, fun b o hb _ => x15 _ _ hb, fun b _ ht => hun b ht⟩ h5
        have := x14 b o hb
        rw [z, hp5] at this
        cases this
    · rw [if_neg hk] at hask
      cases hask
theorem ok_reply (T : Tx K mg) : Pk P w K mg base CX0 "reply" ["desk", "octets"] 38 (sp_reply K) := by
  obtain ⟨fd, F⟩ := T.fn 33 (p := ("reply", none)) (n := "reply") (q := "reply") (st := s_reply)
  refine ⟨⟨_, fd, T.glo 33, F.kp, F.bindsN fun _ _ _ _ _ _ us hl => match us, hl with | [_, _], _ => rfl, F.ok sc_reply (fun _ _ _ _ h => h.1) fun cdv A outer s H vs Q E hr h => ⟨t_reply K, PSs.nox ?_, pure_reply T vs H Q E h⟩⟩⟩
  exact pss_cons (ps_asg (pe_mp (pe_cp (ok_Request___init__ T) (hr.mono (by decide)) pass0 (pa_cons (pv 1) pa_nil)) (T.cls 116) (ok_Request_call T) (hr.mono (by decide)) pass0 (pa_cons (pe_gi (T.int 57)) pa_nil)) (pg_tup rfl (pgs_cons (pg_name (i := 3) sc_reply.nd rfl (Or.inl rfl)) (pgs_cons (pg_name (i := 4) sc_reply.nd rfl (Or.inl rfl)) pgs_nil))))
    (pss_one (L2N.ps_try_as (i := 2) (tb := t_tried K) (ts := t_suite K) (Wout := fun _ _ _ _ => False) rfl rfl sc_reply.nd rfl rfl ⟨rfl, by decide, Or.inl (T.glo 112)⟩ (fun u s' ⟨_, _, _, _, _, _, _, _, _, _, _, _, _, _, _, _, w⟩ => w.elim)
      (fun W pn xe tk _ => pss_one (ps_ret (pe_op op_cat (pe_lst (pa_cons pe_int pa_nil)) (pe_pk (ok_value_octets T 32) (hr.mono (by decide)) pass0 (pa_cons (pe_mpS (pv 0) (T.cls 125) (ok_Desk_give_answer T) (hr.mono (by decide)) (fun σ => L2N.passAt tk σ) (pa_cons (pv 3) (pa_cons (pv 4) pa_nil))) pa_nil)))))
      (fun a oe cls d pn hz hf => pss_one (ps_ret (pe_pkH (ok_refusal_octets T) (L2H.RoomH.mono (j := 2) (k := 37) ⟨hr.dp, hr.un⟩ (by decide)) ⟨(a, oe), ⟨rfl, hf.choose, hf.choose_spec, hz.2.2 _ hf.choose_spec⟩, List.mem_cons_self⟩ (pa_cons (pe_byRf T (T.noat 113) hz hf (pv 2)) (pa_cons (pe_byRf T (T.noat 114) hz hf (pv 2)) pa_nil)))))))
end

end Dk
namespace Dk
open PySem PySem.Spec PyProof.Rows L2 Evl RZ
local macro_rules | `(tactic| walk_at "hp") => `(tactic| first | assumption | exact L2.upd_same | (apply Dk.Ex.at (by assumption); walk_at "hp"))
local macro_rules | `(tactic| walk_at "hq") => `(tactic| first | assumption | (apply Evl.sq_of; walk_at "hp") | (apply Evl.st_of; walk_at "hp") | (apply Evl.ex_l (by assumption); walk_at "hq") | (apply Evl.ex_t (by assumption); walk_at "hq"))
local macro_rules | `(tactic| walk_at "ex") => `(tactic| first | exact Evl.Ex.refl _ | assumption | (refine Evl.Ex.trans ?_ (by assumption); walk_at "ex"))
local macro_rules | `(tactic| walk_at "e1") => `(tactic| first
  | (with_reducible refine if_t ?_) | (with_reducible refine if_f ?_) | (with_reducible refine s_seq ?_) | (with_reducible refine s_asg ?_) | (with_reducible refine s_name ?_) | (with_reducible refine s_drop ?_) | (with_reducible refine s_ret ?_) | (with_reducible refine s_nil ?_) | (with_reducible refine s_cons ?_)
  | (with_reducible refine s_c ?_)
  | ((with_reducible refine' s_var ?h1 ?_); (case h1 => rfl))
  | (with_reducible refine s_op ?_) | (with_reducible refine s_call ?_) | (with_reducible refine s_cb ?_) | (with_reducible refine s_fld ?_) | (with_reducible refine s_tup ?_) | (with_reducible refine s_lst ?_) | (with_reducible refine s_meth ?_) | (with_reducible refine s_test ?_) | (with_reducible refine s_B ?_)
  | (with_reducible refine s_not ?_) | (with_reducible refine s_xb ?_) | (with_reducible refine s_if ?_) | (with_reducible refine s_ifS ?_) | (with_reducible refine s_next ?_) | (with_reducible refine s_sfld ?_)
  | (with_reducible refine s_I0 ?_) | ((with_reducible refine' s_I ?h1 ?_); (case h1 => first | exact ⟨by decide, by decide⟩ | exact .inr ⟨by decide, by decide⟩ | (show (0 : Int) < _; decide) | (show (0 : Int) ≤ _; first | decide | omega) | exact ⟨by omega, by omega⟩))
  | ((with_reducible refine' s_xf ?h1 ?h2 ?h3 ?h4 ?_); (case h1 => walk_at "hp"); (case h2 => exact Tx.clsK (by assumption) (by decide +kernel)); (case h3 => exact Tx.noatK (by assumption) (by decide +kernel)); (case h4 => rfl))
  | ((with_reducible refine' s_xs ?h1 ?h2 ?h3 ?h4 ?h5 ?_); (case h1 => walk_at "hp"); (case h2 => exact Tx.clsK (by assumption) (by decide +kernel)); (case h3 => exact Tx.noatK (by assumption) (by decide +kernel)); (case h4 => exact Dk.lt_ble rfl); (case h5 => rfl))
  | ((with_reducible refine' s_eq ?h1 ?_); (case h1 => rfl)) | ((with_reducible refine' s_ne ?h1 ?_); (case h1 => rfl)) | (with_reducible refine s_isN ?_)
  | ((with_reducible refine' s_xt ?h1 ?_); (case h1 => exact Nat.le_of_ble_eq_true rfl); intro _ _ _ _ _)
  | ((with_reducible refine' s_xl ?h1 ?_); (case h1 => exact Nat.le_of_ble_eq_true rfl); intro _ _ _ _ _)
  | ((with_reducible refine' s_lenL ?h1 ?_); (case h1 => walk_at "hq")) | ((with_reducible refine' s_lenT ?h1 ?_); (case h1 => walk_at "hq"))
  | ((with_reducible refine' s_ixL ?h1 ?h2 ?_); (case h1 => walk_at "hq"); (case h2 => first | assumption | exact atI_0 | exact atI_1 | rfl))
  | ((with_reducible refine' s_ixT ?h1 ?h2 ?_); (case h1 => walk_at "hq"); (case h2 => first | assumption | exact atI_0 | exact atI_1 | rfl))
  | (with_reducible refine s_or ?_) | (with_reducible refine s_and ?_)
  | ((with_reducible refine' s_nin ?h1 ?h2 ?h3 ?_); (case h1 => walk_at "hq"); (case h2 => rfl); (case h3 => rfl))
  | (with_reducible refine s_tru ?_)
  | (with_reducible refine s_ip ?_) | (with_reducible refine s_for1 ?_) | (with_reducible refine s_for2 ?_) | (with_reducible refine s_for3 ?_) | (with_reducible refine s_forL ?_) | (with_reducible refine s_forT ?_) | (with_reducible refine s_lcL ?_) | (with_reducible refine s_lcT ?_) | (with_reducible refine s_lcS ?_) | (with_reducible refine s_lcE ?_) | (with_reducible refine s_lcZ ?_) | (with_reducible refine s_lcZA ?_) | (with_reducible refine s_lcR ?_) | (with_reducible refine s_chain ?_) | (with_reducible refine s_av ?_) | (with_reducible refine s_ov ?_) | (with_reducible refine s_yes ?_) | (with_reducible refine s_tbm ?_) | (with_reducible refine s_ord ?_) | (with_reducible refine s_raise ?_) | (with_reducible refine s_fldaug ?_) | (with_reducible refine s_add ?_) | (with_reducible refine s_slc ?_) | (with_reducible refine s_part ?_) | (with_reducible refine x_p1 ?_) | (with_reducible refine s_nopart ?_)
  | ((with_reducible refine' x_bm ?h1 ?_); (case h1 => walk_at "hq")) | (with_reducible refine s_par1 ?_) | (with_reducible refine s_un ?_) | (with_reducible refine s_uI ?_))
local macro_rules | `(tactic| walk_at "ev") => `(tactic| repeat walk_at "e1")
/-! ### answers -/
abbrev s_answers : Stmt := top 59
theorem sc_answers : FnScope ["calls", "desk", "found", "at", "many", "own"] ["calls"] (defScope s_answers) := ⟨rfl, rfl, rfl, by decide +kernel, rfl, by decide +kernel, by decide +kernel⟩
-- own
theorem bytes_oct {x : List Int} (h : NeutralIO.bytes x = true) : x.map V.int = (Zn64Neutral.bytesOf x).map octV := by
  unfold Zn64Neutral.bytesOf
  rw [List.map_map]
  refine List.map_congr_left fun n hn => ?_
  have := List.all_eq_true.mp h n hn
  rw [Bool.and_eq_true] at this
  have h1 := of_decide_eq_true this.1
  have h2 := of_decide_eq_true this.2
  show V.int n = octV (UInt8.ofNat n.toNat)
  rw [oct_mod, Nat.mod_eq_of_lt (by omega)]
  show V.int n = V.int ((n.toNat : Nat) : Int)
  rw [Int.toNat_of_nonneg h1]
theorem numbers_oct (l : List UInt8) : (Zn64Neutral.numbersOf l).map V.int = l.map octV := by
  unfold Zn64Neutral.numbersOf
  rw [List.map_map]
  rfl
theorem Out1.sq {K : PySem.W.Frag} {H H' : Hp} {L L' : WL} (o : Out1 H H' L L') {p : Addr} {xs : List V} (h : SqL K H p xs) (ht : L.tag p = none) : SqL K H' p xs := by
  rcases h with (h | ⟨z, h⟩) | h
  · exact .inl (.inl (o.fr _ _ h ht))
  · exact .inl (.inr ⟨z, o.fr _ _ h ht⟩)
  · exact .inr h
/-- a list that is not the desk's is written -/
theorem WorldAt.wr {K : PySem.W.Frag} {H : Hp} {n : Nat} {L : WL} {w : R7293g.Spec.World} {f : Addr} {xs ys : List V} (h : WorldAt K H n L w) (ht : L.tag f = none) (hf : H f = some (.lst xs)) : WorldAt K (upd H f (.lst ys)) n L w := by
  have F : Fr H (upd H f (.lst ys)) (fun b => b = f) := Fr.one hf rfl
  have ns : ∀ {b t}, L.tag b = some t → ¬ b = f := fun {b t} hb z => by
    rw [z, ht] at hb
    cases hb
  obtain ⟨kd, d1, d2, d3⟩ := h.ds
  obtain ⟨kf, f1, f2, f3⟩ := h.fs
  obtain ⟨kw, w1, w2, w3⟩ := h.ws
  refine ⟨F.fr _ _ h.obj (ns h.t1), all2_ix h.doors fun j e u he q => F.door q fun b s => ns (h.td j e he b s), all2_ix h.fields fun j e u he q => F.field q fun b s => ns (h.tf j e he b s), ⟨kd, F.fr _ _ d1 (ns h.t2), d2, d3⟩, ⟨kf, F.fr _ _ f1 (ns h.t3), f2, f3⟩, ⟨kw, F.fr _ _ w1 (ns h.t4), w2, fun s tr hs => ?_⟩,
    h.l1, h.l2, h.l3, h.t1, h.t2, h.t3, h.t4, h.n1, h.n2, h.n3, h.td, h.tf⟩
  obtain ⟨e, a, dx, q1, q2, q3, q4⟩ := w3 s tr hs
  exact ⟨e, a, dx, q1, q2, F.fr _ _ q3 (ns q4), q4⟩
/-- the calls, as they were handed in -/
def CallsAt (K : PySem.W.Frag) (H : Hp) (p : Addr) (xs : List V) : Prop := SqL K (fun _ => none) p xs ∨ ∃ z, H p = some (.frz z (.lst xs))
theorem CallsAt.sq {K : PySem.W.Frag} {H : Hp} {p : Addr} {xs : List V} (h : CallsAt K H p xs) : SqL K H p xs := by
  rcases h with h | ⟨z, h⟩
  · exact ex_l (fun _ _ z => by cases z) h
  · exact .inl (.inr ⟨z, h⟩)
def sp_answers (K : PySem.W.Frag) : Sp := fun vs H Q _ => vs.length = 1 ∧ ∃ p l, vs = [.ref p] ∧ CallsAt K H p (l.map V.int) ∧ PyZn64.answers_asked l = true ∧ ∀ r H', H' r = some (.lst ((PyZn64.answers l).map V.int)) → Q (.ref r) H'
/-- a step, laid open -/
theorem step_open {s : Rust.St} {x : List Int} {c : R7293g.Spec.Call} (h1 : Rust.asked (Zn64Neutral.bytesOf x) = some c) (h2 : Rust.canBe s c = true) : Zn64Neutral.step s x = ((R7293g.Spec.step s c).1, Zn64Neutral.numbersOf (RWire.writeAnswer (Rust.answerOf (R7293g.Spec.step s c).2))) ∧
    (Rust.step s (Zn64Neutral.bytesOf x)).2 = RWire.writeAnswer (Rust.answerOf (R7293g.Spec.step s c).2) := by
  have e : Rust.step s (Zn64Neutral.bytesOf x) = ((R7293g.Spec.step s c).1, RWire.writeAnswer (Rust.answerOf (R7293g.Spec.step s c).2)) := by
    unfold Rust.step
    rw [h1]
    dsimp only
    rw [if_pos h2]
  unfold Zn64Neutral.step
  rw [e]
  exact ⟨rfl, rfl⟩
theorem goes_open {s : Rust.St} {left : Nat} {b : List UInt8} {r : List (List UInt8)} (h : Rust.goes s left (b :: r) = true) : ∃ c, Rust.asked b = some c ∧ Rust.canBe s c = true ∧ Rust.tellable (R7293g.Spec.step s c).2 = true ∧ (Rust.step s b).2.length ≤ 65536 ∧ ∃ left', Rust.goes (R7293g.Spec.step s c).1 left' r = true := by
  unfold Rust.goes at h
  cases ha : Rust.asked b with
  | none => rw [ha] at h; cases h
  | some c =>
    rw [ha] at h
    dsimp only at h
    rw [Bool.and_eq_true, Bool.and_eq_true, Bool.and_eq_true, Bool.and_eq_true] at h
    exact ⟨c, rfl, h.1.1.1.1, h.1.1.1.2, Nat.le_of_ble_eq_true h.1.1.2, _, h.2⟩
def t_answers (K : PySem.W.Frag) : TS :=
  (tSeq (tAsg (tMake (cA K "Desk") (sp_Desk___init__ K) [] E0 tNil) (gName 1))
  (tSeq (tAsg (tLst tNil) (gName 2))
  (tSeq (tAsg (tC (.int 0)) (gName 3))
  (tSeq (tWhile (tTest (tOp rrLt (tVar 3) (tCB (rLenS K) (tCons (tVar 0) tNil)))) (tSeq (tAsg (tOp (rIxL K) (tVar 0) (tOp rrAdd (tVar 3) (tC (.int 1)))) (gName 4))
  (tSeq (tAsg (tCall (sp_reply K) [] E0 (tCons (tVar 1) (tCons (tSl (rSlL K) (tVar 0) (tPart (tOp rrAdd (tVar 3) (tC (.int 2)))) (tPart (tOp rrAdd (tOp rrAdd (tVar 3) (tC (.int 2))) (tVar 4)))) tNil))) (gName 5))
  (tSeq (tAug 3 (tOp rrAdd (tC (.int 2)) (tVar 4)) (ipI fun i j => i + j))
  (tSeq (tDrop (tBM K "list" rAppend (tVar 2) (tCons (tCB (rLenS K) (tCons (tVar 5) tNil)) tNil)))
  (tDrop (tBM K "list" rExtend (tVar 2) (tCons (tVar 5) tNil))))))))
  (tRet (tVar 2))))))
section
variable {P : Program} {w : World} {K : PySem.W.Frag} {mg : Str → Option Value} {base : Heap}
theorem pure_answers (T : Tx K mg) (vs : List V) (H : Hp) (Q : VK) (E : XK) (h : sp_answers K vs H Q E) : t_answers K { nx := fun _ H' => Q .non H', rt := Q } (start ["calls", "desk", "found", "at", "many", "own"] vs) H := by
  obtain ⟨_, p, l, rfl, hp, hask, q⟩ := h
  obtain ⟨xs, hl, hans, hx200, hby, hfit, hlen⟩ := asked_open l hask
  rw [hans] at hlen q
  unfold Rust.fits at hfit
  rw [Bool.and_eq_true, Bool.and_eq_true, Bool.and_eq_true] at hfit
  have hoct := hfit.1.1.2
  have hgo := hfit.2
  unfold t_answers
  walk_at "ev"
  refine s_make ?_
  walk_at "ev"
  refine mk_desk fun L0 H1 x1 hun hW0 => ?_
  obtain ⟨L, ek, _, hW, hcl, hun2⟩ := hW0.clean
  have hp1 : SqL K (fun _ => none) p (l.map V.int) ∨ ∃ z, H1 p = some (.frz z (.lst (l.map V.int))) ∧ L.tag p = none := by
    rcases hp with hp | ⟨z, hp⟩
    · exact .inl hp
    · exact .inr ⟨z, x1 _ _ hp, hun2 p (hun p (by rw [hp]; exact fun z => nomatch z))⟩
  walk_at "ev"
  rename_i f H2 hf x2 h2
  refine ⟨fun m σ H' => ∃ (rest : List (List Int)) (s : Rust.St) (n : Nat) (L' : WL) (acc : List Int) (pos left : Nat) (a4 a5 : Option V), m = rest.length ∧ σ = [some (.ref p), some (.ref L'.k), some (.ref f), some (natV pos), a4, a5] ∧ WorldAt K H' n L' s ∧ n + rest.length ≤ 200 ∧
      (SqL K (fun _ => none) p (l.map V.int) ∨ ∃ z, H' p = some (.frz z (.lst (l.map V.int))) ∧ L'.tag p = none) ∧ L'.tag f = none ∧ H' f = some (.lst (acc.map V.int)) ∧ acc ++ runs s rest = runs Rust.start xs ∧ pos ≤ l.length ∧ l.drop pos = flat rest ∧
      (∀ x ∈ rest, NeutralIO.bytes x = true ∧ (Zn64Neutral.bytesOf x).length ≤ 60000) ∧ Rust.goes s left (rest.map Zn64Neutral.bytesOf) = true,
    ⟨_, xs, Rust.start, 0, L, [], 0, Rust.answersAllMost, none, none, rfl, by rw [ek]; rfl, hW.ex x2, by omega, ?_, hcl f hf, h2, rfl, Nat.zero_le _, hl, fun x hx => ⟨hby x hx, ?_⟩, hgo⟩, ?_⟩
  · rcases hp1 with h | ⟨z, h, ht⟩
    · exact .inl h
    · exact .inr ⟨z, x2 _ _ h, ht⟩
  · exact Nat.le_of_ble_eq_true (List.all_eq_true.mp hoct _ (List.mem_map.mpr ⟨x, hx, rfl⟩))
  rintro m σ H3 ⟨rest, s, n, L', acc, pos, left, a4, a5, rfl, rfl, hW3, hn, hp3, htf, hf3, hacc, hpos, hdr, hrb, hgo3⟩
  have hq3 : SqL K H3 p (l.map V.int) := CallsAt.sq (hp3.imp_right fun ⟨z, h, _⟩ => ⟨z, h⟩)
  walk_at "ev"
  rw [List.length_map]
  cases rest with
  | nil =>
    have hz : l.length - pos = 0 := by
      have := congrArg List.length hdr
      rw [List.length_drop] at this
      exact this
    refine ite_b (fun c => ?_) (fun c => ?_)
    · have := of_decide_eq_true c
      omega
    · walk_at "ev"
      have hacc : acc ++ [] = runs Rust.start xs := hacc
      rw [List.append_nil] at hacc
      refine q f H3 ?_
      rw [hf3, hacc]
  | cons x r =>
    have hfl : flat (x :: r) = 0 :: (x.length : Int) :: (x ++ flat r) := rfl
    rw [hfl] at hdr
    have hz : l.length - pos = x.length + (flat r).length + 2 := by
      have := congrArg List.length hdr
      rw [List.length_drop, List.length_cons, List.length_cons, List.length_append] at this
      exact this
    refine ite_b (fun c => ?_) (fun c => ?_)
    · obtain ⟨hb1, hb2⟩ := hrb x List.mem_cons_self
      have hgo3 : Rust.goes s left (Zn64Neutral.bytesOf x :: r.map Zn64Neutral.bytesOf) = true := hgo3
      obtain ⟨cl, ha1, ha2, ha3, ha4, left', ha5⟩ := goes_open hgo3
      obtain ⟨st1, st2⟩ := step_open (x := x) ha1 ha2
      have hin : R7293g.Spec.within s cl = true := by
        have ha2 : (R7293g.Spec.within s cl && true) = true := ha2
        rw [Bool.and_true] at ha2
        exact ha2
      have hix : atI (l.map V.int) ((pos : Int) + 1) = some (natV x.length) := by
        rw [show (pos : Int) + 1 = ((pos + 1 : Nat) : Int) by omega]
        refine atI_nat ?_
        have : (l.drop pos)[1]? = some (x.length : Int) := by rw [hdr]; rfl
        rw [List.getElem?_drop] at this
        rw [List.getElem?_map, this]
        rfl
      have hcut : cutV (l.map V.int) (some ((pos : Int) + 2)) (some ((pos : Int) + 2 + (x.length : Nat))) = x.map V.int := by
        rw [show (pos : Int) + 2 = ((pos + 2 : Nat) : Int) by omega, cut_eq, ← List.map_drop, ← List.map_take]
        congr 1
        rw [← List.drop_drop, hdr]
        show (x ++ flat r).take x.length = x
        rw [List.take_left']
        rfl
      refine ⟨fun σ' H' => ∃ (rest : List (List Int)) (s : Rust.St) (n : Nat) (L' : WL) (acc : List Int) (pos left : Nat) (a4 a5 : Option V), rest.length = r.length ∧ σ' = [some (.ref p), some (.ref L'.k), some (.ref f), some (natV pos), a4, a5] ∧ WorldAt K H' n L' s ∧ n + rest.length ≤ 200 ∧
        (SqL K (fun _ => none) p (l.map V.int) ∨ ∃ z, H' p = some (.frz z (.lst (l.map V.int))) ∧ L'.tag p = none) ∧ L'.tag f = none ∧ H' f = some (.lst (acc.map V.int)) ∧ acc ++ runs s rest = runs Rust.start xs ∧ pos ≤ l.length ∧ l.drop pos = flat rest ∧
        (∀ x ∈ rest, NeutralIO.bytes x = true ∧ (Zn64Neutral.bytesOf x).length ≤ 60000) ∧ Rust.goes s left (rest.map Zn64Neutral.bytesOf) = true, fun σ' H' ⟨rest, s, n, L', acc, pos, left, a4, a5, e, hh⟩ => ⟨rest.length, by rw [e, List.length_cons]; exact Nat.lt_succ_self _, rest, s, n, L', acc, pos, left, a4, a5, rfl, hh⟩, ?_⟩
      walk_at "ev"
      try (refine s_ixL hq3 hix ?_; walk_at "ev")
      refine s_sl hq3 fun qa H4 hqa x4 h4 => ?_
      rw [hcut, bytes_oct hb1] at h4
      walk_at "ev"
      refine ⟨rfl, n, L', s, qa, Zn64Neutral.bytesOf x, cl, rfl, hW3.ex x4, by rw [List.length_cons] at hn; omega, h4, by omega, ha1, hin, ha3, by rw [← st2]; omega, fun L5 H5 ra hne hW5 hO h5 => ?_⟩
      have hf4 := x4 _ _ hf3
      have hf5 := hO.fr _ _ hf4 htf
      have htf5 := hO.tg f (by rw [hf4]; exact fun z => nomatch z) htf
      have hfr : f ≠ ra := hne f _ hf4 htf
      have hp5 : SqL K (fun _ => none) p (l.map V.int) ∨ ∃ z, H5 p = some (.frz z (.lst (l.map V.int))) ∧ L5.tag p = none := by
        rcases hp3 with h | ⟨z, h, ht⟩
        · exact .inl h
        · exact .inr ⟨z, hO.fr _ _ (x4 _ _ h) ht, hO.tg p (by rw [x4 _ _ h]; exact fun z => nomatch z) ht⟩
      have hout : (RWire.writeAnswer (Rust.answerOf (R7293g.Spec.step s cl).2)).length ≤ 65536 := by rw [← st2]; exact ha4
      have hacl : acc.length ≤ 10000000 := by
        have := congrArg List.length hacc
        rw [List.length_append] at this
        omega
      walk_at "ev"
      refine s_aug rfl ?_
      walk_at "ev"
      refine s_app hf5 (by rw [List.length_map]; exact hacl) ?_
      rw [List.length_map]
      generalize hH6 : upd H5 f (.lst (acc.map V.int ++ [V.int (((RWire.writeAnswer (Rust.answerOf (R7293g.Spec.step s cl).2)).length : Nat) : Int)])) = H6
      have hf6 : H6 f = some (.lst ((acc ++ [(((RWire.writeAnswer (Rust.answerOf (R7293g.Spec.step s cl).2)).length : Nat) : Int)]).map V.int)) := by
        rw [← hH6, upd_same, List.map_append]
        rfl
      have hr6 : H6 ra = some (.lst ((RWire.writeAnswer (Rust.answerOf (R7293g.Spec.step s cl).2)).map octV)) := by
        rw [← hH6, upd_ne (fun z => hfr z.symm)]
        exact h5
      have hW6 : WorldAt K H6 (n + 1) L5 (R7293g.Spec.step s cl).1 := by
        rw [← hH6]
        exact hW5.wr htf5 hf5
      walk_at "ev"
      refine s_ext hf6 hr6 (by
        rw [List.length_map, List.length_map, List.length_append, List.length_singleton]
        omega) ?_
      walk_at "ev"
      refine ⟨r, (R7293g.Spec.step s cl).1, n + 1, L5, (acc ++ [(((RWire.writeAnswer (Rust.answerOf (R7293g.Spec.step s cl).2)).length : Nat) : Int)]) ++ Zn64Neutral.numbersOf (RWire.writeAnswer (Rust.answerOf (R7293g.Spec.step s cl).2)), pos + (2 + x.length), left', _, _, rfl, by rw [hO.k]; rfl, hW6.wr htf5 hf6, by rw [List.length_cons] at hn; omega, ?_, htf5, ?_, ?_, by omega, ?_, fun y hy => hrb y (List.mem_cons_of_mem _ hy), ha5⟩
      · rcases hp5 with h | ⟨z, h, ht⟩
        · exact .inl h
        · have pf : p ≠ f := ne_of h hf5 (fun z => nomatch z)
          refine .inr ⟨z, ?_, ht⟩
          rw [upd_ne pf, ← hH6, upd_ne pf]
          exact h
      · rw [upd_same, ← numbers_oct, ← List.map_append]
      · rw [← hacc]
        show _ = acc ++ ((((Zn64Neutral.step s x).2.length : Nat) : Int) :: (Zn64Neutral.step s x).2 ++ runs (Zn64Neutral.step s x).1 r)
        rw [st1]
        have hnl : (Zn64Neutral.numbersOf (RWire.writeAnswer (Rust.answerOf (R7293g.Spec.step s cl).2))).length = (RWire.writeAnswer (Rust.answerOf (R7293g.Spec.step s cl).2)).length := by
          unfold Zn64Neutral.numbersOf
          rw [List.length_map]
        dsimp only
        rw [hnl, List.append_assoc, List.append_assoc]
        rfl
      · rw [← List.drop_drop, hdr]
        show ((0 : Int) :: (x.length : Int) :: (x ++ flat r)).drop (2 + x.length) = flat r
        rw [← List.drop_drop]
        show (x ++ flat r).drop x.length = flat r
        rw [List.drop_left']
        rfl
    · have := of_decide_eq_false c
      omega
/-- the law's def: what it promises, over every heap that holds the text -/
theorem ok_answers (T : Tx K mg) : ∃ fd : FuncData, (∀ (s : Shared) (us : List Value), us.length = ["calls"].length → BindsTo s fd ⟨us, []⟩ ((["calls"] : List Str).zip us)) ∧ ∀ base : Heap, FnOk P w K mg base CX0 39 (He.fAd K ("answers", none)) fd ["calls"] (sp_answers K) := by
  obtain ⟨fd, F⟩ := T.fn 34 (p := ("answers", none)) (n := "answers") (q := "answers") (st := s_answers)
  refine ⟨fd, F.bindsA (ps := ["calls"]) fun _ _ _ _ _ _ us hl => match us, hl with | [_], _ => rfl, fun base => F.ok sc_answers (fun _ _ _ _ h => h.1) fun cdv A outer s H vs Q E hr h => ⟨t_answers K, PSs.nox ?_, pure_answers T vs H Q E h⟩⟩
  exact (pss_cons (ps_set (i := 1) sc_answers.nd rfl (Or.inl rfl) (pe_cp0 (ok_Desk___init__ T) (hr.mono (by decide)) pass0))
    (pss_cons (ps_set (i := 2) sc_answers.nd rfl (Or.inl rfl) (pe_lst pa_nil))
    (pss_cons (ps_set (i := 3) sc_answers.nd rfl (Or.inl rfl) pe_int)
    (pss_cons (ps_while PassesOwn.never (pt_cmpR op_lt (pv 3) (pe_callB call_len_seq (by rfl) (T.free 40) PySem.boot_len (pa_cons (pv 0) pa_nil)) (nomark _)) (pss_cons (ps_set (i := 4) sc_answers.nd rfl (Or.inl rfl) (pe_ix ix_list (pv 0) (pe_op op_add (pv 3) pe_int) (fun _ _ => rfl)))
    (pss_cons (ps_set (i := 5) sc_answers.nd rfl (Or.inl rfl) (pe_pk (ok_reply T) (hr.mono (by decide)) pass0 (pa_cons (pv 1) (pa_cons (pe_slice sl_list (pv 0) (po_some (pe_op op_add (pv 3) pe_int)) (po_some (pe_op op_add (pe_op op_add (pv 3) pe_int) (pv 4)))) pa_nil))))
    (pss_cons (ps_aug (i := 3) sc_answers.nd rfl (Or.inl rfl) (pe_op op_add pe_int (pv 4)) ip_add)
    (pss_cons (ps_expr (pe_bm PySem.F.plainAttrs_list PySem.F.slot_list_append PySem.F.type_list_append mt_append (pv 2) (pa_cons (pe_callB call_len_seq (by rfl) (T.free 40) PySem.boot_len (pa_cons (pv 5) pa_nil)) pa_nil)))
    (pss_one (ps_expr (pe_bm PySem.F.plainAttrs_list PySem.F.slot_list_extend PySem.F.type_list_extend mt_extend (pv 2) (pa_cons (pv 5) pa_nil)))))))))
    (pss_one (ps_ret (pv 2)))))))
end
end Dk
namespace Dk
open PySem PySem.Spec PyProof.Rows L2 Evl RZ
local macro_rules | `(tactic| walk_at "hp") => `(tactic| first | assumption | exact L2.upd_same | (apply Dk.Ex.at (by assumption); walk_at "hp"))
local macro_rules | `(tactic| walk_at "hq") => `(tactic| first | assumption | (apply Evl.sq_of; walk_at "hp") | (apply Evl.st_of; walk_at "hp") | (apply Evl.ex_l (by assumption); walk_at "hq") | (apply Evl.ex_t (by assumption); walk_at "hq"))
local macro_rules | `(tactic| walk_at "ex") => `(tactic| first | exact Evl.Ex.refl _ | assumption | (refine Evl.Ex.trans ?_ (by assumption); walk_at "ex"))
local macro_rules | `(tactic| walk_at "e1") => `(tactic| first
  | (with_reducible refine if_t ?_) | (with_reducible refine if_f ?_) | (with_reducible refine s_seq ?_) | (with_reducible refine s_asg ?_) | (with_reducible refine s_name ?_) | (with_reducible refine s_drop ?_) | (with_reducible refine s_ret ?_) | (with_reducible refine s_nil ?_) | (with_reducible refine s_cons ?_)
  | (with_reducible refine s_c ?_)
  | ((with_reducible refine' s_var ?h1 ?_); (case h1 => rfl))
  | (with_reducible refine s_op ?_) | (with_reducible refine s_call ?_) | (with_reducible refine s_cb ?_) | (with_reducible refine s_fld ?_) | (with_reducible refine s_tup ?_) | (with_reducible refine s_lst ?_) | (with_reducible refine s_meth ?_) | (with_reducible refine s_test ?_) | (with_reducible refine s_B ?_)
  | (with_reducible refine s_not ?_) | (with_reducible refine s_xb ?_) | (with_reducible refine s_if ?_) | (with_reducible refine s_ifS ?_) | (with_reducible refine s_next ?_) | (with_reducible refine s_sfld ?_)
  | (with_reducible refine s_I0 ?_) | ((with_reducible refine' s_I ?h1 ?_); (case h1 => first | exact ⟨by decide, by decide⟩ | exact .inr ⟨by decide, by decide⟩ | (show (0 : Int) < _; decide) | (show (0 : Int) ≤ _; first | decide | omega) | exact ⟨by omega, by omega⟩))
  | ((with_reducible refine' s_xf ?h1 ?h2 ?h3 ?h4 ?_); (case h1 => walk_at "hp"); (case h2 => exact Tx.clsK (by assumption) (by decide +kernel)); (case h3 => exact Tx.noatK (by assumption) (by decide +kernel)); (case h4 => rfl))
  | ((with_reducible refine' s_xs ?h1 ?h2 ?h3 ?h4 ?h5 ?_); (case h1 => walk_at "hp"); (case h2 => exact Tx.clsK (by assumption) (by decide +kernel)); (case h3 => exact Tx.noatK (by assumption) (by decide +kernel)); (case h4 => exact Dk.lt_ble rfl); (case h5 => rfl))
  | ((with_reducible refine' s_eq ?h1 ?_); (case h1 => rfl)) | ((with_reducible refine' s_ne ?h1 ?_); (case h1 => rfl)) | (with_reducible refine s_isN ?_)
  | ((with_reducible refine' s_xt ?h1 ?_); (case h1 => exact Nat.le_of_ble_eq_true rfl); intro _ _ _ _ _)
  | ((with_reducible refine' s_xl ?h1 ?_); (case h1 => exact Nat.le_of_ble_eq_true rfl); intro _ _ _ _ _)
  | ((with_reducible refine' s_lenL ?h1 ?_); (case h1 => walk_at "hq")) | ((with_reducible refine' s_lenT ?h1 ?_); (case h1 => walk_at "hq"))
  | ((with_reducible refine' s_ixL ?h1 ?h2 ?_); (case h1 => walk_at "hq"); (case h2 => first | assumption | exact atI_0 | exact atI_1 | rfl))
  | ((with_reducible refine' s_ixT ?h1 ?h2 ?_); (case h1 => walk_at "hq"); (case h2 => first | assumption | exact atI_0 | exact atI_1 | rfl))
  | (with_reducible refine s_or ?_) | (with_reducible refine s_and ?_)
  | ((with_reducible refine' s_nin ?h1 ?h2 ?h3 ?_); (case h1 => walk_at "hq"); (case h2 => rfl); (case h3 => rfl))
  | (with_reducible refine s_tru ?_)
  | (with_reducible refine s_ip ?_) | (with_reducible refine s_for1 ?_) | (with_reducible refine s_for2 ?_) | (with_reducible refine s_for3 ?_) | (with_reducible refine s_forL ?_) | (with_reducible refine s_forT ?_) | (with_reducible refine s_lcL ?_) | (with_reducible refine s_lcT ?_) | (with_reducible refine s_lcS ?_) | (with_reducible refine s_lcE ?_) | (with_reducible refine s_lcZ ?_) | (with_reducible refine s_lcZA ?_) | (with_reducible refine s_lcR ?_) | (with_reducible refine s_chain ?_) | (with_reducible refine s_av ?_) | (with_reducible refine s_ov ?_) | (with_reducible refine s_yes ?_) | (with_reducible refine s_tbm ?_) | (with_reducible refine s_ord ?_) | (with_reducible refine s_raise ?_) | (with_reducible refine s_fldaug ?_) | (with_reducible refine s_add ?_) | (with_reducible refine s_slc ?_) | (with_reducible refine s_part ?_) | (with_reducible refine x_p1 ?_) | (with_reducible refine s_nopart ?_)
  | ((with_reducible refine' x_bm ?h1 ?_); (case h1 => walk_at "hq")) | (with_reducible refine s_par1 ?_) | (with_reducible refine s_un ?_) | (with_reducible refine s_uI ?_))
local macro_rules | `(tactic| walk_at "ev") => `(tactic| repeat walk_at "e1")
-- plain
/-! ### the law's call, and the end -/
section
open PySem.W
/-- the asked def walked, where what the head says gives the text's written part -/
theorem walk_law {r : OpenSpec} {k : Nat} {q : Program} {loose : List Str} {XP : (Str → Option Value) → Heap → Prop} {YP : World → Heap → Prop} {d : DefRec} {CX : CXT} {ps : List Str} {sp : PySem.W.Frag → Sp}
    (wl : r.wellSaid = true) (nd : d.params.defaults = []) (la : r.args.length = ps.length) (rm : Room k callerA)
    (F : ∀ (w : World) (mg : Str → Option Value) (fa : Addr) (h : Heap), YP w h → h.Ns mainGlobals mg → mg d.name = some (.ref fa) →
      ∃ (K : PySem.W.Frag) (fd : FuncData), K.In h ∧ (∀ (s : Shared) (us : List Value), us.length = ps.length → BindsTo s fd ⟨us, []⟩ (ps.zip us)) ∧ ∀ base : Heap, K.In base → base.Ns mainGlobals mg → FnOk r.prog w K mg base CX k fa fd ps (sp K))
    (fin : ∀ (K : PySem.W.Frag) (H : Hp) (xs : List V) (a : Codec.denoteAll r.args), OnlyF H → Codec.withinAll r.args a = true → Codec.app r.args r.asked a = true → DwAll K H xs (Codec.encAll r.args a) →
      sp K xs H (fun v H' => Dw K H' v (r.ret.enc (Codec.app r.args r.f a))) fun _ _ _ => False)
    (no : ∀ (H : Hp) (s : Shared) (e : Value) (s' : Shared), CX [] H s (fun _ _ _ => False) e s' → False) : PySem.W.WalkOS q loose XP YP r d [] (fun f vs => PySem.call f vs) := by
  intro w z₀ z₁ mg mb G Y fa o pm cd doc dV kV ho hd hcd hD hmg hgen args vals as pre lay rd well old
  obtain ⟨a, e1, e2⟩ := PySem.W.os_pre_some pre
  obtain ⟨e3, wi⟩ := Codec.encAll_of_decAll r.args args a e1
  obtain ⟨K, fd, KX, hb, hF⟩ := F w mg fa _ Y G.T.g hmg
  subst e3
  have run := spec_call (R := []) (cl := classAt z₀.heap) (d0 := r.ret.enc (Codec.app r.args r.f a)) KX G.T.g G.T.b G.T.builtins G.T.nolimit hgen well (pl_encAll _ _) (layable_weight lay) rm hF hb (by rw [encAll_len]; exact la) (fun H xs hO hS => fin K H xs a hO wi e2 hS) fun H e s' => no H z₁ e s'
  refine PySem.W.enter_call (codeAny_mono run fun u' s' ⟨u, as', eu, h1, h2, h3, h4⟩ => ?_)
  subst eu
  exact ⟨.inl ⟨u, _, as', rfl, fun _ => rfl, h1, (OpenSpec.post_iff wl wi _ _).mpr rfl, fun z => Bool.noConfusion (show false = true from z)⟩, h2, h3, h4⟩
end
theorem dw_list {K : PySem.W.Frag} {H : Hp} {v : V} {ns : List Int} (hO : OnlyF H) (h : Dw K H v (.list (ns.map PySem.W.WData.int))) : ∃ p, v = .ref p ∧ CallsAt K H p (ns.map V.int) := by
  cases h with
  | lst h1 h2 =>
    rename_i a xs
    obtain rfl := ints_dw ns xs h2
    refine ⟨a, rfl, ?_⟩
    rcases h1 with (h1 | ⟨z, h1⟩) | h1
    · rcases hO a with e | ⟨o, u, e⟩
      · rw [e] at h1
        cases h1
      · rw [e] at h1
        cases h1
    · exact .inr ⟨z, h1⟩
    · exact .inl (.inr h1)
theorem law_walk : PySem.W.WalkOS (PySem.W.view R.prog [59]) looseL (PySem.W.XL (PySem.W.view R.prog [59]) []) (hkM 5).says R ((PySem.W.defOf (PySem.W.view R.prog [59]) R.name).get rfl).1 [] (fun f vs => PySem.call f vs) := by
  refine walk_law (k := 39) (CX := CX0) (ps := ["calls"]) (sp := sp_answers) (by decide +kernel) rfl rfl ⟨rfl, by decide, by decide⟩ (fun w mg fa h Y G hm => ?_) (fun K H xs a hO hi ha hD => ?_) (fun _ _ _ _ h => h)
  · obtain ⟨K, KX, s, x⟩ := Y
    have T : Tx K mg := ⟨⟨h, KX, G⟩, s, x⟩
    obtain ⟨fd, b1, b2⟩ := ok_answers (P := R.prog) (w := w) T
    have hm : mg "answers" = some (.ref fa) := hm
    obtain rfl : cA K "answers" = fa := Value.ref.inj (Option.some.inj ((T.glo 34).symm.trans hm))
    exact ⟨K, fd, KX, b1, fun base _ _ => b2 base⟩
  · obtain ⟨l, u⟩ := a
    have hD : DwAll K H xs [.list (l.map PySem.W.WData.int)] := hD
    cases hD with
    | cons h1 h2 =>
      cases h2
      obtain ⟨p, rfl, hp⟩ := dw_list hO h1
      refine ⟨rfl, p, l, rfl, hp, ha, fun r H' hr => ?_⟩
      show Dw K H' (.ref r) (.list ((PyZn64.answers l).map PySem.W.WData.int))
      exact .lst (sq_of hr) (dw_ints _)
/-- the statement -/
theorem holds : R.Holds := by
  refine HeadRun.head_spec (r := R) (q := PySem.W.view R.prog [59]) (H := hkM 5) (ob := obM 5) (M := 8000) (loose := looseL) (d := ((PySem.W.defOf (PySem.W.view R.prog [59]) R.name).get rfl).1) (kwd := []) (fun s => obM_eq 5 s) (by kernel_rfl) (fun s => by kernel_rfl) run (by rfl) (by rfl) (by rfl) PySem.W.os_shapes (by decide +kernel) (by decide +kernel) ⟨rfl, rfl, rfl, rfl, rfl, by decide +kernel⟩ ⟨[.list [.int 0, .int 17, .int 0, .int 0, .int 2, .int 7, .int 0, .int 0, .int 0, .int 0, .int 4, .int 5, .int 0, .int 0, .int 0, .int 0, .int 0, .int 0, .int 0]], by decide +kernel, by decide +kernel⟩ law_walk

end Dk
theorem PySem.Challenge.cw_forgetfuldoor_s01_answers_holds : PySem.Challenge.rw_forgetfuldoor_s01_answers.Holds := by
  exact Dk.holds
