import PyProof.Rows.All
import Wide.All
import OpenK.AllK
import Wide.FinOn
import KE.KStateDown
import HandS.Base
import HandS.Call
import HandS.Defaults
import HandS.Head0
import HandS.Head1
import HandS.Head2
import HandS.HeadHook1
import HandS.HeadHook2
import HandS.ForMost
import HandS.IsInst
import HandS.TupAny
import HandS.RaiseMore
import HandS.Conv
import HandS.WideBits
import HandS.More
import HandS.Style
import PyProof.NeKinds
import PyProof.StrLawsIn
import HandS.TupMul
import HandS.ListItems
import HandS.Zip
import KE.KDictList
import HandS.ReplaceLit
import HandS.ReplaceList
import HandS.ExcInit
import HandS.ExcField
import HandS.ExcOwn
import HandS.TryMany
import HandS.WordsExc
import HandS.ExcIs
import HandS.ExcValue
import KE.KExcInit
import HandS.DeepEq
import HandS.ClsMeth
import PySem.Challenge.RW_anewread_k00_errors_made_by_hand
set_option Elab.async false
set_option linter.all false
set_option maxRecDepth 100000
set_option maxHeartbeats 4000000
set_option autoImplicit false
namespace Aw
open PySem PySem.Spec PyProof.Rows L2
abbrev Fct : Type := PySem.W.Frag → Bool
abbrev AlX : Type := Bool × List He.FnW
def obsX (cs : List Fct) (fn : List He.DefD) (K : PySem.W.Frag) : AlX := ((cs.all fun c => c K) && fn.all fun d => d.ok K, fn.map fun d => He.fnW K d.at_)
def valX (fn : List He.DefD) : AlX := (true, fn.map He.DefD.val)
def SaysX (cs : List Fct) (fn : List He.DefD) (K : PySem.W.Frag) : Prop := obsX cs fn K = valX fn
def hookX (as : List Addr) (cs : List Fct) (fn : List He.DefD) : PySem.W.Hook where
  α := AlX
  obs := fun s => obsX cs fn (He.frG s.heap.get? as)
  val := fun _ => valX fn
  says := fun _ h => ∃ K : PySem.W.Frag, K.In h ∧ SaysX cs fn K
  of := fun _ _ e => ⟨_, He.frG_in, e⟩
  keeps := fun _ _ _ ⟨K, hK, c⟩ k => ⟨K, PySem.W.Frag.In.keeps hK k, c⟩
def obX (as : List Addr) (cs : List Fct) (fn : List He.DefD) (s : PySem.W.SharedT) : AlX := obsX cs fn (He.frG (HandSHeadRun.getT s) as)
theorem obX_eq (as : List Addr) (cs : List Fct) (fn : List He.DefD) (s : PySem.W.SharedT) : obX as cs fn s = (hookX as cs fn).obs s.abs := by
  have e : HandSHeadRun.getT s = s.abs.heap.get? := funext (HandSHeadRun.getT_eq s)
  unfold obX
  rw [e] <;> rfl
section
variable {cs : List Fct} {fn : List He.DefD} {K : PySem.W.Frag} {h : Heap} {mg : Str → Option Value}
theorem SaysX.fact (c : SaysX cs fn K) (i : Nat) {f : Fct} (e : cs[i]? = some f := by rfl) : f K = true := by
  have c1 := (He.ba (show ((cs.all fun c => c K) && fn.all fun d => d.ok K) = true from congrArg (fun z : AlX => z.1) c)).1
  exact List.all_eq_true.mp c1 f (List.mem_of_getElem? e)
theorem SaysX.def_ (c : SaysX cs fn K) (i : Nat) {d : He.DefD} (e : fn[i]? = some d := by rfl) : ∃ fd, FunD K d.name d.qual d.params d.body d.scope (d.dvs K) (d.kws K) (He.fAd K d.at_) fd := by
  have c2 := (He.ba (show ((cs.all fun c => c K) && fn.all fun d => d.ok K) = true from congrArg (fun z : AlX => z.1) c)).2
  have e1 : fn.map (fun d => He.fnW K d.at_) = fn.map He.DefD.val := congrArg (fun z : AlX => z.2) c
  have e2 : (fn.map fun d => He.fnW K d.at_)[i]? = (fn.map He.DefD.val)[i]? := by rw [e1]
  rw [List.getElem?_map, List.getElem?_map, e] at e2
  exact He.DefD.funD (Option.some.inj e2) (List.all_eq_true.mp c2 d (List.mem_of_getElem? e))
end
def rfB (tl : List Value) : List Value → Bool
  | .ref c :: r => rfB tl r || decide (tl = .ref c :: r)
  | l => decide (l = tl)
abbrev leT : List Value := [.type "LookupError", .type "Exception", .type "BaseException", .type "object"]
abbrev veT : List Value := [.type "ValueError", .type "Exception", .type "BaseException", .type "object"]
/-- the class at C, as an error's class stands -/
def excOB (K : PySem.W.Frag) (C : Addr) (newId : String) (tl : List Value) : Bool := match K.lookup C with
  | some ⟨.type t, _, .cls cd, sl⟩ => (match cd.mro, sl.toList with
    | .ref C' :: bm, [_, _, _, _, some (.builtin n), _] => decide (t = "type") && (decide (C' = C) && (decide (n = newId) && (!cd.hasDel && (cd.hasDict && rfB tl bm))))
    | _, _ => false)
  | _ => false
def mroTail (K : PySem.W.Frag) (C : Addr) : List Value := match PySem.W.clsIn K C with
  | some cd => cd.mro.tail
  | none => []
/-- an error's class: the module's name x -/
def efcB (x : Str) (newId : String) (tl : List Value) (bm : PySem.W.Frag → List Value) : Fct := fun K =>
  (He.Fa.glo x).ok K && (excOB K (He.ga K x) newId tl && (decide (mroTail K (He.ga K x) = bm K) && (He.eqO (PySem.W.findIn K (.ref (He.ga K x)) "__setattr__") (some (some (.builtin "object.__setattr__"))) &&
    (He.eqO (PySem.W.findIn K (.ref (He.ga K x)) "__getattribute__") (some (some (.builtin "BaseException.__getattribute__"))) && (He.eqO (PySem.W.findIn K (.ref (He.ga K x)) "__getattr__") (some none) &&
      (PySem.W.keepIn K (.ref (He.ga K x)) && (decide (PySem.W.typeIn K (.ref (He.ga K x)) = some (.type "type")) && (PySem.W.hasDictIn K (He.ga K x) &&
        He.eqO (PySem.W.findIn K (.ref (He.ga K x)) "__class__") (some (some (.builtin "object.__class__")))))))))))
def valB (K : PySem.W.Frag) (c mc : Value) (n : Str) (v : Value) : Bool := match PySem.W.findCls K c mc n with
  | some (.val u) => decide (u = v)
  | _ => false
/-- an int that a class holds -/
def cintB (x f : Str) (i : Int) : Fct := fun K => (He.Fa.glo x).ok K && (PySem.W.readsIn K (He.ga K x) (.type "type") && (decide (PySem.W.specialIn K (.ref (He.ga K x)) "__getattribute__" = some (some (.builtin "type.__getattribute__"))) &&
  (match PySem.W.findCls K (.ref (He.ga K x)) (.type "type") f with
    | some (.val (.int j _)) => decide (j = i)
    | _ => false)))
/-- these classes stand apart -/
def apartB (xs : List Str) : Fct := fun K => decide (xs.map (He.ga K)).Nodup
/-- the state behind the top -/
noncomputable def hdEnd (r : PySem.W.OpenRow) (M : Nat) (w : World) (os : OsState) : Option PySem.W.SharedT := HandSHeadRun.endF (HandSHeadRun.stepQ (HandSHeadRun.denQ HandSHeadRun.tabQ) r.prog w) M r.prog w os
theorem run_of {r : PySem.W.OpenRow} {q : Program} {as : List Addr} {cs : List Fct} {fn : List He.DefD} {M : Nat} {loose : List PySem.Str} {w : World}
    (h1 : ∀ os, (hdEnd r M w os).map (fun s => HandSHeadRun.looksF r.prog (PySem.W.boot_heap w.params) s.abs) = some true)
    (h2 : ∀ os, (hdEnd r M w os).map (fun s => HandSHeadRun.seenQ q loose (importedModules r.prog.main.body) (fun s => PySem.W.xlAt q [] s && PySem.W.recOk r.toRowW.records s) s.abs) = some (PySem.W.openGood q loose))
    (h3 : ∀ os, (hdEnd r M w os).map (fun s => cs.all fun c => c (He.frG (HandSHeadRun.getT s) as)) = some true)
    (h4 : ∀ os, (hdEnd r M w os).map (fun s => fn.all fun d => d.ok (He.frG (HandSHeadRun.getT s) as)) = some true)
    (h5 : ∀ os, (hdEnd r M w os).map (fun s => fn.map fun d => He.fnW (He.frG (HandSHeadRun.getT s) as) d.at_) = some (fn.map He.DefD.val)) :
    HandSHeadRun.RunEq r q (hookX as cs fn) (obX as cs fn) M loose w := by
  intro os
  have a1 := h1 os
  have a2 := h2 os
  have a3 := h3 os
  have a4 := h4 os
  have a5 := h5 os
  show (hdEnd r M w os).map _ = _
  cases e : hdEnd r M w os with
  | none =>
    rw [e] at a1
    cases a1
  | some s =>
    rw [e] at a1 a2 a3 a4 a5
    have b1 := Option.some.inj a1
    have b2 := Option.some.inj a2
    have b3 := Option.some.inj a3
    have b4 := Option.some.inj a4
    have b5 := Option.some.inj a5
    have b6 : obX as cs fn s = valX fn := by
      unfold obX obsX valX
      dsimp only at b3 b4 b5
      rw [b3, b4, b5]
      rfl
    exact congrArg some (Prod.ext b1 (Prod.ext b2 b6))
end Aw
namespace Aw
open PySem L2
def topS (i : Nat) : Stmt := PySem.Challenge.pw_anewread_k00_errors_made_by_hand.main.body.getD i (.Pass ⟨0, 0, 0, 0⟩)
abbrev s_law_deck : Stmt := topS 139
abbrev N_law_deck : List Str := ["_law_script", "_law_cell"]
abbrev P_law_deck : List Str := ["_law_script"]
theorem sc_law_deck : FnScope N_law_deck P_law_deck (defScope s_law_deck) :=
  ⟨rfl, rfl, rfl, by decide +kernel, rfl, by decide +kernel, by decide +kernel⟩
abbrev s_law_draw : Stmt := topS 140
abbrev N_law_draw : List Str := ["_law_deck_here", "_law_many", "_law_cell", "_law_at", "_law_mixed"]
abbrev P_law_draw : List Str := ["_law_deck_here", "_law_many"]
theorem sc_law_draw : FnScope N_law_draw P_law_draw (defScope s_law_draw) :=
  ⟨rfl, rfl, rfl, by decide +kernel, rfl, by decide +kernel, by decide +kernel⟩
abbrev s_law_one : Stmt := topS 141
abbrev N_law_one : List Str := ["_law_deck_here", "_law_items"]
abbrev P_law_one : List Str := ["_law_deck_here", "_law_items"]
theorem sc_law_one : FnScope N_law_one P_law_one (defScope s_law_one) :=
  ⟨rfl, rfl, rfl, by decide +kernel, rfl, by decide +kernel, by decide +kernel⟩
abbrev s_law_value : Stmt := topS 142
abbrev N_law_value : List Str := ["_law_deck_here", "_law_many", "_law_values"]
abbrev P_law_value : List Str := ["_law_deck_here"]
theorem sc_law_value : FnScope N_law_value P_law_value (defScope s_law_value) :=
  ⟨rfl, rfl, rfl, by decide +kernel, rfl, by decide +kernel, by decide +kernel⟩
abbrev s_law_kinds : Stmt := topS 143
abbrev N_law_kinds : List Str := ["_law_e", "_law_found"]
abbrev P_law_kinds : List Str := ["_law_e"]
theorem sc_law_kinds : FnScope N_law_kinds P_law_kinds (defScope s_law_kinds) :=
  ⟨rfl, rfl, rfl, by decide +kernel, rfl, by decide +kernel, by decide +kernel⟩
abbrev s_law_kinds_right : Stmt := topS 144
abbrev N_law_kinds_right : List Str := ["_law_a", "_law_some", "_law_k", "_law_j", "_law_e"]
abbrev P_law_kinds_right : List Str := ["_law_a"]
theorem sc_law_kinds_right : FnScope N_law_kinds_right P_law_kinds_right (defScope s_law_kinds_right) :=
  ⟨rfl, rfl, rfl, by decide +kernel, rfl, by decide +kernel, by decide +kernel⟩
abbrev s_law_fields_right : Stmt := topS 145
abbrev N_law_fields_right : List Str := ["_law_a", "_law_b", "_law_found", "_law_one_here"]
abbrev P_law_fields_right : List Str := ["_law_a", "_law_b"]
theorem sc_law_fields_right : FnScope N_law_fields_right P_law_fields_right (defScope s_law_fields_right) :=
  ⟨rfl, rfl, rfl, by decide +kernel, rfl, by decide +kernel, by decide +kernel⟩
abbrev s_law_bounds : Stmt := topS 146
abbrev N_law_bounds : List Str := ["_law_found"]
abbrev P_law_bounds : List Str := []
theorem sc_law_bounds : FnScope N_law_bounds P_law_bounds (defScope s_law_bounds) :=
  ⟨rfl, rfl, rfl, by decide +kernel, rfl, by decide +kernel, by decide +kernel⟩
abbrev sBadText___init__ : Stmt := inClass (topS 3) 0
abbrev NBadText___init__ : List Str := ["self", "line"]
abbrev PBadText___init__ : List Str := ["self", "line"]
theorem scBadText___init__ : FnScope NBadText___init__ PBadText___init__ (defScope sBadText___init__) :=
  ⟨rfl, rfl, rfl, by decide +kernel, rfl, by decide +kernel, by decide +kernel⟩
abbrev sBadProgram___init__ : Stmt := inClass (topS 4) 0
abbrev NBadProgram___init__ : List Str := ["self", "error"]
abbrev PBadProgram___init__ : List Str := ["self", "error"]
theorem scBadProgram___init__ : FnScope NBadProgram___init__ PBadProgram___init__ (defScope sBadProgram___init__) :=
  ⟨rfl, rfl, rfl, by decide +kernel, rfl, by decide +kernel, by decide +kernel⟩
abbrev sBadFix___init__ : Stmt := inClass (topS 5) 0
abbrev NBadFix___init__ : List Str := ["self", "value"]
abbrev PBadFix___init__ : List Str := ["self", "value"]
theorem scBadFix___init__ : FnScope NBadFix___init__ PBadFix___init__ (defScope sBadFix___init__) :=
  ⟨rfl, rfl, rfl, by decide +kernel, rfl, by decide +kernel, by decide +kernel⟩
abbrev sBadNumber___init__ : Stmt := inClass (topS 6) 0
abbrev NBadNumber___init__ : List Str := ["self", "number"]
abbrev PBadNumber___init__ : List Str := ["self", "number"]
theorem scBadNumber___init__ : FnScope NBadNumber___init__ PBadNumber___init__ (defScope sBadNumber___init__) :=
  ⟨rfl, rfl, rfl, by decide +kernel, rfl, by decide +kernel, by decide +kernel⟩
abbrev sBadReadings___init__ : Stmt := inClass (topS 7) 0
abbrev NBadReadings___init__ : List Str := ["self", "readings"]
abbrev PBadReadings___init__ : List Str := ["self", "readings"]
theorem scBadReadings___init__ : FnScope NBadReadings___init__ PBadReadings___init__ (defScope sBadReadings___init__) :=
  ⟨rfl, rfl, rfl, by decide +kernel, rfl, by decide +kernel, by decide +kernel⟩
abbrev sBadLength___init__ : Stmt := inClass (topS 8) 0
abbrev NBadLength___init__ : List Str := ["self", "length"]
abbrev PBadLength___init__ : List Str := ["self", "length"]
theorem scBadLength___init__ : FnScope NBadLength___init__ PBadLength___init__ (defScope sBadLength___init__) :=
  ⟨rfl, rfl, rfl, by decide +kernel, rfl, by decide +kernel, by decide +kernel⟩
abbrev sBadVectors___init__ : Stmt := inClass (topS 9) 0
abbrev NBadVectors___init__ : List Str := ["self", "index"]
abbrev PBadVectors___init__ : List Str := ["self", "index"]
theorem scBadVectors___init__ : FnScope NBadVectors___init__ PBadVectors___init__ (defScope sBadVectors___init__) :=
  ⟨rfl, rfl, rfl, by decide +kernel, rfl, by decide +kernel, by decide +kernel⟩
abbrev sBadVector___init__ : Stmt := inClass (topS 10) 0
abbrev NBadVector___init__ : List Str := ["self", "vector"]
abbrev PBadVector___init__ : List Str := ["self", "vector"]
theorem scBadVector___init__ : FnScope NBadVector___init__ PBadVector___init__ (defScope sBadVector___init__) :=
  ⟨rfl, rfl, rfl, by decide +kernel, rfl, by decide +kernel, by decide +kernel⟩
abbrev sOtherLength___init__ : Stmt := inClass (topS 11) 0
abbrev NOtherLength___init__ : List Str := ["self", "length"]
abbrev POtherLength___init__ : List Str := ["self", "length"]
theorem scOtherLength___init__ : FnScope NOtherLength___init__ POtherLength___init__ (defScope sOtherLength___init__) :=
  ⟨rfl, rfl, rfl, by decide +kernel, rfl, by decide +kernel, by decide +kernel⟩
abbrev sNoReader___init__ : Stmt := inClass (topS 12) 0
abbrev NNoReader___init__ : List Str := ["self", "place"]
abbrev PNoReader___init__ : List Str := ["self", "place"]
theorem scNoReader___init__ : FnScope NNoReader___init__ PNoReader___init__ (defScope sNoReader___init__) :=
  ⟨rfl, rfl, rfl, by decide +kernel, rfl, by decide +kernel, by decide +kernel⟩
abbrev sIsHeld___init__ : Stmt := inClass (topS 13) 0
abbrev NIsHeld___init__ : List Str := ["self", "place"]
abbrev PIsHeld___init__ : List Str := ["self", "place"]
theorem scIsHeld___init__ : FnScope NIsHeld___init__ PIsHeld___init__ (defScope sIsHeld___init__) :=
  ⟨rfl, rfl, rfl, by decide +kernel, rfl, by decide +kernel, by decide +kernel⟩
abbrev sNotHeld___init__ : Stmt := inClass (topS 14) 0
abbrev NNotHeld___init__ : List Str := ["self", "place"]
abbrev PNotHeld___init__ : List Str := ["self", "place"]
theorem scNotHeld___init__ : FnScope NNotHeld___init__ PNotHeld___init__ (defScope sNotHeld___init__) :=
  ⟨rfl, rfl, rfl, by decide +kernel, rfl, by decide +kernel, by decide +kernel⟩
abbrev sLoose___init__ : Stmt := inClass (topS 15) 0
abbrev NLoose___init__ : List Str := ["self", "number", "index"]
abbrev PLoose___init__ : List Str := ["self", "number", "index"]
theorem scLoose___init__ : FnScope NLoose___init__ PLoose___init__ (defScope sLoose___init__) :=
  ⟨rfl, rfl, rfl, by decide +kernel, rfl, by decide +kernel, by decide +kernel⟩
abbrev sBadEdit___init__ : Stmt := inClass (topS 21) 0
abbrev NBadEdit___init__ : List Str := ["self", "index"]
abbrev PBadEdit___init__ : List Str := ["self", "index"]
theorem scBadEdit___init__ : FnScope NBadEdit___init__ PBadEdit___init__ (defScope sBadEdit___init__) :=
  ⟨rfl, rfl, rfl, by decide +kernel, rfl, by decide +kernel, by decide +kernel⟩
abbrev sRejected___init__ : Stmt := inClass (topS 22) 0
abbrev NRejected___init__ : List Str := ["self", "index"]
abbrev PRejected___init__ : List Str := ["self", "index"]
theorem scRejected___init__ : FnScope NRejected___init__ PRejected___init__ (defScope sRejected___init__) :=
  ⟨rfl, rfl, rfl, by decide +kernel, rfl, by decide +kernel, by decide +kernel⟩
abbrev sNoPlace___init__ : Stmt := inClass (topS 23) 0
abbrev NNoPlace___init__ : List Str := ["self", "place"]
abbrev PNoPlace___init__ : List Str := ["self", "place"]
theorem scNoPlace___init__ : FnScope NNoPlace___init__ PNoPlace___init__ (defScope sNoPlace___init__) :=
  ⟨rfl, rfl, rfl, by decide +kernel, rfl, by decide +kernel, by decide +kernel⟩
abbrev sNoVersion___init__ : Stmt := inClass (topS 24) 0
abbrev NNoVersion___init__ : List Str := ["self", "version"]
abbrev PNoVersion___init__ : List Str := ["self", "version"]
theorem scNoVersion___init__ : FnScope NNoVersion___init__ PNoVersion___init__ (defScope sNoVersion___init__) :=
  ⟨rfl, rfl, rfl, by decide +kernel, rfl, by decide +kernel, by decide +kernel⟩
abbrev slaw : Stmt := topS 147
abbrev Nlaw : List Str := ["_law_script", "_law_deck_here", "_law_turn", "_law_a", "_law_b"]
abbrev Plaw : List Str := ["_law_script"]
theorem sclaw : FnScope Nlaw Plaw (defScope slaw) :=
  ⟨rfl, rfl, rfl, by decide +kernel, rfl, by decide +kernel, by decide +kernel⟩
abbrev hdR : PySem.W.OpenRow := PySem.W.OpenLaw.row PySem.Challenge.rw_anewread_k00_errors_made_by_hand
abbrev hdV : Program := PySem.W.view hdR.prog [147]
def hdN0 : List (PySem.Str) := ["_wall", "ReadError", "BadText", "BadProgram", "BadFix", "BadNumber", "BadReadings", "BadLength", "BadVectors", "BadVector", "OtherLength", "NoReader", "IsHeld", "NotHeld", "Loose", "Busy", "TooManyEdits", "NothingToUndo", "NothingToRedo", "BadEdits", "BadEdit", "Rejected", "NoPlace", "NoVersion", "MAX_NAME", "MAX_WORD", "MAX_TIMES", "MAX_DEEP", "MAX_NOTS", "MAX_BY"]
def hdN1 : List (PySem.Str) := ["MAX_PLACES", "MAX_WEIGHT", "MAX_RESTS", "MAX_COMPARINGS", "MAX_NEST", "MAX_LENGTH", "MAX_MODULUS", "MAX_PERIOD", "MAX_EDITS", "BATCH", "LETTERS", "SIGNS", "KEPT", "UNSURE_programs", "MOST_NUMBER", "MOST_FACTOR", "is_whole", "is_word", "is_name", "is_expression", "is_rest", "is_test", "is_plain", "is_statement", "blocks_of", "items_within", "rows_of", "rows_of_programs", "order_error", "bare"]
def hdN2 : List (PySem.Str) := ["own_count", "counted", "weight", "program_error", "each_statement", "READERS_benchedits", "statements_in", "size_of", "with_inner", "with_others", "all_in", "placed_at", "need_program", "moved", "added", "dropped", "changed", "held_too", "freed", "edited", "is_integer", "is_integer_lattices", "vector_plus", "times_vector", "lead_of", "cleared_rows", "basis_of", "rest_by", "UNSURE_pieces", "NOTHING"]
def hdN3 : List (PySem.Str) := ["WHOLE", "placed", "inner_blocks", "common", "filled", "joined", "has_reading", "Path", "is_there", "first_at", "last_at", "is_at", "rank", "first_points", "greater_low", "lesser_high", "less_parts", "gone_into", "Walker", "rest_parts", "Row", "rows_of_pieces", "first_of", "row_at", "basis_at", "with_numbers", "outcome_with", "loose_items", "loose_with", "READERS_fixes"]
def hdN4 : List (PySem.Str) := ["reader_places", "is_fix", "loose_fixed", "is_integer_benches", "need_integer", "Bench", "SureBench", "_law_deck", "_law_draw", "_law_one", "_law_value", "_law_kinds", "_law_kinds_right", "_law_fields_right", "_law_bounds"]
def hdN : List (PySem.Str) := hdN0 ++ hdN1 ++ hdN2 ++ hdN3 ++ hdN4
def hdA0 : List (Addr) := [2, 3, 15, 17, 18, 20, 21, 22, 29, 30, 31, 32, 35, 42, 44, 45, 47, 48, 49, 50, 51, 54, 61, 63, 64, 66, 67, 68, 69, 70, 73, 80, 82, 83, 85, 86, 87, 88, 89, 92, 99, 101, 102, 104, 105, 106, 107, 108, 111, 118]
def hdA1 : List (Addr) := [120, 121, 123, 124, 125, 126, 127, 130, 137, 139, 140, 142, 143, 144, 145, 146, 149, 156, 158, 159, 161, 162, 163, 164, 165, 168, 175, 177, 178, 180, 181, 182, 183, 184, 187, 194, 196, 197, 199, 200, 201, 202, 203, 206, 213, 215, 216, 218, 219, 220]
def hdA2 : List (Addr) := [221, 222, 225, 232, 234, 235, 237, 238, 239, 240, 241, 244, 251, 253, 254, 256, 257, 258, 259, 260, 263, 270, 272, 273, 275, 276, 277, 278, 279, 282, 289, 290, 291, 294, 301, 302, 303, 306, 313, 314, 315, 318, 325, 326, 327, 330, 337, 338, 339, 342]
def hdA3 : List (Addr) := [349, 351, 352, 354, 355, 356, 357, 358, 361, 368, 370, 371, 373, 374, 375, 376, 377, 380, 387, 389, 390, 392, 393, 394, 395, 396, 397, 400, 407, 409, 410, 412, 413, 414, 415, 416, 417, 420, 421, 423, 424, 426, 427, 428, 431, 432, 433, 436, 437, 438]
def hdA4 : List (Addr) := [440, 441, 443, 444, 445, 447, 448, 450, 451, 452, 454, 455, 457, 458, 459, 461, 462, 464, 465, 466, 468, 469, 471, 472, 473, 475, 476, 478, 479, 480, 483, 484, 485, 488, 489, 490, 493, 494, 495, 497, 498, 500, 501, 502, 504, 505, 507, 508, 509, 512]
def hdA5 : List (Addr) := [513, 514, 516, 517, 519, 520, 521, 523, 524, 526, 527, 528, 530, 531, 533, 534, 535, 536, 539, 540, 541, 543, 544, 546, 547, 548, 550, 551, 553, 554, 555, 557, 558, 560, 561, 562, 564, 565, 567, 568, 569, 571, 572, 574, 575, 576, 578, 579, 581, 582]
def hdA6 : List (Addr) := [583, 586, 587, 588, 590, 591, 593, 594, 595, 597, 598, 600, 601, 602, 604, 605, 607, 608, 609, 611, 612, 614, 615, 616, 619, 620, 621, 623, 624, 626, 627, 628, 630, 631, 633, 634, 635, 638, 639, 640, 643, 644, 645, 648, 649, 650, 653, 654, 655, 658]
def hdA7 : List (Addr) := [659, 660, 662, 663, 665, 666, 667, 668, 669, 670, 672, 673, 675, 676, 677, 679, 680, 682, 683, 684, 686, 687, 689, 690, 691, 693, 694, 696, 697, 698, 701, 702, 703, 706, 707, 715, 717, 718, 720, 721, 722, 724, 725, 727, 728, 729, 731, 732, 734, 735]
def hdA8 : List (Addr) := [736, 738, 739, 741, 742, 743, 745, 746, 748, 749, 750, 752, 753, 755, 756, 757, 758, 759, 760, 761, 764, 766, 767, 769, 770, 771, 773, 774, 776, 777, 778, 780, 781, 783, 784, 785, 787, 788, 790, 791, 792, 794, 795, 797, 798, 799, 802, 803, 804, 806]
def hdA9 : List (Addr) := [807, 809, 810, 811, 813, 814, 816, 817, 818, 820, 821, 823, 824, 825, 827, 828, 830, 831, 839, 841, 842, 844, 845, 846, 848, 849, 851, 852, 853, 855, 856, 858, 859, 860, 863, 864, 865, 866, 867, 868, 869, 872, 874, 875, 877, 878, 886, 889, 890, 891]
def hdA10 : List (Addr) := [894, 895, 896, 898, 899, 901, 902, 903, 906, 907, 908, 909, 910, 911, 912, 915, 918, 919, 920, 922, 923, 925, 926, 927, 929, 930, 932, 933, 934, 936, 937, 939, 940, 941, 943, 944, 946, 947, 948, 950, 951, 953, 954, 955, 958, 959, 960, 963, 964, 965]
def hdA11 : List (Addr) := [966, 969, 970, 971, 974, 975, 976, 978, 979, 981, 982, 983, 985, 986, 988, 989, 990, 992, 993, 995, 996, 1004, 1005, 1006, 1008, 1009, 1011, 1012, 1013, 1015, 1016, 1018, 1019, 1020, 1022, 1023, 1025, 1026, 1027, 1029, 1030, 1032, 1033, 1034, 1036, 1037, 1039, 1040, 1041, 1043]
def hdA12 : List (Addr) := [1044, 1046, 1047, 1048, 1050, 1051, 1053, 1054, 1055, 1057, 1058, 1060, 1061, 1062, 1064, 1065, 1067, 1068, 1069, 1071, 1072, 1074, 1075, 1076, 1078, 1079, 1081, 1082, 1083, 1085, 1086, 1088, 1089, 1090, 1092, 1093, 1095, 1096, 1097, 1099, 1100, 1102, 1103, 1104, 1106, 1107, 1109, 1110, 1111, 1113]
def hdA13 : List (Addr) := [1114, 1116, 1117, 1118, 1120, 1121, 1123, 1124, 1125, 1127, 1128, 1130, 1131, 1132, 1134, 1135, 1137, 1138, 1139, 1141, 1142, 1144, 1145, 1146, 1147, 1149, 1150, 1152, 1153, 1154, 1156, 1157, 1159, 1160, 1161, 1163, 1164, 1166, 1167, 1168, 1170, 1171, 1173, 1174, 1175, 1176, 1178, 1179, 1181, 1182]
def hdA14 : List (Addr) := [1183, 1184, 1186, 1187, 1189, 1190, 1191, 1194, 1195, 1196, 1198, 1199, 1201, 1202, 1203, 1205, 1206, 1208, 1209, 1210, 1212, 1213, 1215, 1216, 1217, 1218, 1219, 1220, 1221, 1224, 1231, 1232, 1233, 1235, 1236, 1238, 1239, 1240, 1242, 1243, 1245, 1246, 1247, 1248, 1249, 1252, 1255, 1256, 1257, 1259]
def hdA15 : List (Addr) := [1260, 1262, 1263, 1264, 1266, 1267, 1269, 1270, 1271, 1273, 1274, 1276, 1277, 1278, 1280, 1281, 1283, 1284, 1285, 1288, 1289, 1290, 1293, 1294, 1295, 1297, 1298, 1300, 1301, 1302, 1304, 1305, 1307, 1308]
def hdA : List (Addr) := hdA0 ++ hdA1 ++ hdA2 ++ hdA3 ++ hdA4 ++ hdA5 ++ hdA6 ++ hdA7 ++ hdA8 ++ hdA9 ++ hdA10 ++ hdA11 ++ hdA12 ++ hdA13 ++ hdA14 ++ hdA15
def hdC0 : List (Fct) := [fun K => (He.Fa.free "len").ok K, fun K => (He.Fa.free "int").ok K, fun K => (He.Fa.free "abs").ok K, fun K => (He.Fa.free "str").ok K, fun K => (He.Fa.free "bool").ok K, fun K => (He.Fa.free "range").ok K, fun K => (He.Fa.free "isinstance").ok K, fun K => (He.Fa.free "tuple").ok K, fun K => (He.Fa.free "list").ok K, fun K => (He.Fa.free "repr").ok K, fun K => (He.Fa.free "zip").ok K, fun K => (He.Fa.free "enumerate").ok K, fun K => (He.Fa.free "sum").ok K, fun K => (He.Fa.free "min").ok K, fun K => (He.Fa.free "max").ok K, fun K => (He.Fa.free "all").ok K, fun K => (He.Fa.free "any").ok K, fun K => (He.Fa.free "sorted").ok K, fun K => (He.Fa.free "dict").ok K, fun K => (He.Fa.glo "_law_deck").ok K, fun K => (He.Fa.glo "_law_draw").ok K, fun K => (He.Fa.glo "_law_one").ok K, fun K => (He.Fa.glo "_law_value").ok K, fun K => (He.Fa.glo "_law_kinds").ok K, fun K => (He.Fa.glo "_law_kinds_right").ok K, fun K => (He.Fa.glo "_law_fields_right").ok K, fun K => (He.Fa.glo "_law_bounds").ok K, fun K => (He.Fa.meth "BadText" "__init__").ok K, fun K => (He.Fa.meth "BadProgram" "__init__").ok K, fun K => (He.Fa.meth "BadFix" "__init__").ok K]
def hdC1 : List (Fct) := [fun K => (He.Fa.meth "BadNumber" "__init__").ok K, fun K => (He.Fa.meth "BadReadings" "__init__").ok K, fun K => (He.Fa.meth "BadLength" "__init__").ok K, fun K => (He.Fa.meth "BadVectors" "__init__").ok K, fun K => (He.Fa.meth "BadVector" "__init__").ok K, fun K => (He.Fa.meth "OtherLength" "__init__").ok K, fun K => (He.Fa.meth "NoReader" "__init__").ok K, fun K => (He.Fa.meth "IsHeld" "__init__").ok K, fun K => (He.Fa.meth "NotHeld" "__init__").ok K, fun K => (He.Fa.meth "Loose" "__init__").ok K, fun K => (He.Fa.meth "BadEdit" "__init__").ok K, fun K => (He.Fa.meth "Rejected" "__init__").ok K, fun K => (He.Fa.meth "NoPlace" "__init__").ok K, fun K => (He.Fa.meth "NoVersion" "__init__").ok K, fun K => (He.Fa.glo "law").ok K, Aw.efcB "ReadError" "ValueError.__new__" Aw.veT (fun _ => Aw.veT), fun K => PySem.W.excIn K (He.ga K "ReadError") Aw.veT "ValueError.__new__", Aw.efcB "BadText" "ValueError.__new__" Aw.veT (fun K => .ref (He.ga K "ReadError") :: Aw.veT), fun K => (He.Fa.noat "BadText" "line").ok K, Aw.efcB "BadProgram" "ValueError.__new__" Aw.veT (fun K => .ref (He.ga K "ReadError") :: Aw.veT), fun K => (He.Fa.noat "BadProgram" "error").ok K, Aw.efcB "BadFix" "ValueError.__new__" Aw.veT (fun K => .ref (He.ga K "ReadError") :: Aw.veT), fun K => (He.Fa.noat "BadFix" "value").ok K, Aw.efcB "BadNumber" "ValueError.__new__" Aw.veT (fun K => .ref (He.ga K "ReadError") :: Aw.veT), fun K => (He.Fa.noat "BadNumber" "number").ok K, Aw.efcB "BadReadings" "ValueError.__new__" Aw.veT (fun K => .ref (He.ga K "ReadError") :: Aw.veT), fun K => (He.Fa.noat "BadReadings" "readings").ok K, Aw.efcB "BadLength" "ValueError.__new__" Aw.veT (fun K => .ref (He.ga K "ReadError") :: Aw.veT), fun K => (He.Fa.noat "BadLength" "length").ok K, Aw.efcB "BadVectors" "ValueError.__new__" Aw.veT (fun K => .ref (He.ga K "ReadError") :: Aw.veT)]
def hdC2 : List (Fct) := [fun K => (He.Fa.noat "BadVectors" "index").ok K, Aw.efcB "BadVector" "ValueError.__new__" Aw.veT (fun K => .ref (He.ga K "ReadError") :: Aw.veT), fun K => (He.Fa.noat "BadVector" "vector").ok K, Aw.efcB "OtherLength" "ValueError.__new__" Aw.veT (fun K => .ref (He.ga K "ReadError") :: Aw.veT), fun K => (He.Fa.noat "OtherLength" "length").ok K, Aw.efcB "NoReader" "ValueError.__new__" Aw.veT (fun K => .ref (He.ga K "ReadError") :: Aw.veT), fun K => (He.Fa.noat "NoReader" "place").ok K, Aw.efcB "IsHeld" "ValueError.__new__" Aw.veT (fun K => .ref (He.ga K "ReadError") :: Aw.veT), fun K => (He.Fa.noat "IsHeld" "place").ok K, Aw.efcB "NotHeld" "ValueError.__new__" Aw.veT (fun K => .ref (He.ga K "ReadError") :: Aw.veT), fun K => (He.Fa.noat "NotHeld" "place").ok K, Aw.efcB "Loose" "ValueError.__new__" Aw.veT (fun K => .ref (He.ga K "ReadError") :: Aw.veT), fun K => (He.Fa.noat "Loose" "number").ok K, fun K => (He.Fa.noat "Loose" "index").ok K, Aw.efcB "Busy" "ValueError.__new__" Aw.veT (fun K => .ref (He.ga K "ReadError") :: Aw.veT), fun K => PySem.W.excIn K (He.ga K "Busy") Aw.veT "ValueError.__new__", Aw.efcB "TooManyEdits" "ValueError.__new__" Aw.veT (fun K => .ref (He.ga K "ReadError") :: Aw.veT), fun K => PySem.W.excIn K (He.ga K "TooManyEdits") Aw.veT "ValueError.__new__", Aw.efcB "NothingToUndo" "ValueError.__new__" Aw.veT (fun K => .ref (He.ga K "ReadError") :: Aw.veT), fun K => PySem.W.excIn K (He.ga K "NothingToUndo") Aw.veT "ValueError.__new__", Aw.efcB "NothingToRedo" "ValueError.__new__" Aw.veT (fun K => .ref (He.ga K "ReadError") :: Aw.veT), fun K => PySem.W.excIn K (He.ga K "NothingToRedo") Aw.veT "ValueError.__new__", Aw.efcB "BadEdits" "ValueError.__new__" Aw.veT (fun K => .ref (He.ga K "ReadError") :: Aw.veT), fun K => PySem.W.excIn K (He.ga K "BadEdits") Aw.veT "ValueError.__new__", Aw.efcB "BadEdit" "ValueError.__new__" Aw.veT (fun K => .ref (He.ga K "ReadError") :: Aw.veT), fun K => (He.Fa.noat "BadEdit" "index").ok K, Aw.efcB "Rejected" "ValueError.__new__" Aw.veT (fun K => .ref (He.ga K "ReadError") :: Aw.veT), fun K => (He.Fa.noat "Rejected" "index").ok K, Aw.efcB "NoPlace" "LookupError.__new__" Aw.leT (fun _ => Aw.leT), fun K => (He.Fa.noat "NoPlace" "place").ok K]
def hdC3 : List (Fct) := [Aw.efcB "NoVersion" "LookupError.__new__" Aw.leT (fun _ => Aw.leT), fun K => (He.Fa.noat "NoVersion" "version").ok K, fun K => PySem.W.readsIn K (He.ga K "ReadError") (.type "type"), fun K => He.eqO (PySem.W.specialIn K (.ref (He.ga K "ReadError")) "__getattribute__") (some (some (.builtin "type.__getattribute__"))), fun K => Aw.valB K (.ref (He.ga K "ReadError")) (.type "type") "__init__" (.builtin "ValueError.__init__"), fun K => Aw.valB K (.type "LookupError") (.type "type") "__init__" (.builtin "LookupError.__init__"), fun K => He.eqO (PySem.W.specialIn K (.builtin "object.__class__") "__get__") (some (some (.builtin "getset_descriptor.__get__"))), fun K => decide (PySem.W.takesIn K (.builtin "object.__class__") = some true), fun K => (He.Fa.free "ValueError").ok K, fun K => (He.Fa.free "LookupError").ok K, Aw.apartB ["ReadError", "NoPlace", "NoVersion", "BadText", "BadProgram", "BadFix", "BadNumber", "BadReadings", "BadLength", "BadVectors", "BadVector", "OtherLength", "NoReader", "IsHeld", "NotHeld", "Loose", "Busy", "TooManyEdits", "NothingToUndo", "NothingToRedo", "BadEdits", "BadEdit", "Rejected"], Aw.cintB "Bench" "MOST_EDITS" 60, Aw.cintB "SureBench" "MOST_EDITS" 60, fun K => (He.Fa.int "MAX_NAME" 8).ok K, fun K => (He.Fa.int "MAX_WORD" 8).ok K, fun K => (He.Fa.int "MAX_TIMES" 8).ok K, fun K => (He.Fa.int "MAX_DEEP" 3).ok K, fun K => (He.Fa.int "MAX_NOTS" 2).ok K, fun K => (He.Fa.int "MAX_BY" 6).ok K, fun K => (He.Fa.int "MAX_PLACES" 24).ok K, fun K => (He.Fa.int "MAX_WEIGHT" 30).ok K, fun K => (He.Fa.int "MAX_RESTS" 2).ok K, fun K => (He.Fa.int "MAX_COMPARINGS" 2).ok K, fun K => (He.Fa.int "MAX_NEST" 3).ok K, fun K => (He.Fa.int "MAX_LENGTH" 30).ok K, fun K => (He.Fa.int "MAX_MODULUS" 1000).ok K, fun K => (He.Fa.int "MAX_PERIOD" 1000000).ok K, fun K => (He.Fa.int "MAX_EDITS" 60).ok K, fun K => (He.Fa.int "BATCH" 20).ok K]
def hdC : List (Fct) := hdC0 ++ hdC1 ++ hdC2 ++ hdC3
def hdF0 : List (He.DefD) := [⟨("_law_deck", none), "_law_deck", "_law_deck", defArgs s_law_deck, defBody s_law_deck, defScope s_law_deck, [], []⟩, ⟨("_law_draw", none), "_law_draw", "_law_draw", defArgs s_law_draw, defBody s_law_draw, defScope s_law_draw, [], []⟩, ⟨("_law_one", none), "_law_one", "_law_one", defArgs s_law_one, defBody s_law_one, defScope s_law_one, [], []⟩, ⟨("_law_value", none), "_law_value", "_law_value", defArgs s_law_value, defBody s_law_value, defScope s_law_value, [], []⟩, ⟨("_law_kinds", none), "_law_kinds", "_law_kinds", defArgs s_law_kinds, defBody s_law_kinds, defScope s_law_kinds, [], []⟩, ⟨("_law_kinds_right", none), "_law_kinds_right", "_law_kinds_right", defArgs s_law_kinds_right, defBody s_law_kinds_right, defScope s_law_kinds_right, [], []⟩, ⟨("_law_fields_right", none), "_law_fields_right", "_law_fields_right", defArgs s_law_fields_right, defBody s_law_fields_right, defScope s_law_fields_right, [], []⟩, ⟨("_law_bounds", none), "_law_bounds", "_law_bounds", defArgs s_law_bounds, defBody s_law_bounds, defScope s_law_bounds, [], []⟩, ⟨("BadText", some "__init__"), "__init__", "BadText.__init__", defArgs sBadText___init__, defBody sBadText___init__, defScope sBadText___init__, [], []⟩, ⟨("BadProgram", some "__init__"), "__init__", "BadProgram.__init__", defArgs sBadProgram___init__, defBody sBadProgram___init__, defScope sBadProgram___init__, [], []⟩, ⟨("BadFix", some "__init__"), "__init__", "BadFix.__init__", defArgs sBadFix___init__, defBody sBadFix___init__, defScope sBadFix___init__, [], []⟩, ⟨("BadNumber", some "__init__"), "__init__", "BadNumber.__init__", defArgs sBadNumber___init__, defBody sBadNumber___init__, defScope sBadNumber___init__, [], []⟩, ⟨("BadReadings", some "__init__"), "__init__", "BadReadings.__init__", defArgs sBadReadings___init__, defBody sBadReadings___init__, defScope sBadReadings___init__, [], []⟩, ⟨("BadLength", some "__init__"), "__init__", "BadLength.__init__", defArgs sBadLength___init__, defBody sBadLength___init__, defScope sBadLength___init__, [], []⟩, ⟨("BadVectors", some "__init__"), "__init__", "BadVectors.__init__", defArgs sBadVectors___init__, defBody sBadVectors___init__, defScope sBadVectors___init__, [], []⟩, ⟨("BadVector", some "__init__"), "__init__", "BadVector.__init__", defArgs sBadVector___init__, defBody sBadVector___init__, defScope sBadVector___init__, [], []⟩, ⟨("OtherLength", some "__init__"), "__init__", "OtherLength.__init__", defArgs sOtherLength___init__, defBody sOtherLength___init__, defScope sOtherLength___init__, [], []⟩, ⟨("NoReader", some "__init__"), "__init__", "NoReader.__init__", defArgs sNoReader___init__, defBody sNoReader___init__, defScope sNoReader___init__, [], []⟩, ⟨("IsHeld", some "__init__"), "__init__", "IsHeld.__init__", defArgs sIsHeld___init__, defBody sIsHeld___init__, defScope sIsHeld___init__, [], []⟩, ⟨("NotHeld", some "__init__"), "__init__", "NotHeld.__init__", defArgs sNotHeld___init__, defBody sNotHeld___init__, defScope sNotHeld___init__, [], []⟩, ⟨("Loose", some "__init__"), "__init__", "Loose.__init__", defArgs sLoose___init__, defBody sLoose___init__, defScope sLoose___init__, [], []⟩, ⟨("BadEdit", some "__init__"), "__init__", "BadEdit.__init__", defArgs sBadEdit___init__, defBody sBadEdit___init__, defScope sBadEdit___init__, [], []⟩, ⟨("Rejected", some "__init__"), "__init__", "Rejected.__init__", defArgs sRejected___init__, defBody sRejected___init__, defScope sRejected___init__, [], []⟩, ⟨("NoPlace", some "__init__"), "__init__", "NoPlace.__init__", defArgs sNoPlace___init__, defBody sNoPlace___init__, defScope sNoPlace___init__, [], []⟩, ⟨("NoVersion", some "__init__"), "__init__", "NoVersion.__init__", defArgs sNoVersion___init__, defBody sNoVersion___init__, defScope sNoVersion___init__, [], []⟩, ⟨("law", none), "law", "law", defArgs slaw, defBody slaw, defScope slaw, [], []⟩]
def hdF : List (He.DefD) := hdF0
theorem hd_p1 (w : World) (os : OsState) : (hdEnd hdR 14000 w os).map (fun s => HandSHeadRun.looksF hdR.prog (PySem.W.boot_heap w.params) s.abs) = some (true) := by
  kernel_rfl
theorem hd_p2 (w : World) (os : OsState) : (hdEnd hdR 14000 w os).map (fun s => HandSHeadRun.seenQ hdV hdN (importedModules hdR.prog.main.body) (fun s => PySem.W.xlAt hdV [] s && PySem.W.recOk hdR.toRowW.records s) s.abs) = some (PySem.W.openGood hdV hdN) := by
  kernel_rfl
theorem hd_p3 (w : World) (os : OsState) : (hdEnd hdR 14000 w os).map (fun s => hdC.all fun c => c (He.frG (HandSHeadRun.getT s) hdA)) = some (true) := by
  kernel_rfl
theorem hd_p4 (w : World) (os : OsState) : (hdEnd hdR 14000 w os).map (fun s => hdF.all fun d => d.ok (He.frG (HandSHeadRun.getT s) hdA)) = some (true) := by
  kernel_rfl
theorem hd_p5 (w : World) (os : OsState) : (hdEnd hdR 14000 w os).map (fun s => hdF.map fun d => He.fnW (He.frG (HandSHeadRun.getT s) hdA) d.at_) = some (hdF.map He.DefD.val) := by
  kernel_rfl
theorem hd_run (w : World) : HandSHeadRun.RunEq hdR hdV (hookX hdA hdC hdF) (obX hdA hdC hdF) 14000 hdN w := run_of (hd_p1 w) (hd_p2 w) (hd_p3 w) (hd_p4 w) (hd_p5 w)
end Aw
namespace Aw
open PySem PySem.Spec PyProof.Rows L2
structure RoomG (k : Nat) (A : Around) : Prop where
  r : Room k A
  g : A.guards = some []
theorem RoomG.mono {j k : Nat} {A : Around} (h : RoomG k A) (q : j ≤ k) : RoomG j A := ⟨h.r.mono q, h.g⟩
theorem RoomG.h64 {k : Nat} {A : Around} (h : RoomG k A) : A.units + 64 < cLine := h.r.units
/-- a def keeps its promise wherever nothing is being shown -/
structure FnG (P : Program) (w : World) (K : PySem.W.Frag) (mg : Str → Option Value) (base : Heap) (CX : CXT)
    (k : Nat) (f : Addr) (fd : FuncData) (ps : List Str) (sp : Sp) : Prop where
  len : ∀ vs H Q E, sp vs H Q E → vs.length = ps.length
  run : ∀ (A : Around) (outer : List Env) (s : Shared) (H : Hp) (args : Args) (us : List Value) (vs : List V)
    (Q : VK) (E : XK), RoomG k A → Env0 P w K mg base A outer s H → BindsTo s fd args (ps.zip us) → Vals vs us →
    sp vs H Q E → codeAny (model P w) A (.call (.ref f) args) (CR CX outer P w H s Q E) s
section
variable {P : Program} {w : World} {K : PySem.W.Frag} {mg : Str → Option Value} {base : Heap} {CX : CXT}
theorem FnG.mono {j k : Nat} {f : Addr} {fd : FuncData} {ps : List Str} {sp : Sp}
    (F : FnG P w K mg base CX j f fd ps sp) (h : j ≤ k) : FnG P w K mg base CX k f fd ps sp :=
  ⟨F.len, fun A o s H a us vs Q E hr => F.run A o s H a us vs Q E (hr.mono h)⟩
theorem fnG_of {k : Nat} {f : Addr} {nm qual : Str} {params : Arguments} {body : List Stmt} {scope : Scope}
    {dV kV doc pm cdv ct oc : Value} {an od : Option Addr} {osl : Array (Option Value)} {N ps : List Str} {sp : Sp}
    (lk : K.lookup f = some ⟨oc, od, .func (PySem.W.fnOf nm qual params body scope dV kV doc pm an cdv ct), osl⟩)
    (hcd : PySem.W.codeIn K cdv qual = true) (S : FnScope N ps scope)
    (len : ∀ vs H Q E, sp vs H Q E → vs.length = ps.length)
    (hb : ∀ (A : Around) (outer : List Env) (s : Shared) (H : Hp) (vs : List V) (Q : VK) (E : XK),
      RoomG k (A.deeper (envOfC qual scope s.heap.objs.size f cdv)) → sp vs H Q E →
      ∃ t, PSs (cxOf CX P w K mg base N qual scope f cdv A outer s H E) body t ∧
        t { nx := fun _ H' => Q .non H', rt := Q } (start N vs) H) :
    FnG P w K mg base CX (k + 1) f (PySem.W.fnOf nm qual params body scope dV kV doc pm an cdv ct) ps sp := by
  refine ⟨len, fun A outer s H args us vs Q E hr e0 hbd r hsp => ?_⟩
  have hl := len _ _ _ _ hsp
  have KX : K.In s.heap := e0.mod.kin.keeps fun b o e => (e0.bs b o e).1
  have lim : s.heap.NoLimit := e0.mod.nolimit.keeps fun b o e => (e0.bs b o e).1
  refine codeAny_call_function hr.r.depth (KX _ _ lk) rfl S.co S.gen rfl (PySem.W.codeRec_of KX hcd)
    (hbd _ _ _ _ ?_)
  refine wpAny_newFunctionEnv_cells S.kind (fun ⟨n, v⟩ hy => ?_) fun env he s1 x => ?_
  · rcases S.par n (List.of_mem_zip hy).1 with q | q
    · exact .inl q
    · exact .inr ⟨q, PySem.W.cellsFrom_some _ _ _ (.inl q)⟩
  subst he
  refine ⟨lim.keeps x.toInCall.keep, codeAny_func ?_⟩
  obtain ⟨t, ht, hq⟩ := hb A outer s H vs Q E ⟨hr.r.deeper _, hr.g⟩ hsp
  have I := inv_start (CX := CX) (E := E) (f := f) (cd := cdv) S hr.r.hd e0 hl r x
  refine wpAny_mono (ht.run [] s1 (start N vs) H _ I hq) (fun fl s' hs => ?_) fun e s' hs => hs
  cases fl with
  | ret u =>
    obtain ⟨v, σ', H', J, rv, q⟩ := hs
    exact ⟨v, H', J.os, J.bare, J.base, J.hok, rv, q⟩
  | next =>
    obtain ⟨σ', H', J, q⟩ := hs
    exact ⟨V.non, H', J.os, J.bare, J.base, J.hok, rfl, q⟩
  | brk => exact hs.elim fun _ h => h.elim fun _ h => h.2.elim
  | cont => exact hs.elim fun _ h => h.elim fun _ h => h.2.elim
/-- a def of the top, by its name -/
def Df (K : PySem.W.Frag) (mg : Str → Option Value) (x : Str) (st : Stmt) (ps : List Str) : Prop :=
  ∃ (f : Addr) (fd : FuncData), Fun K x x st f fd ∧ mg x = some (.ref f) ∧ Binds K fd ps []
/-- the def of this name keeps a promise -/
def Has (P : Program) (w : World) (K : PySem.W.Frag) (mg : Str → Option Value) (base : Heap) (CX : CXT) (x : Str)
    (ps : List Str) (k : Nat) (sp : Sp) : Prop :=
  ∃ (f : Addr) (fd : FuncData), (PySem.W.keepIn K (.ref f) = true ∧ ∃ oc od osl, K.lookup f = some ⟨oc, od, .func fd, osl⟩) ∧
    mg x = some (.ref f) ∧ Binds K fd ps [] ∧ FnG P w K mg base CX k f fd ps sp
theorem Has.any {ι : Type} {x : Str} {ps : List Str} {k : Nat} {sp : ι → Sp} (i₀ : ι) (h : ∀ i, Has P w K mg base CX x ps k (sp i)) :
    Has P w K mg base CX x ps k (fun vs H Q E => ∃ i, sp i vs H Q E) := by
  obtain ⟨f, fd, ⟨a, oc, od, osl, l⟩, b, c, _⟩ := h i₀
  have same : ∀ i, FnG P w K mg base CX k f fd ps (sp i) := by
    intro i
    obtain ⟨f', fd', ⟨_, oc', od', osl', l'⟩, b', _, d'⟩ := h i
    cases b.symm.trans b'
    cases l.symm.trans l'
    exact d'
  exact ⟨f, fd, ⟨a, oc, od, osl, l⟩, b, c, fun vs H Q E ⟨i, z⟩ => (same i).len _ _ _ _ z, fun A o s H ar us vs Q E hr he hb hv ⟨i, hs⟩ =>
    (same i).run A o s H ar us vs Q E hr he hb hv hs⟩
theorem Has.mono {x : Str} {ps : List Str} {j k : Nat} {sp : Sp} (h : Has P w K mg base CX x ps j sp) (q : j ≤ k) :
    Has P w K mg base CX x ps k sp := by
  obtain ⟨f, fd, a, b, c, d⟩ := h
  exact ⟨f, fd, a, b, c, d.mono q⟩
theorem Has.imp {x : Str} {ps : List Str} {k : Nat} {sp sp' : Sp} (h : Has P w K mg base CX x ps k sp)
    (q : ∀ vs H Q E, sp' vs H Q E → sp vs H Q E) : Has P w K mg base CX x ps k sp' := by
  obtain ⟨f, fd, a, b, c, d⟩ := h
  exact ⟨f, fd, a, b, c, fun vs H Q E z => d.len _ _ _ _ (q _ _ _ _ z), fun A o s H ar us vs Q E hr he hb hv hs =>
    d.run A o s H ar us vs Q E hr he hb hv (q _ _ _ _ hs)⟩
theorem Df.has {x : Str} {st : Stmt} {ps N : List Str} {k : Nat} {sp : Sp} (d : Df K mg x st ps)
    (S : FnScope N ps (defScope st)) (len : ∀ vs H Q E, sp vs H Q E → vs.length = ps.length)
    (hb : ∀ (f : Addr) (cdv : Value) (A : Around) (outer : List Env) (s : Shared) (H : Hp) (vs : List V) (Q : VK) (E : XK),
      RoomG k (A.deeper (envOfC x (defScope st) s.heap.objs.size f cdv)) → sp vs H Q E →
      ∃ t, PSs (cxOf CX0 P w K mg base N x (defScope st) f cdv A outer s H E).nox (defBody st) t ∧
        t { nx := fun _ H' => Q .non H', rt := Q } (start N vs) H) : Has P w K mg base CX0 x ps (k + 1) sp := by
  obtain ⟨f, fd, F, m, b⟩ := d
  obtain ⟨oc, od, kV, doc, pm, an, cdv, ct, osl, rfl, lk, hcd⟩ := F.ex
  refine ⟨f, _, ⟨F.kp, oc, od, osl, lk⟩, m, b, fnG_of lk hcd S len fun A outer s H vs Q E hr hsp => ?_⟩
  obtain ⟨t, h, q⟩ := hb f cdv A outer s H vs Q E hr hsp
  exact ⟨t, h.nox, q⟩
end
section
variable {X : Cx} {CX : CXT} {k : Nat} {ps : List Str} {sp : Sp} {E : XK} {x : Str} {p pos : Pos} {e : Expr}
  {es : List Expr} {t : TA}
theorem runG {f : Addr} {fd : FuncData} {pins : List (Addr × Obj)} {σ : L2.St} {H : Hp} {s : Shared} {Q : VK}
    {us : List Value} {vs : List V} (F : FnG X.prog X.w X.K X.mg X.base CX k f fd ps sp) (hr : RoomG k X.A)
    (hb : Binds X.K fd ps []) (hx : Passes CX X E) (I : Inv X pins σ H s) (r : Vals vs us) (h : sp vs H Q E) :
    wpAny (model X.prog X.w) X.A (call (.ref f) us) (EP X pins σ Q) X.xe s := by
  have hl : (us ++ []).length = ps.length := by
    rw [List.append_nil, ← r.length]
    exact F.len _ _ _ _ h
  have bb := hb s us I.kIn hl
  rw [List.append_nil] at bb
  refine wpAny_call (codeAny_mono (F.run X.A X.stack s H ⟨us, []⟩ us vs Q E hr I.env0 bb r h) fun r s' hq => ?_)
  match r, hq with
  | .error e, hq => exact hx pins σ H s e s' I hq
  | .ok (.ret u), hq => exact I.after hq
/-- f(e, ..) of a def by its name -/
theorem pe_f (F : Has X.prog X.w X.K X.mg X.base CX x ps k sp) (hr : RoomG k X.A) (hg : Gl X x) (hx : Passes CX X E)
    (ha : PA X (e :: es) t) (hdb : (x == ("__debug__" : Str)) = false := by decide)
    (he : starEach (e :: es) X.env = (false, eval e X.env) :: starEach es X.env := by rfl)
    (hpl : (backTo pos (starEach es X.env)).any (·.1) = false := by rfl) :
    PE X (.Call (.Name x p) (e :: es) [] pos) (tCall sp [] E t) := by
  obtain ⟨f, fd, ⟨hk, _⟩, hm, hb, F⟩ := F
  refine ⟨fun pins s σ H Q I h => wpAny_Call_Name_kw (ld_glob I hg hm ?_ hdb)⟩
  refine PySem.W.callWith_K (h₀ := X.base) I.ok.mod.kin hk (thn (ha.run pos pins s σ H _ I h) fun us s1 q => ?_) he hpl
  obtain ⟨vs, H1, I1, r, q⟩ := q
  rw [List.append_nil] at q
  exact ⟨I1.kIn, runG F hr hb hx I1 r q⟩
theorem pe_f0 (F : Has X.prog X.w X.K X.mg X.base CX x ps k sp) (hr : RoomG k X.A) (hg : Gl X x) (hx : Passes CX X E)
    (hdb : (x == ("__debug__" : Str)) = false := by decide) :
    PE X (.Call (.Name x p) [] [] pos) (tCall sp [] E tNil) := by
  obtain ⟨f, fd, ⟨hk, _⟩, hm, hb, F⟩ := F
  refine ⟨fun pins s σ H Q I h => wpAny_Call_Name_kw (ld_glob I hg hm ?_ hdb)⟩
  exact PySem.W.callWith_K0 I.kIn hk (runG (us := []) F hr hb hx I .nil h)
end
end Aw
namespace Aw
open PySem PySem.Spec PyProof.Rows L2
def spLaw (K : PySem.W.Frag) : Sp := fun vs H Q _ => ∃ (a : Addr) (ns : List Int),
  vs = [.ref a] ∧ SqL K H a (ns.map V.int) ∧ ns.length ≤ 63 ∧ ∀ H', Q (.bl true) H'
theorem lawG_core {P : Program} {w : World} {K : PySem.W.Frag} {mg mb : Str → Option Value} {k : Nat} {fa a : Addr}
    {x : Str} {s : Shared} {vs : List Value} {ns : List Int} (KX : K.In s.heap) (hns : s.heap.Ns mainGlobals mg)
    (hb : s.heap.Ns builtinsNs mb) (hbb : ∀ x : Str, x ≠ "__name__" → mb x = bootBuiltins x)
    (hlim : s.heap.NoLimit) (hsm : ∃ mm, s.heap.Ns sysModules mm) (hg : s.gens = #[])
    (ha : s.heap.get? a = some { cls := .type "list", data := .seq vs.toArray }) (hl : ns.length ≤ 63)
    (hr : RoomG k callerA) (hfa : mg "law" = some (.ref fa))
    (F : ∀ base : Heap, K.In base → base.Ns mainGlobals mg → (∃ mm, base.Ns sysModules mm) → Has P w K mg base CX0 "law" [x] k (spLaw K))
    (H : Hp) (hO : Only H) (hS : SqL K H a (ns.map V.int)) (hok : HOk P w H s.heap) (hA : ∀ b, H b ≠ none → b = a)
    (hK : H a ≠ none → K.lookup a = none) :
    codeAny (model P w) callerA (.call (.ref fa) ⟨[.ref a], []⟩)
      (fun r s' => r = .ok (.ret (.bool true)) ∧ OldK s.heap s'.heap ∧ s'.os = s.os ∧ AllBare s'.gens) s := by
  have isA : ∀ {b : Addr} {u : HO}, H b = some u → b = a := fun {b u} q => hA b (by rw [q]; simp)
  have keepD : ∀ {b : Addr} {m : Str → Option Value}, s.heap.Ns b m → (hidT s.heap H).Ns b m := by
    rintro b m ⟨o, es, ep, e, d, r⟩
    refine ⟨o, es, ep, hidT_get e ?_, d, r⟩
    cases q : H b with
    | none => rfl
    | some u =>
      cases isA q
      rw [ha] at e
      cases e
      exact nomatch (show Data.seq vs.toArray _ = Data.dict es ep from d)
  have hKb : K.In (hidT s.heap H) := by
    intro b o e
    refine hidT_get (KX b o e) ?_
    cases q : H b with
    | none => rfl
    | some u =>
      cases isA q
      rw [hK (by rw [q]; simp)] at e
      cases e
  have hM : Mod K mg (hidT s.heap H) := by
    obtain ⟨mc, h1, h2⟩ := hlim
    exact ⟨hKb, keepD hns, ⟨mb, keepD hb, hbb⟩, ⟨mc, keepD h1, h2⟩⟩
  have e0 : Env0 P w K mg (hidT s.heap H) callerA [] s H := by
    refine ⟨rfl, hM, fun b o e => of_hidT e, Nat.le_of_eq (hidT_size _ _), trivial, fun b hb => ?_, hok, .of_eq hg⟩
    exact absurd (show b ∈ ([] : List Addr) from hb) (by simp)
  obtain ⟨f, fd, kp, m, bd, FN⟩ := F _ hKb (keepD hns) (hsm.elim fun mm h => ⟨mm, keepD h⟩)
  cases hfa.symm.trans m
  have bb := bd s [.ref a] KX rfl
  have hsp : spLaw K [.ref a] H (fun v _ => v = .bl true) (fun _ _ _ => False) := ⟨a, ns, rfl, hS, hl, fun _ => rfl⟩
  refine codeAny_mono (FN.run callerA [] s H ⟨[.ref a], []⟩ [.ref a] [.ref a] _ _ hr e0 bb (.cons rfl .nil) hsp) ?_
  intro r s' h
  match r, h with
  | .ok (.ret u), h =>
    obtain ⟨v, H', os, bare, un, hok', r', q⟩ := h
    cases (show v = .bl true from q)
    cases (show u = Value.bool true from r')
    refine ⟨rfl, OldK.of_keep fun b o e => ?_, os, bare⟩
    cases q : H b with
    | none => exact un.keep b o e q (fun z => absurd (show b ∈ ([] : List Addr) from z) (by simp)) (by simp)
    | some u =>
      rcases hO b with z | ⟨ob, xs, z⟩
      · rw [q] at z
        cases z
      · have e1 := (hok b _ z).1
        rw [e] at e1
        cases e1
        exact (hok' b _ (un.frzs b _ _ z)).1
theorem lawG {P : Program} {w : World} {K : PySem.W.Frag} {mg mb : Str → Option Value} {k : Nat} {fa a : Addr}
    {x : Str} {s : Shared} {vs : List Value} {ns : List Int} (KX : K.In s.heap) (hns : s.heap.Ns mainGlobals mg)
    (hb : s.heap.Ns builtinsNs mb) (hbb : ∀ x : Str, x ≠ "__name__" → mb x = bootBuiltins x)
    (hlim : s.heap.NoLimit) (hsm : ∃ mm, s.heap.Ns sysModules mm) (hg : s.gens = #[])
    (ha : s.heap.get? a = some { cls := .type "list", data := .seq vs.toArray }) (hi : IntsAre vs ns)
    (hl : ns.length ≤ 63) (hr : RoomG k callerA) (hfa : mg "law" = some (.ref fa))
    (F : ∀ base : Heap, K.In base → base.Ns mainGlobals mg → (∃ mm, base.Ns sysModules mm) → Has P w K mg base CX0 "law" [x] k (spLaw K)) :
    codeAny (model P w) callerA (.call (.ref fa) ⟨[.ref a], []⟩)
      (fun r s' => r = .ok (.ret (.bool true)) ∧ OldK s.heap s'.heap ∧ s'.os = s.os ∧ AllBare s'.gens) s := by
  have rv := vals_ints hi
  have h63 : (63 : Nat) ≤ sizeLine := by decide
  have lenV := hi.length
  have core := lawG_core KX hns hb hbb hlim hsm hg ha hl hr hfa F
  cases hk : K.lookup a with
  | some o =>
    have e := KX a o hk
    rw [ha] at e
    cases e
    refine core (fun _ => none) (fun _ => .inl rfl) (.inr ⟨_, vs.toArray, _, hk, rfl, rfl, rfl, ?_, by simpa using rv⟩)
      (fun b u z => nomatch (show (none : Option HO) = some u from z)) (fun b z => absurd rfl z) fun z => absurd rfl z
    rw [List.size_toArray, lenV]
    exact Nat.le_trans hl h63
  | none =>
    refine core (upd (fun _ => none) a (.frz { cls := .type "list", data := .seq vs.toArray } (.lst (ns.map V.int))))
      (fun b => ?_) (.inl (.inr ⟨_, upd_same⟩)) (fun b u z => ?_) (fun b z => ?_) fun _ => hk
    · by_cases hb : b = a
      · subst hb
        exact .inr ⟨_, _, upd_same⟩
      · exact .inl (upd_ne hb)
    · by_cases hb : b = a
      · subst hb
        rw [upd_same] at z
        cases z
        exact ⟨ha, by rw [List.length_map]; exact Nat.le_trans hl h63, vs, _, rv, ha⟩
      · rw [upd_ne hb] at z
        cases z
    · exact Classical.byContradiction fun hb => z (upd_ne hb)
end Aw
namespace Aw
open PySem PySem.Spec L2
/-- names of built-ins that the top leaves alone -/
structure Blt (mg : Str → Option Value) : Prop where
  len : mg "len" = none
  int : mg "int" = none
  abs : mg "abs" = none
  str : mg "str" = none
  bool : mg "bool" = none
  range : mg "range" = none
  isinstance : mg "isinstance" = none
  tuple : mg "tuple" = none
  list : mg "list" = none
  repr : mg "repr" = none
  zip : mg "zip" = none
  enumerate : mg "enumerate" = none
  sum : mg "sum" = none
  min : mg "min" = none
  max : mg "max" = none
  all : mg "all" = none
  any : mg "any" = none
  sorted : mg "sorted" = none
  dict : mg "dict" = none
/-- what may be written -/
def Mut : HO → Prop
  | .tup _ => False
  | .frz _ _ => False
  | _ => True
/-- all but what stands at M is kept -/
def Kp (M : List Addr) (H H' : Hp) : Prop :=
  ∀ b o, H b = some o → (b ∈ M → Mut o) ∧ (b ∉ M → H' b = some o)
/-- lists stand at M -/
def Ls (M : List Addr) (H : Hp) : Prop := ∀ b ∈ M, ∃ xs, H b = some (.lst xs)
theorem Kp.refl {M : List Addr} {H : Hp} (h : Ls M H) : Kp M H H := fun b o e => ⟨fun m => by
  obtain ⟨xs, q⟩ := h b m
  rw [e] at q
  cases q
  trivial, fun _ => e⟩
/-- what may be written stands at M -/
def Ms (M : List Addr) (H : Hp) : Prop := ∀ b ∈ M, ∃ o, H b = some o ∧ Mut o
theorem Ms.nil {H : Hp} : Ms [] H := fun b m => by cases m
theorem Ms.cons {M : List Addr} {H : Hp} {a : Addr} {o : HO} (e : H a = some o) (z : Mut o) (h : Ms M H) : Ms (a :: M) H := fun b m => by
  rcases List.mem_cons.mp m with rfl | m
  · exact ⟨o, e, z⟩
  · exact h b m
theorem Kp.nil {H : Hp} : Kp [] H H := fun b o e => ⟨fun m => (by cases m), fun _ => e⟩
theorem Kp.trans {M : List Addr} {H H1 H2 : Hp} (a : Kp M H H1) (b : Kp M H1 H2) : Kp M H H2 := fun c o e =>
  ⟨(a c o e).1, fun n => (b c o ((a c o e).2 n)).2 n⟩
theorem Kp.sub {M M' : List Addr} {H H1 : Hp} (a : Kp M H H1) (h : Ls M' H) (s : ∀ b ∈ M, b ∈ M') : Kp M' H H1 := fun c o e =>
  ⟨fun m => by
    obtain ⟨xs, q⟩ := h c m
    rw [e] at q
    cases q
    trivial, fun n => (a c o e).2 fun m => n (s c m)⟩
theorem Kp.same {H H1 : Hp} (a : Kp [] H H1) : Same H H1 := fun b o e => (a b o e).2 (by simp)
theorem Kp.of {H H1 : Hp} (a : Same H H1) : Kp [] H H1 := fun b o e => ⟨fun m => (by cases m), fun _ => a b o e⟩
theorem Kp.get {M : List Addr} {H H1 : Hp} {b : Addr} {o : HO} (a : Kp M H H1) (e : H b = some o) (n : b ∉ M) : H1 b = some o := (a b o e).2 n
theorem Kp.tup {M : List Addr} {H H1 : Hp} {b : Addr} {xs : List V} (a : Kp M H H1) (e : H b = some (.tup xs)) : H1 b = some (.tup xs) :=
  (a b _ e).2 fun m => (a b _ e).1 m
/-- a new object -/
theorem Kp.new {M : List Addr} {H H1 : Hp} {p : Addr} {o : HO} (a : Kp M H H1) (n : H1 p = none) : Kp M H (upd H1 p o) := fun b u e =>
  ⟨(a b u e).1, fun m => by
    have q := (a b u e).2 m
    rw [upd_ne (ne_of_none q n)]
    exact q⟩
/-- a write at M -/
theorem Kp.write {M : List Addr} {H H1 : Hp} {p : Addr} {o : HO} (a : Kp M H H1) (m : p ∈ M) : Kp M H (upd H1 p o) := fun b u e =>
  ⟨(a b u e).1, fun n => by
    have q := (a b u e).2 n
    rw [upd_ne (fun z : b = p => n (by rw [z]; exact m))]
    exact q⟩
/-- what was not there ahead may be written -/
theorem Kp.own {M : List Addr} {H H1 : Hp} {p : Addr} {o : HO} (a : Kp M H H1) (n : H p = none) : Kp M H (upd H1 p o) := fun b u e =>
  ⟨(a b u e).1, fun m => by
    rw [upd_ne (ne_of_none e n)]
    exact (a b u e).2 m⟩
theorem Kp.free {M : List Addr} {H H1 : Hp} {p : Addr} (a : Kp M H H1) (l : Ls M H1) (n : H1 p = none) : H p = none := by
  cases q : H p with
  | none => rfl
  | some o =>
    by_cases m : p ∈ M
    · obtain ⟨xs, z⟩ := l p m
      rw [n] at z
      cases z
    · rw [(a p o q).2 m] at n
      cases n
theorem Kp.freeM {M : List Addr} {H H1 : Hp} {p : Addr} (a : Kp M H H1) (l : Ms M H1) (n : H1 p = none) : H p = none := by
  cases q : H p with
  | none => rfl
  | some o =>
    by_cases m : p ∈ M
    · obtain ⟨o', z, _⟩ := l p m
      rw [n] at z
      cases z
    · rw [(a p o q).2 m] at n
      cases n
theorem sqT_kp {K : PySem.W.Frag} {M : List Addr} {H H1 : Hp} {b : Addr} {xs : List V} (a : Kp M H H1) (h : SqT K H b xs) : SqT K H1 b xs := by
  rcases h with (h | ⟨o, h⟩) | h
  · exact .inl (.inl (a.tup h))
  · exact .inl (.inr ⟨o, (a b _ h).2 fun m => (a b _ h).1 m⟩)
  · exact .inr h
theorem sqL_kp {K : PySem.W.Frag} {M : List Addr} {H H1 : Hp} {b : Addr} {xs : List V} (a : Kp M H H1) (n : b ∉ M) (h : SqL K H b xs) : SqL K H1 b xs := by
  rcases h with (h | ⟨o, h⟩) | h
  · exact .inl (.inl (a.get h n))
  · exact .inl (.inr ⟨o, a.get h n⟩)
  · exact .inr h
/-- data without lists -/
inductive Dt (K : PySem.W.Frag) (H : Hp) : V → PyData → Prop
  | non : Dt K H .non .none
  | bl (b : Bool) : Dt K H (.bl b) (.bool b)
  | int (i : Int) : Dt K H (.int i) (.int i)
  | str (x : Str) : Dt K H (.str x) (.str x)
  | tup {a : Addr} {xs : List V} {ds : List PyData} : SqT K H a xs → xs.length = ds.length →
      (∀ (i : Nat) (v : V) (d : PyData), xs[i]? = some v → ds[i]? = some d → Dt K H v d) → Dt K H (.ref a) (.tuple ds)
theorem Dt.kp {K : PySem.W.Frag} {M : List Addr} {H H1 : Hp} {v : V} {d : PyData} (a : Kp M H H1) (h : Dt K H v d) : Dt K H1 v d := by
  induction h with
  | non => exact .non
  | bl b => exact .bl b
  | int i => exact .int i
  | str x => exact .str x
  | tup s l _ ih => exact .tup (sqT_kp a s) l ih
theorem Dt.dp {K : PySem.W.Frag} {H : Hp} {v : V} {d : PyData} (h : Dt K H v d) : Dp K H v d := by
  induction h with
  | non => exact .non
  | bl b => exact .bl b
  | int i => exact .int i
  | str x => exact .str x
  | @tup a xs ds s l _ ih =>
    refine .tup s ?_
    clear s
    induction xs generalizing ds with
    | nil =>
      cases ds with
      | nil => exact .nil
      | cons d ds => cases l
    | cons x xs ihx =>
      cases ds with
      | nil => cases l
      | cons d ds =>
        refine .cons (ih 0 x d rfl rfl) (ihx (by simpa using l) (fun i => ?_) fun i => ?_)
        · rename_i q
          exact q (i + 1)
        · exact ih (i + 1)
structure Deck (H : Hp) (d c : Addr) (n : Int) : Prop where
  hd : H d = some (.lst [.ref c, .int n])
  hc : ∃ cs : List Int, H c = some (.lst (cs.map V.int)) ∧ (∀ x ∈ cs, 0 ≤ x) ∧ cs.length ≤ 63
  ne : d ≠ c
  n0 : 0 ≤ n
theorem Deck.ls {H : Hp} {d c : Addr} {n : Int} (D : Deck H d c n) : Ls [d, c] H := by
  intro b m
  rcases List.mem_cons.mp m with rfl | m
  · exact ⟨_, D.hd⟩
  · obtain ⟨cs, h, _⟩ := D.hc
    rw [List.mem_singleton.mp m]
    exact ⟨_, h⟩
theorem Deck.fresh {H : Hp} {d c p : Addr} {n : Int} (D : Deck H d c n) (h : H p = none) : p ≠ d ∧ p ≠ c := by
  obtain ⟨cs, hc, _⟩ := D.hc
  exact ⟨Ne.symm (ne_of_none D.hd h), Ne.symm (ne_of_none hc h)⟩
theorem Deck.kp {M : List Addr} {H H1 : Hp} {d c : Addr} {n : Int} (D : Deck H d c n) (k : Kp M H H1) (hd : d ∉ M) (hc : c ∉ M) : Deck H1 d c n := by
  obtain ⟨cs, h, a, b⟩ := D.hc
  exact ⟨k.get D.hd hd, ⟨cs, k.get h hc, a, b⟩, D.ne, D.n0⟩
/-- a draw -/
def spDraw : Sp := fun vs H Q _ => ∃ (d c : Addr) (n m : Int), vs = [.ref d, .int m] ∧ Deck H d c n ∧ n < 10 ^ 12 ∧ 1 ≤ m ∧ m < 2 ^ 30 ∧
  ∀ (H' : Hp) (r : Int), 0 ≤ r → r < m → Deck H' d c (n + 1) → Kp [d, c] H H' → Q (.int r) H'
theorem spDraw.use {H : Hp} {Q : VK} {E : XK} {d c : Addr} {n m : Int} (D : Deck H d c n) (hn : n < 10 ^ 12) (h1 : 1 ≤ m) (h2 : m < 2 ^ 30)
    (k : ∀ (H' : Hp) (r : Int), 0 ≤ r → r < m → Deck H' d c (n + 1) → Kp [d, c] H H' → Q (.int r) H') : spDraw [.ref d, .int m] H Q E :=
  ⟨d, c, n, m, rfl, D, hn, h1, h2, k⟩
/-- the deck is made -/
def spDeck (K : PySem.W.Frag) : Sp := fun vs H Q _ => ∃ (a : Addr) (ns : List Int), vs = [.ref a] ∧ SqL K H a (ns.map V.int) ∧ ns.length ≤ 63 ∧
  ∀ (H' : Hp) (d c : Addr), H d = none → H c = none → Deck H' d c 0 → Kp [] H H' → Q (.ref d) H'
/-- one of the items of a list, of a text -/
def spOneL (K : PySem.W.Frag) : Sp := fun vs H Q _ => ∃ (d c a : Addr) (n : Int) (xs : List V), vs = [.ref d, .ref a] ∧ Deck H d c n ∧ n < 10 ^ 12 ∧ SqL K H a xs ∧ a ≠ d ∧ a ≠ c ∧
  1 ≤ xs.length ∧ xs.length < 2 ^ 30 ∧ ∀ (H' : Hp) (i : Nat) (x : V), xs[i]? = some x → Deck H' d c (n + 1) → Kp [d, c] H H' → Q x H'
def spOneS : Sp := fun vs H Q _ => ∃ (d c : Addr) (n : Int) (z : Str), vs = [.ref d, .str z] ∧ Deck H d c n ∧ n < 10 ^ 12 ∧
  1 ≤ z.length ∧ z.length ≤ 1000 ∧ ∀ (H' : Hp) (k : Nat), k ∈ z.cps.toList → Deck H' d c (n + 1) → Kp [d, c] H H' → Q (.str ⟨#[k]⟩) H'
def spOne (K : PySem.W.Frag) : Sp := fun vs H Q E => spOneL K vs H Q E ∨ spOneS vs H Q E
theorem spOne.list {K : PySem.W.Frag} {H : Hp} {Q : VK} {E : XK} {d c a : Addr} {n : Int} {xs : List V} (D : Deck H d c n) (hn : n < 10 ^ 12) (s : SqL K H a xs) (h1 : a ≠ d) (h2 : a ≠ c)
    (h3 : 1 ≤ xs.length) (h4 : xs.length < 2 ^ 30) (k : ∀ (H' : Hp) (i : Nat) (x : V), xs[i]? = some x → Deck H' d c (n + 1) → Kp [d, c] H H' → Q x H') : spOne K [.ref d, .ref a] H Q E :=
  .inl ⟨d, c, a, n, xs, rfl, D, hn, s, h1, h2, h3, h4, k⟩
theorem spOne.text {K : PySem.W.Frag} {H : Hp} {Q : VK} {E : XK} {d c : Addr} {n : Int} {z : Str} (D : Deck H d c n) (hn : n < 10 ^ 12) (h3 : 1 ≤ z.length) (h4 : z.length ≤ 1000)
    (k : ∀ (H' : Hp) (i : Nat), i ∈ z.cps.toList → Deck H' d c (n + 1) → Kp [d, c] H H' → Q (.str ⟨#[i]⟩) H') : spOne K [.ref d, .str z] H Q E :=
  .inr ⟨d, c, n, z, rfl, D, hn, h3, h4, k⟩
end Aw
namespace Aw
open PySem PySem.Spec L2
section
variable {σ : L2.St} {H : Hp} {D : Ends} {Q : VK} {v x y : V} {i j : Nat} {t u : TS} {te ta tb tc : TE} {tt tu : TT} {ts : TA} {g : TG} {gs : TGs}
theorem r_seq (h : t { D with nx := u D } σ H) : tSeq t u D σ H := h
theorem r_next (h : D.nx σ H) : tNext D σ H := h
theorem r_asg (h : te σ H fun x H1 => g x σ H1 D.nx) : tAsg te g D σ H := h
theorem r_name {R : L2.St → Hp → Prop} (h : R (σ.set i (some v)) H) : gName i v σ H R := h
theorem r_sub {to ti : TE} {w : TSet} {R : L2.St → Hp → Prop} (h : to σ H fun o H1 => ti σ H1 fun i H2 => w o i v H2 fun H3 => R σ H3) : gSub to ti w v σ H R := h
theorem r_gtup {K : PySem.W.Frag} {n : Nat} {a : Addr} {xs : List V} {R : L2.St → Hp → Prop} (h : SqT K H a xs) (l : xs.length = n) (q : gs xs σ H R) : gTup K n gs (.ref a) σ H R := ⟨a, xs, rfl, h, l, q⟩
theorem r_gcons {R : L2.St → Hp → Prop} {xs : List V} (h : g x σ H fun σ' H' => gs xs σ' H' R) : gCons g gs (x :: xs) σ H R := ⟨x, xs, rfl, h⟩
theorem r_gnil {R : L2.St → Hp → Prop} (h : R σ H) : gNil [] σ H R := ⟨rfl, h⟩
theorem r_ifS (h : tt σ H fun b H1 => if b = true then t D σ H1 else u D σ H1) : tIfS tt t u D σ H := h
theorem r_ret (h : te σ H D.rt) : tRet te D σ H := h
theorem r_retN (h : D.rt .non H) : tRetN D σ H := h
theorem r_drop (h : te σ H fun _ H1 => D.nx σ H1) : tDrop te D σ H := h
theorem r_par (h : ts σ H fun vs H1 => ∃ v w, vs = [v, w] ∧ D.nx ((σ.set i (some v)).set j (some w)) H1) : tPar i j ts D σ H := h
theorem r_two {R : V → V → Prop} (h : R x y) : ∃ v w, [x, y] = [v, w] ∧ R v w := ⟨x, y, rfl, h⟩
theorem r_par3 {l : Nat} (h : ts σ H fun vs H1 => ∃ u v w, vs = [u, v, w] ∧ D.nx (((σ.set i (some u)).set j (some v)).set l (some w)) H1) : tPar3 i j l ts D σ H := h
theorem r_three {R : V → V → V → Prop} {z : V} (h : R x y z) : ∃ u v w, [x, y, z] = [u, v, w] ∧ R u v w := ⟨x, y, z, rfl, h⟩
theorem r_aug {ti : TIp} (e : σ[i]? = some (some x)) (h : te σ H fun y H1 => ti x y H1 fun z H2 => D.nx (σ.set i (some z)) H2) : tAug i te ti D σ H := ⟨x, e, h⟩
theorem r_ipI {f : Int → Int → Int} {a b : Int} (h : Q (.int (f a b)) H) : ipI f (.int a) (.int b) H Q := ⟨a, b, rfl, rfl, h⟩
theorem r_var (e : σ[i]? = some (some v)) (h : Q v H) : tVar i σ H Q := ⟨v, e, h⟩
theorem r_C (h : Q v H) : tC v σ H Q := h
theorem r_op {r : R2} (h : ta σ H fun x H1 => tb σ H1 fun y H2 => r x y H2 Q) : tOp r ta tb σ H Q := h
theorem r_un {r : V → Hp → VK → Prop} (h : ta σ H fun x H1 => r x H1 Q) : tUn r ta σ H Q := h
theorem r_I0 {f : Int → Int → V} {a b : Int} (h : Q (f a b) H) : rI0 f (.int a) (.int b) H Q := ⟨a, b, rfl, rfl, h⟩
theorem r_I {C : Int → Int → Prop} {f : Int → Int → V} {a b : Int} (h : Q (f a b) H) (c : C a b) : rI C f (.int a) (.int b) H Q := ⟨a, b, rfl, rfl, c, h⟩
theorem r_U {f : Int → V} {a : Int} (h : Q (f a) H) : rU f (.int a) H Q := ⟨a, rfl, h⟩
theorem r_tup (h : ts σ H fun xs H1 => xs.length ≤ sizeLine ∧ ∀ p, H1 p = none → Q (.ref p) (upd H1 p (.tup xs))) : tTup ts σ H Q := h
theorem r_lst (h : ts σ H fun xs H1 => xs.length ≤ sizeLine ∧ ∀ p, H1 p = none → Q (.ref p) (upd H1 p (.lst xs))) : tLst ts σ H Q := h
theorem r_nil {R : List V → Hp → Prop} (h : R [] H) : tNil σ H R := h
theorem r_cons {R : List V → Hp → Prop} (h : te σ H fun x H1 => ts σ H1 fun xs H2 => R (x :: xs) H2) : tCons te ts σ H R := h
theorem r_call {sp : Sp} {E : XK} (h : ts σ H fun vs H1 => sp (vs ++ []) H1 Q E) : tCall sp [] E ts σ H Q := h
theorem r_CB {r : List V → Hp → VK → Prop} (h : ts σ H fun vs H1 => r vs H1 Q) : tCB r ts σ H Q := h
theorem r_BM {K : PySem.W.Frag} {T : String} {r : V → List V → Hp → VK → Prop} {to : TE} (h : to σ H fun x H1 => tyV K T x H1 ∧ ts σ H1 fun xs H2 => r x xs H2 Q) : tBM K T r to ts σ H Q := h
theorem r_BM0 {K : PySem.W.Frag} {T : String} {r : V → List V → Hp → VK → Prop} {to : TE} (h : to σ H fun x H1 => tyV K T x H1 ∧ r x [] H1 Q) : tBM0 K T r to σ H Q := h
theorem r_tyL {K : PySem.W.Frag} {a : Addr} {xs : List V} {R : Prop} (h : H a = some (.lst xs)) (q : R) : tyV K "list" (.ref a) H ∧ R := ⟨.inl ⟨rfl, _, SqL.of h⟩, q⟩
theorem r_M1 {r : V → List V → Hp → VK → Prop} {to : TE} (h : to σ H fun x H1 => (∃ a, x = .str a) ∧ te σ H1 fun y H2 => r x [y] H2 Q) : tM1 r to te σ H Q := h
theorem r_isS {z : Str} {R : Prop} (h : R) : (∃ a, V.str z = .str a) ∧ R := ⟨⟨z, rfl⟩, h⟩
theorem r_if (h : tt σ H fun c H1 => if c = true then ta σ H1 Q else tb σ H1 Q) : tIf tt ta tb σ H Q := h
def Bl (R : Bool → Hp → Prop) : V → Hp → Prop := fun x H => ∃ k, x = .bl k ∧ R k H
theorem r_bl {R : Bool → Hp → Prop} {b : Bool} (h : R b H) : Bl R (.bl b) H := ⟨b, rfl, h⟩
theorem r_test {R : Bool → Hp → Prop} (h : te σ H (Bl R)) : tTest te σ H R := h
theorem r_B {R : Bool → Hp → Prop} (h : te σ H (Bl R)) : tB te σ H R := h
theorem r_and {R : Bool → Hp → Prop} (h : tt σ H fun c H1 => if c = true then tu σ H1 R else R false H1) : tAnd tt tu σ H R := h
theorem r_or {R : Bool → Hp → Prop} (h : tt σ H fun c H1 => if c = true then R true H1 else tu σ H1 R) : tOr tt tu σ H R := h
theorem r_orP {R : Bool → Hp → Prop} {p q : Bool} (h1 : ∀ R' : Bool → Hp → Prop, R' p H → tt σ H R') (h2 : ∀ R' : Bool → Hp → Prop, R' q H → tu σ H R') (h : R (p || q) H) : tOr tt tu σ H R := by
  refine h1 _ ?_
  cases p with
  | true => exact iteT h
  | false => exact iteF (h2 _ h)
theorem r_andP {R : Bool → Hp → Prop} {p q : Bool} (h1 : ∀ R' : Bool → Hp → Prop, R' p H → tt σ H R') (h2 : ∀ R' : Bool → Hp → Prop, R' q H → tu σ H R') (h : R (p && q) H) : tAnd tt tu σ H R := by
  refine h1 _ ?_
  cases p with
  | true => exact iteT (h2 _ h)
  | false => exact iteF h
theorem r_not {R : Bool → Hp → Prop} (h : tt σ H fun c H1 => R (!c) H1) : tNot tt σ H R := h
theorem r_andV (h : ta σ H (Bl fun c H1 => if c = true then tb σ H1 Q else Q (.bl false) H1)) : tAndV ta tb σ H Q := h
theorem r_orV (h : ta σ H (Bl fun c H1 => if c = true then Q (.bl true) H1 else tb σ H1 Q)) : tOrV ta tb σ H Q := h
theorem r_notV (h : ta σ H (Bl fun c H1 => Q (.bl (!c)) H1)) : tNotV ta σ H Q := h
theorem r_chain {r r' : R2} (h : ta σ H fun x H1 => tb σ H1 fun y H2 => r x y H2 (Bl fun k H3 => if k = true then tc σ H3 fun w' H4 => r' y w' H4 Q else Q (.bl false) H3)) : tChain r r' ta tb tc σ H Q := h
theorem r_eq (s : scal x y = true) (h : Q (.bl (decide (x = y))) H) : rEq x y H Q := ⟨s, h⟩
theorem r_ne (s : scal x y = true) (h : Q (.bl (!decide (x = y))) H) : rNe x y H Q := ⟨s, h⟩
theorem r_eqT (e : x = y) (s : scal x y = true) (h : Q (.bl true) H) : rEq x y H Q := ⟨s, by rw [decide_eq_true e]; exact h⟩
theorem r_eqF (e : x ≠ y) (s : scal x y = true) (h : Q (.bl false) H) : rEq x y H Q := ⟨s, by rw [decide_eq_false e]; exact h⟩
theorem r_neT (e : x ≠ y) (s : scal x y = true) (h : Q (.bl true) H) : rNe x y H Q := ⟨s, by rw [decide_eq_false e]; exact h⟩
theorem r_neF (e : x = y) (s : scal x y = true) (h : Q (.bl false) H) : rNe x y H Q := ⟨s, by rw [decide_eq_true e]; exact h⟩
theorem ifd {p A B : Prop} [Decidable p] (h1 : p → A) (h2 : ¬ p → B) : if decide p = true then A else B :=
  ite2 (fun c => h1 (of_decide_eq_true c)) fun c => h2 fun q => c (decide_eq_true q)
theorem ifT {A B : Prop} (h : A) : if true = true then A else B := iteT h
theorem ifF {A B : Prop} (h : B) : if false = true then A else B := iteF h
theorem ifnT {A B : Prop} (h : B) : if (!true) = true then A else B := iteF h
theorem ifnF {A B : Prop} (h : A) : if (!false) = true then A else B := iteT h
theorem c_pow {i j : Int} (h : i.natAbs < 2 ^ 64) (h1 : 0 ≤ j) (h2 : j ≤ 1000000) : CPow i j := ⟨h1, h2, h⟩
theorem c_div {i j : Int} (h : 0 < j) (h1 : j < 1073741824) : CDiv i j := ⟨h, h1⟩
theorem c_mulL {i j : Int} (h : -(2 ^ 64) < i) (h1 : i < 2 ^ 64) : CMul i j := .inl ⟨h, h1⟩
theorem c_mulR {i j : Int} (h : -(2 ^ 64) < j) (h1 : j < 2 ^ 64) : CMul i j := .inr ⟨h, h1⟩
def rAddS : R2 := fun x y H Q => ∃ i j, x = .str i ∧ y = .str j ∧ i.length + j.length ≤ sizeLine ∧ Q (.str (i ++ j)) H
theorem r_addS {a b : Str} (h : Q (.str (a ++ b)) H) (l : a.length + b.length ≤ sizeLine) : rAddS (.str a) (.str b) H Q := ⟨a, b, rfl, rfl, l, h⟩
theorem r_ixL {K : PySem.W.Frag} {a : Addr} {xs : List V} {k : Int} (h : SqL K H a xs) (e : atI xs k = some v) (q : Q v H) : rIxL K (.ref a) (.int k) H Q := ⟨a, xs, k, v, rfl, rfl, h, e, q⟩
theorem r_ixT {K : PySem.W.Frag} {a : Addr} {xs : List V} {k : Int} (h : SqT K H a xs) (e : atI xs k = some v) (q : Q v H) : rIxT K (.ref a) (.int k) H Q := ⟨a, xs, k, v, rfl, rfl, h, e, q⟩
theorem r_ixS {z : Str} {k : Int} {c : Nat} (l : z.length ≤ sizeLine) (e : atI z.cps.toList k = some c) (q : Q (.str ⟨#[c]⟩) H) : rIxS (.str z) (.int k) H Q := ⟨z, k, c, rfl, rfl, l, e, q⟩
theorem r_ixD {K : PySem.W.Frag} {w : World} {a : Addr} {z : Str} (h : KDct K w a z v) (q : Q v H) : rIxD K w (.ref a) (.str z) H Q := ⟨a, z, v, rfl, rfl, h, q⟩
theorem r_setL {R : Hp → Prop} {a : Addr} {xs : List V} {k : Int} {m : Nat} (h : H a = some (.lst xs)) (e : ixN xs.length k = some m) (q : R (upd H a (.lst (xs.set m v)))) : rSetL (.ref a) (.int k) v H R := ⟨a, xs, k, m, rfl, rfl, h, e, q⟩
theorem r_append {a : Addr} {xs : List V} (h : H a = some (.lst xs)) (q : Q .non (upd H a (.lst (xs ++ [x])))) (l : xs.length < sizeLine) : rAppend (.ref a) [x] H Q := ⟨a, xs, x, rfl, rfl, h, l, q⟩
theorem r_extend {a b : Addr} {xs zs : List V} (h : H a = some (.lst xs)) (h2 : H b = some (.lst zs)) (q : Q .non (upd H a (.lst (xs ++ zs)))) (l : xs.length + zs.length ≤ sizeLine) : rExtend (.ref a) [.ref b] H Q := ⟨a, b, xs, zs, rfl, rfl, h, h2, l, q⟩
theorem r_cat {a b : Addr} {xs zs : List V} (h : H a = some (.lst xs)) (h2 : H b = some (.lst zs)) (l : xs.length + zs.length ≤ sizeLine) (q : ∀ p, H p = none → Q (.ref p) (upd H p (.lst (xs ++ zs)))) : rCat (.ref a) (.ref b) H Q := ⟨a, b, xs, zs, rfl, rfl, h, h2, l, q⟩
theorem r_neD {K : PySem.W.Frag} {d e : PyData} (h1 : Dp K H x d) (h2 : Dp K H y e) (s1 : SeqAt.shaped d = true) (s2 : SeqAt.shaped e = true) (q : Q (.bl (!PyData.eqv d e)) H) : rNeD K x y H Q := ⟨d, e, h1, h2, s1, s2, q⟩
theorem at_nn {α : Type} {xs : List α} {r : Int} {v : α} (h0 : 0 ≤ r) (h : xs[r.toNat]? = some v) : atI xs r = some v := by
  have q := atI_nat h
  rw [Int.toNat_of_nonneg h0] at q
  exact q
theorem r_sl {r : V → Option Int → Option Int → Hp → VK → Prop} {tl th : TO} (h : te σ H fun x H1 => tl σ H1 fun l H2 => th σ H2 fun u H3 => r x l u H3 Q) : tSl r te tl th σ H Q := h
theorem r_noPart {R : Option Int → Hp → Prop} (h : R none H) : tNoPart σ H R := h
def PartI (R : Option Int → Hp → Prop) : V → Hp → Prop := fun x H1 => ∃ i, x = .int i ∧ R (some i) H1
theorem r_part {R : Option Int → Hp → Prop} (h : te σ H (PartI R)) : tPart te σ H R := h
theorem r_partI {R : Option Int → Hp → Prop} {k : Int} (h : R (some k) H) : PartI R (.int k) H := ⟨k, rfl, h⟩
theorem r_slL {K : PySem.W.Frag} {a : Addr} {xs : List V} {lo hi : Option Int} (s : SqL K H a xs) (h : ∀ p, H p = none → Q (.ref p) (upd H p (.lst (cutV xs lo hi)))) : rSlL K (.ref a) lo hi H Q := ⟨a, xs, rfl, s, h⟩
theorem cutV_map {α : Type} (f : α → V) (xs : List α) (lo hi : Option Int) : ∃ ys : List α, cutV (xs.map f) lo hi = ys.map f ∧ ys.length ≤ xs.length ∧ ∀ y ∈ ys, y ∈ xs := by
  unfold cutV
  rw [List.length_map, ← List.map_drop, ← List.map_take]
  refine ⟨_, rfl, ?_, fun y hy => List.mem_of_mem_drop (List.mem_of_mem_take hy)⟩
  rw [List.length_take, List.length_drop]
  omega
theorem r_pnil {R : List (V × V) → Hp → Prop} (h : R [] H) : tPairs [] σ H R := h
theorem r_pcons {R : List (V × V) → Hp → Prop} {tk tv : TE} {r : List (TE × TE)} (h : tk σ H fun x H1 => tv σ H1 fun y H2 => tPairs r σ H2 fun ps H3 => R ((x, y) :: ps) H3) : tPairs ((tk, tv) :: r) σ H R := h
def DG (Q : VK) : V → V → Hp → Prop := fun x y H2 => ∃ a v, x = .ref a ∧ DGet H2 a y (some v) ∧ Q v H2
theorem r_dget {td ty : TE} (h : td σ H fun x H1 => ty σ H1 fun y H2 => DG Q x y H2) : tDGet td ty σ H Q := h
/-- the turns of a walk -/
def Turns (J : It) (g : TG) (tb : TS) (D : Ends) (σ : L2.St) (H1 : Hp) : Prop := ∃ W : Nat → Nat → L2.St → Hp → Prop, (∃ m, W 0 m σ H1) ∧ ∀ i m σ H, W i m σ H →
  (J.stop i H ∧ D.nx σ H) ∨ (J.go i H ∧ ∃ N : L2.St → Hp → Prop, (∀ σ' H', N σ' H' → ∃ m', m' < m ∧ W (i + 1) m' σ' H') ∧ ∀ x H', J.yld i H x H' → g x σ H' fun σ2 H2 => tb { D with nx := N, ct := N, bk := D.nx } σ2 H2)
def ForT (K : PySem.W.Frag) (g : TG) (tb : TS) (D : Ends) (σ : L2.St) : V → Hp → Prop := fun x H1 => ∃ a, x = .ref a ∧ (∃ xs, SqT K H1 a xs) ∧ Turns (Itt K a) g tb D σ H1
def ForL (K : PySem.W.Frag) (g : TG) (tb : TS) (D : Ends) (σ : L2.St) : V → Hp → Prop := fun x H1 => ∃ a, x = .ref a ∧ (∃ xs, SqL K H1 a xs) ∧ Turns (Itl K a) g tb D σ H1
def ForR (g : TG) (tb : TS) (D : Ends) (σ : L2.St) : List V → Hp → Prop := fun vs H1 => ∃ j : Int, vs = [.int j] ∧ -(2 ^ 62) ≤ j ∧ j < 2 ^ 62 ∧ Turns (Itr 0 j.toNat) g tb D σ H1
def ForR2 (g : TG) (tb : TS) (D : Ends) (σ : L2.St) : List V → Hp → Prop := fun vs H1 => ∃ i j : Int, vs = [.int i, .int j] ∧ (-(2 ^ 62) ≤ i ∧ i < 2 ^ 62 ∧ -(2 ^ 62) ≤ j ∧ j < 2 ^ 62) ∧ Turns (Itr i (j - i).toNat) g tb D σ H1
section
variable {K : PySem.W.Frag} {tb : TS}
theorem r_forT (h : te σ H (ForT K g tb D σ)) : tFor (iTup K te) g tb D σ H := h
theorem r_forL (h : te σ H (ForL K g tb D σ)) : tFor (iList K te) g tb D σ H := h
theorem r_forR (h : ts σ H (ForR g tb D σ)) : tFor (iRng1 ts) g tb D σ H := h
theorem r_forR2 (h : ts σ H (ForR2 g tb D σ)) : tFor (iRng2 ts) g tb D σ H := h
theorem r_ForL {a : Addr} {xs : List V} (s : SqL K H a xs) (R : Nat → L2.St → Hp → Prop) (h0 : R 0 σ H) (hl : ∀ i σ H, R i σ H → SqL K H a xs)
    (hs : ∀ (i : Nat) x σ H, xs[i]? = some x → R i σ H → g x σ H fun σ2 H2 => tb { D with nx := R (i + 1), ct := R (i + 1), bk := D.nx } σ2 H2) (hd : ∀ σ H, R xs.length σ H → D.nx σ H) :
    ForL K g tb D σ (.ref a) H := ⟨a, rfl, ⟨xs, s⟩, for_list R h0 (fun i σ H _ => hl i σ H) hs hd⟩
theorem r_ForR {n : Int} (R : Nat → L2.St → Hp → Prop) (h1 : -(2 ^ 62) ≤ n) (h2 : n < 2 ^ 62) (h0 : R 0 σ H)
    (hs : ∀ (i : Nat) σ H, i < n.toNat → R i σ H → g (.int (i : Int)) σ H fun σ2 H2 => tb { D with nx := R (i + 1), ct := R (i + 1), bk := D.nx } σ2 H2) (hd : ∀ σ H, R n.toNat σ H → D.nx σ H) :
    ForR g tb D σ [.int n] H := by
  refine ⟨n, rfl, h1, h2, for_range (lo := 0) (n := n.toNat) R h0 (fun i σ H hi p => ?_) hd⟩
  have z := hs i σ H hi p
  rw [← Int.zero_add (i : Int)] at z
  exact z
end
def LcTurns (J : It) (g : TG) (tt : TT) (te : TE) (vs : List Nat) (σ : L2.St) (Q : VK) (H1 : Hp) : Prop := ∀ D, H1 D = none → ∃ W : Nat → Nat → Hp → Prop, (∃ m, W 0 m (upd H1 D (.lst []))) ∧ ∀ i m H, W i m H →
  (J.stop i H ∧ Q (.ref D) H) ∨ (J.go i H ∧ ∃ Nx : Hp → Prop, (∀ H', Nx H' → ∃ m', m' < m ∧ W (i + 1) m' H') ∧ ∀ x H', J.yld i H x H' → g x (wipe σ vs) H' fun σ2 H2 => wipe σ2 vs = wipe σ vs ∧ tt σ2 H2 fun b H3 =>
    if b = true then te σ2 H3 fun y H4 => ∃ acc, H4 D = some (.lst acc) ∧ acc.length < sizeLine ∧ Nx (upd H4 D (.lst (acc ++ [y]))) else Nx H3)
def LcT (K : PySem.W.Frag) (g : TG) (tt : TT) (te : TE) (vs : List Nat) (σ : L2.St) (Q : VK) : V → Hp → Prop := fun x H1 => ∃ a, x = .ref a ∧ (∃ xs, SqT K H1 a xs) ∧ LcTurns (Itt K a) g tt te vs σ Q H1
def LcL (K : PySem.W.Frag) (g : TG) (tt : TT) (te : TE) (vs : List Nat) (σ : L2.St) (Q : VK) : V → Hp → Prop := fun x H1 => ∃ a, x = .ref a ∧ (∃ xs, SqL K H1 a xs) ∧ LcTurns (Itl K a) g tt te vs σ Q H1
def LcR (g : TG) (tt : TT) (te : TE) (vs : List Nat) (σ : L2.St) (Q : VK) : List V → Hp → Prop := fun us H1 => ∃ j : Int, us = [.int j] ∧ -(2 ^ 62) ≤ j ∧ j < 2 ^ 62 ∧ LcTurns (Itr 0 j.toNat) g tt te vs σ Q H1
section
variable {K : PySem.W.Frag} {tt : TT} {vs : List Nat} {ti : TE}
theorem r_lcT (h : ti σ H (LcT K g tt te vs σ Q)) : tLc (iTup K ti) g tt te vs σ H Q := h
theorem r_lcL (h : ti σ H (LcL K g tt te vs σ Q)) : tLc (iList K ti) g tt te vs σ H Q := h
theorem r_lcR (h : ts σ H (LcR g tt te vs σ Q)) : tLc (iRng1 ts) g tt te vs σ H Q := h
/-- the end of a turn of a comprehension: the element y is taken -/
def LcEnd (D : Addr) (N : Hp → Prop) : VK := fun y H4 => ∃ acc, H4 D = some (.lst acc) ∧ acc.length < sizeLine ∧ N (upd H4 D (.lst (acc ++ [y])))
theorem r_LcEnd {D : Addr} {N : Hp → Prop} {acc : List V} (h : H D = some (.lst acc)) (l : acc.length < sizeLine) (q : N (upd H D (.lst (acc ++ [y])))) : LcEnd D N y H := ⟨acc, h, l, q⟩
def LcTurn (tt : TT) (te : TE) (vs : List Nat) (σ : L2.St) (D : Addr) (N : Hp → Prop) : L2.St → Hp → Prop := fun σ2 H2 => wipe σ2 vs = wipe σ vs ∧ tt σ2 H2 fun b H3 => if b = true then te σ2 H3 (LcEnd D N) else N H3
theorem r_LcL {a : Addr} {xs : List V} (s : SqL K H a xs) (h : ∀ p, H p = none → ∃ R : Nat → Hp → Prop, R 0 (upd H p (.lst [])) ∧ (∀ i H, R i H → SqL K H a xs) ∧
    (∀ (i : Nat) x H, xs[i]? = some x → R i H → g x (wipe σ vs) H (LcTurn tt te vs σ p (R (i + 1)))) ∧ ∀ H, R xs.length H → Q (.ref p) H) : LcL K g tt te vs σ Q (.ref a) H := by
  refine ⟨a, rfl, ⟨xs, s⟩, fun p hp => ?_⟩
  obtain ⟨R, h0, hl, hs, hd⟩ := h p hp
  exact lc_list R h0 (fun i H _ => hl i H) hs hd
theorem r_LcR {n : Int} (h1 : -(2 ^ 62) ≤ n) (h2 : n < 2 ^ 62) (h : ∀ p, H p = none → ∃ R : Nat → Hp → Prop, R 0 (upd H p (.lst [])) ∧
    (∀ (i : Nat) H, i < n.toNat → R i H → g (.int (i : Int)) (wipe σ vs) H (LcTurn tt te vs σ p (R (i + 1)))) ∧ ∀ H, R n.toNat H → Q (.ref p) H) : LcR g tt te vs σ Q [.int n] H := by
  refine ⟨n, rfl, h1, h2, fun p hp => ?_⟩
  obtain ⟨R, h0, hs, hd⟩ := h p hp
  refine lc_range (lo := 0) (n := n.toNat) R h0 (fun i H hi q => ?_) hd
  have z := hs i H hi q
  rw [← Int.zero_add (i : Int)] at z
  exact z
theorem r_LcTurn {D : Addr} {N : Hp → Prop} {σ2 : L2.St} (e : wipe σ2 vs = wipe σ vs) (h : tt σ2 H fun b H3 => if b = true then te σ2 H3 (LcEnd D N) else N H3) : LcTurn tt te vs σ D N σ2 H := ⟨e, h⟩
theorem r_yes {R : Bool → Hp → Prop} (h : R true H) : tYes σ H R := h
end
theorem r_inF {K : PySem.W.Frag} {a : Addr} {xs : List V} (h : SqL K H a xs ∨ SqT K H a xs) (f1 : flatV x = true) (f2 : xs.all flatV = true) (e : inV x xs = false) (q : Q (.bl false) H) : rIn K false x (.ref a) H Q :=
  ⟨a, xs, rfl, h, f1, f2, by rw [if_neg Bool.false_ne_true, e]; exact q⟩
end
section
variable {X : Cx} {H : Hp} {Q : VK}
def qAbs : List V → Hp → VK → Prop := fun xs H Q => ∃ i, xs = [.int i] ∧ Q (.int (if i < 0 then -i else i)) H
theorem c_abs : CallR X (.builtin "abs") qAbs := call_abs
theorem r_abs {i : Int} (h : Q (.int (if i < 0 then -i else i)) H) : qAbs [.int i] H Q := ⟨i, rfl, h⟩
def qInt : List V → Hp → VK → Prop := fun xs H Q => (∃ i, xs = [.int i] ∧ Q (.int i) H) ∨ ∃ k, xs = [.bl k] ∧ Q (.int (if k then 1 else 0)) H
theorem c_int : CallR X (.type "int") qInt := call_int1
theorem r_int {i : Int} (h : Q (.int i) H) : qInt [.int i] H Q := .inl ⟨i, rfl, h⟩
theorem r_intB {b : Bool} (h : Q (.int (if b then 1 else 0)) H) : qInt [.bl b] H Q := .inr ⟨b, rfl, h⟩
def qLen (K : PySem.W.Frag) : List V → Hp → VK → Prop := fun xs H Q => ∃ x n, xs = [x] ∧ LenV K x H n ∧ Q (.int n) H
theorem c_len : CallR X (.builtin "len") (qLen X.K) := call_len
theorem r_lenL {K : PySem.W.Frag} {a : Addr} {xs : List V} (h : SqL K H a xs) (q : Q (.int (xs.length : Nat)) H) : qLen K [.ref a] H Q := ⟨_, _, rfl, .inl ⟨_, h, rfl⟩, q⟩
theorem r_lenT {K : PySem.W.Frag} {a : Addr} {xs : List V} (h : SqT K H a xs) (q : Q (.int (xs.length : Nat)) H) : qLen K [.ref a] H Q := ⟨_, _, rfl, .inr ⟨_, h, rfl⟩, q⟩
theorem r_lenS {K : PySem.W.Frag} {z : Str} (q : Q (.int (z.length : Nat)) H) (h : z.length ≤ sizeLine) : qLen K [.str z] H Q := ⟨_, _, rfl, ⟨h, rfl⟩, q⟩
def qStr : List V → Hp → VK → Prop := fun xs H Q => (∃ i, xs = [.int i] ∧ i.natAbs.log2 < 1920 ∧ Q (.str (toString i)) H) ∨ ∃ a, xs = [.str a] ∧ Q (.str a) H
theorem c_str : CallR X (.type "str") qStr := call_str_int.or SkE.call_str_str
theorem r_strI {i : Int} (h : Q (.str (toString i)) H) (l : i.natAbs.log2 < 1920) : qStr [.int i] H Q := .inl ⟨i, rfl, l, h⟩
theorem r_strS {z : Str} (h : Q (.str z) H) : qStr [.str z] H Q := .inr ⟨z, rfl, h⟩
end
section
variable {X : Cx} {x : Str} {pos : Pos}
theorem pe_ty {T : String} (hg : Gl X x) (hm : X.mg x = none) (hv : bootBuiltins x = some (.type T)) (hn : x ≠ "__name__" := by decide) (hd : (x == ("__debug__" : Str)) = false := by decide) : PE X (.Name x pos) (tC (.ty T)) := pe_bltn hg hm hv rfl hn hd
theorem pe_gref {a : Addr} (hg : Gl X x) (hm : X.mg x = some (.ref a)) (hd : (x == ("__debug__" : Str)) = false := by decide) : PE X (.Name x pos) (tC (.ref a)) := pe_glob hg hm rfl hd
theorem pe_gint {i : Int} {t : Tok} (hg : Gl X x) (hm : X.mg x = some (.int i t)) (hd : (x == ("__debug__" : Str)) = false := by decide) : PE X (.Name x pos) (tC (.int i)) := pe_glob hg hm ⟨t, rfl⟩ hd
end
def tyD : PyData → String
  | .none => "NoneType"
  | .bool _ => "bool"
  | .int _ => "int"
  | .str _ => "str"
  | .list _ => "list"
  | .tuple _ => "tuple"
  | .dict _ => "dict"
def isaD (d : PyData) (n : String) : Bool := tyD d == n || (tyD d == "bool" && n == "int")
def qIs (K : PySem.W.Frag) : List V → Hp → VK → Prop := fun xs H Q => ∃ (x : V) (d : PyData) (n : String), xs = [x, .ty n] ∧ Dp K H x d ∧
  n ∈ ["int", "bool", "str", "tuple", "list", "dict"] ∧ Q (.bl (isaD d n)) H
theorem tyX_T {K : PySem.W.Frag} {H : Hp} {a : Addr} {xs : List V} (h : SqT K H a xs) : TyX K H (.ref a) (.type "tuple") := by
  rcases h with (h | ⟨o, h⟩) | ⟨o, its, n, h, c, _⟩
  · exact .base (.tup h)
  · exact .fTuple h
  · exact .kTuple h c
section
variable {X : Cx} {H : Hp} {Q : VK}
def types : List String := ["int", "bool", "str", "tuple", "list", "dict"]
theorem r_isT {K : PySem.W.Frag} {x : V} {d : PyData} {n : String} (h : Dp K H x d) (e : isaD d n = true) (hn : n ∈ types) (q : Q (.bl true) H) : qIs K [x, .ty n] H Q := ⟨x, d, n, rfl, h, hn, by rw [e]; exact q⟩
theorem r_isF {K : PySem.W.Frag} {x : V} {d : PyData} {n : String} (h : Dp K H x d) (e : isaD d n = false) (hn : n ∈ types) (q : Q (.bl false) H) : qIs K [x, .ty n] H Q := ⟨x, d, n, rfl, h, hn, by rw [e]; exact q⟩
end
end Aw
namespace Aw
open PySem PySem.Spec L2
/-- a text of at most n signs -/
structure Sok (x : Str) (n : Nat) : Prop where
  ok : PyData.strOk x = true
  len : x.length ≤ n
theorem Sok.app {x y : Str} {m n : Nat} (a : Sok x m) (b : Sok y n) : Sok (x ++ y) (m + n) := by
  refine ⟨?_, ?_⟩
  · have h1 := a.ok
    have h2 := b.ok
    unfold PyData.strOk at *
    rw [Str.cps_append, Array.all_append, h1, h2]
    rfl
  · rw [Str.length_append]
    have := a.len
    have := b.len
    omega
theorem Sok.mono {x : Str} {m n : Nat} (a : Sok x m) (h : m ≤ n) : Sok x n := ⟨a.ok, Nat.le_trans a.len h⟩
theorem Sok.line {x : Str} {m : Nat} (a : Sok x m) (h : m ≤ 16777216) : x.length ≤ sizeLine := by
  rw [sizeLine_eq]
  exact Nat.le_trans a.len h
theorem Sok.lit {x : Str} {n : Nat} (h : (PyData.strOk x && decide (x.length ≤ n)) = true) : Sok x n := by
  rw [Bool.and_eq_true, decide_eq_true_eq] at h
  exact ⟨h.1, h.2⟩
theorem Sok.repr {x : Str} {n : Nat} (a : Sok x n) : (reprText x).length ≤ 10 * n + 2 := by
  have h := PySem.StrLaws.reprText_len x (fun c hc => by
    have q := a.ok
    unfold PyData.strOk at q
    rw [Array.all_eq_true_iff_forall_mem] at q
    have := of_decide_eq_true (q c (Array.mem_def.mpr hc))
    omega)
  have := a.len
  omega
/-- small ints as texts -/
theorem Sok.num : ∀ i : Int, -99 ≤ i → i ≤ 99 → Sok (Str.ofString (toString i)) 3 := by
  have h : ∀ n : Fin 199, (PyData.strOk (Str.ofString (toString ((n.val : Int) - 99))) && decide ((Str.ofString (toString ((n.val : Int) - 99))).length ≤ 3)) = true := by
    decide +kernel
  intro i h1 h2
  have q := h ⟨(i + 99).toNat, by omega⟩
  have e : (((i + 99).toNat : Nat) : Int) - 99 = i := by omega
  simp only [e] at q
  exact Sok.lit q
theorem log2_small {i : Int} (h1 : -(2 ^ 64) < i) (h2 : i < 2 ^ 64) : i.natAbs.log2 < 1920 := by
  by_cases h : i.natAbs = 0
  · rw [h]
    decide
  · exact Nat.lt_of_lt_of_le ((Nat.log2_lt h).mpr (show i.natAbs < 2 ^ 64 by omega)) (by decide)
structure Shw (d : PyData) (k n : Nat) : Prop where
  sh : d.showable = true
  nd : d.hasDict = false
  dep : d.depth ≤ k
  len : d.shown.length ≤ n
theorem Shw.mono {d : PyData} {k n k' n' : Nat} (h : Shw d k n) (hk : k ≤ k') (hn : n ≤ n') : Shw d k' n' := ⟨h.sh, h.nd, Nat.le_trans h.dep hk, Nat.le_trans h.len hn⟩
theorem Shw.str {x : Str} {m k : Nat} (h : Sok x m) : Shw (.str x) k (10 * m + 2) :=
  ⟨by rw [PyData.showable], by rw [PyData.hasDict], by rw [PyData.depth]; exact Nat.zero_le _, by rw [PyData.shown]; exact h.repr⟩
theorem Shw.non {k : Nat} : Shw .none k 4 :=
  ⟨by rw [PyData.showable], by rw [PyData.hasDict], by rw [PyData.depth]; exact Nat.zero_le _, by rw [PyData.shown]; decide +kernel⟩
theorem Shw.bool {b : Bool} {k : Nat} : Shw (.bool b) k 5 :=
  ⟨by rw [PyData.showable], by rw [PyData.hasDict], by rw [PyData.depth]; exact Nat.zero_le _, by rw [PyData.shown]; cases b <;> decide +kernel⟩
theorem shownAll_len {ds : List PyData} {k n : Nat} (h : ∀ d ∈ ds, Shw d k n) : PyData.showableAll ds = true ∧ PyData.hasDictAll ds = false ∧ PyData.depthAll ds ≤ k ∧ (PyData.shownAll ds).length = ds.length ∧
    ((PyData.shownAll ds).map (·.length)).sum ≤ ds.length * n := by
  induction ds with
  | nil => exact ⟨by rw [PyData.showableAll], by rw [PyData.hasDictAll], by rw [PyData.depthAll]; exact Nat.zero_le _, by rw [PyData.shownAll]; rfl, by rw [PyData.shownAll]; exact Nat.zero_le _⟩
  | cons d r ih =>
    obtain ⟨a1, a2, a3, a4, a5⟩ := ih fun d hd => h d (List.mem_cons_of_mem _ hd)
    have q := h d (List.mem_cons_self ..)
    refine ⟨by rw [PyData.showableAll, q.sh, a1]; rfl, by rw [PyData.hasDictAll, q.nd, a2]; rfl, by rw [PyData.depthAll]; exact Nat.max_le.mpr ⟨q.dep, a3⟩, by rw [PyData.shownAll, List.length_cons, List.length_cons, a4], ?_⟩
    have := q.len
    rw [PyData.shownAll, List.map_cons, List.sum_cons, List.length_cons, Nat.add_mul, Nat.one_mul]
    omega
theorem Shw.list {ds : List PyData} {k n : Nat} (h : ∀ d ∈ ds, Shw d k n) : Shw (.list ds) (k + 1) (ds.length * (n + 2) + 3) := by
  obtain ⟨a1, a2, a3, a4, a5⟩ := shownAll_len h
  refine ⟨by rw [PyData.showable]; exact a1, by rw [PyData.hasDict]; exact a2, by rw [PyData.depth]; omega, ?_⟩
  rw [PyData.shown]
  have q := listText_len_le (PyData.shownAll ds)
  rw [a4] at q
  rw [Nat.mul_add]
  omega
theorem Shw.tup {ds : List PyData} {k n : Nat} (h : ∀ d ∈ ds, Shw d k n) : Shw (.tuple ds) (k + 1) (ds.length * (n + 2) + 3) := by
  obtain ⟨a1, a2, a3, a4, a5⟩ := shownAll_len h
  refine ⟨by rw [PyData.showable]; exact a1, by rw [PyData.hasDict]; exact a2, by rw [PyData.depth]; omega, ?_⟩
  rw [PyData.shown]
  have q := tupleText_len_le (PyData.shownAll ds)
  rw [a4] at q
  rw [Nat.mul_add]
  omega
structure DtL (K : PySem.W.Frag) (H : Hp) (vs : List V) (ds : List PyData) : Prop where
  len : vs.length = ds.length
  all : ∀ (i : Nat) (v : V) (d : PyData), vs[i]? = some v → ds[i]? = some d → Dt K H v d
theorem DtL.nil {K : PySem.W.Frag} {H : Hp} : DtL K H [] [] := ⟨rfl, fun i v d e => by simp at e⟩
theorem DtL.kp {K : PySem.W.Frag} {M : List Addr} {H H1 : Hp} {vs : List V} {ds : List PyData} (h : DtL K H vs ds) (a : Kp M H H1) : DtL K H1 vs ds := ⟨h.len, fun i v d e e' => (h.all i v d e e').kp a⟩
theorem DtL.cons {K : PySem.W.Frag} {H : Hp} {vs : List V} {ds : List PyData} {v : V} {d : PyData} (hv : Dt K H v d) (h : DtL K H vs ds) : DtL K H (v :: vs) (d :: ds) := by
  refine ⟨by rw [List.length_cons, List.length_cons, h.len], fun i u e q q' => ?_⟩
  cases i with
  | zero =>
    cases q
    cases q'
    exact hv
  | succ i => exact h.all i u e (by simpa using q) (by simpa using q')
theorem DtL.tup {K : PySem.W.Frag} {H : Hp} {vs : List V} {ds : List PyData} {a : Addr} (h : DtL K H vs ds) (e : H a = some (.tup vs)) : Dt K H (.ref a) (.tuple ds) := .tup (SqT.of e) h.len h.all
end Aw
namespace Aw
open PySem PySem.Spec L2
def rNil (K : PySem.W.Frag) (neg : Bool) : R2 := fun x y H Q => ∃ (a b : Addr) (xs : List V), x = .ref a ∧ y = .ref b ∧
  ((SqL K H a xs ∧ SqL K H b []) ∨ (SqT K H a xs ∧ SqT K H b [])) ∧ Q (.bl (xs.isEmpty != neg)) H
section
variable {X : Cx} {H : Hp} {Q : VK}
theorem r_eqNL {K : PySem.W.Frag} {a b : Addr} {xs : List V} (h1 : SqL K H a xs) (h2 : SqL K H b []) (q : Q (.bl xs.isEmpty) H) : rNil K false (.ref a) (.ref b) H Q := ⟨a, b, xs, rfl, rfl, .inl ⟨h1, h2⟩, by simpa using q⟩
theorem r_eqNT {K : PySem.W.Frag} {a b : Addr} {xs : List V} (h1 : SqT K H a xs) (h2 : SqT K H b []) (q : Q (.bl xs.isEmpty) H) : rNil K false (.ref a) (.ref b) H Q := ⟨a, b, xs, rfl, rfl, .inr ⟨h1, h2⟩, by simpa using q⟩
theorem r_neNL {K : PySem.W.Frag} {a b : Addr} {xs : List V} (h1 : SqL K H a xs) (h2 : SqL K H b []) (q : Q (.bl (!xs.isEmpty)) H) : rNil K true (.ref a) (.ref b) H Q := ⟨a, b, xs, rfl, rfl, .inl ⟨h1, h2⟩, by simpa using q⟩
theorem r_neNT {K : PySem.W.Frag} {a b : Addr} {xs : List V} (h1 : SqT K H a xs) (h2 : SqT K H b []) (q : Q (.bl (!xs.isEmpty)) H) : rNil K true (.ref a) (.ref b) H Q := ⟨a, b, xs, rfl, rfl, .inr ⟨h1, h2⟩, by simpa using q⟩
end
def keyD : Key → PyData
  | .inl i => .int i
  | .inr x => .str x
/-- data, the lists and dicts of which are none of M -/
inductive Dw (M : List Addr) (K : PySem.W.Frag) (H : Hp) : V → PyData → Prop
  | non : Dw M K H .non .none
  | bl (b : Bool) : Dw M K H (.bl b) (.bool b)
  | int (i : Int) : Dw M K H (.int i) (.int i)
  | str (x : Str) : Dw M K H (.str x) (.str x)
  | tup {a : Addr} {xs : List V} {ds : List PyData} : SqT K H a xs → xs.length = ds.length →
      (∀ (i : Nat) (v : V) (d : PyData), xs[i]? = some v → ds[i]? = some d → Dw M K H v d) → Dw M K H (.ref a) (.tuple ds)
  | lst {a : Addr} {xs : List V} {ds : List PyData} : H a = some (.lst xs) → a ∉ M → xs.length = ds.length →
      (∀ (i : Nat) (v : V) (d : PyData), xs[i]? = some v → ds[i]? = some d → Dw M K H v d) → Dw M K H (.ref a) (.list ds)
  | dct {a : Addr} {kvs : List (Key × V)} {ps : List (PyData × PyData)} : H a = some (.dK kvs) → a ∉ M → kvs.length = ps.length →
      (∀ (i : Nat) (kv : Key × V) (p : PyData × PyData), kvs[i]? = some kv → ps[i]? = some p → p.1 = keyD kv.1) →
      (∀ (i : Nat) (kv : Key × V) (p : PyData × PyData), kvs[i]? = some kv → ps[i]? = some p → Dw M K H kv.2 p.2) → Dw M K H (.ref a) (.dict ps)
section
variable {K : PySem.W.Frag} {M : List Addr} {H H1 : Hp} {v : V} {d : PyData}
theorem Dw.kp (a : Kp M H H1) (h : Dw M K H v d) : Dw M K H1 v d := by
  induction h with
  | non => exact .non
  | bl b => exact .bl b
  | int i => exact .int i
  | str x => exact .str x
  | tup s l _ ih => exact .tup (sqT_kp a s) l ih
  | lst e n l _ ih => exact .lst (a.get e n) n l ih
  | dct e n l q _ ih => exact .dct (a.get e n) n l q ih
theorem Dw.kp0 (a : Kp [] H H1) (h : Dw M K H v d) : Dw M K H1 v d := by
  induction h with
  | non => exact .non
  | bl b => exact .bl b
  | int i => exact .int i
  | str x => exact .str x
  | tup s l _ ih => exact .tup (sqT_kp a s) l ih
  | lst e n l _ ih => exact .lst (a.get e (by simp)) n l ih
  | dct e n l q _ ih => exact .dct (a.get e (by simp)) n l q ih
theorem Dw.sub {M' : List Addr} (s : ∀ a ∈ M', a ∈ M) (h : Dw M K H v d) : Dw M' K H v d := by
  induction h with
  | non => exact .non
  | bl b => exact .bl b
  | int i => exact .int i
  | str x => exact .str x
  | tup s l _ ih => exact .tup s l ih
  | lst e n l _ ih => exact .lst e (fun m => n (s _ m)) l ih
  | dct e n l q _ ih => exact .dct e (fun m => n (s _ m)) l q ih
theorem Dw.nil (h : Dw M K H v d) : Dw [] K H v d := h.sub (by simp)
theorem Dw.ty (h : Dw M K H v d) : TyX K H v (.type (tyD d)) := by
  cases h with
  | non => exact .base .non
  | bl b => exact .base (.bl b)
  | int i => exact .base (.int i)
  | str z => exact .base (.str z)
  | tup s _ _ => exact tyX_T s
  | lst e _ _ _ => exact .base (.lst e)
  | dct e _ _ _ _ => exact .base (.dK e)
end
def qIs2 (K : PySem.W.Frag) : List V → Hp → VK → Prop := fun xs H Q => ∃ (x : V) (d : PyData) (n : String), xs = [x, .ty n] ∧ TyX K H x (.type (tyD d)) ∧
  n ∈ types ∧ Q (.bl (isaD d n)) H
section
variable {K : PySem.W.Frag} {M : List Addr} {H : Hp} {Q : VK} {x : V} {d : PyData} {n : String}
theorem r_is2T (h : Dw M K H x d) (e : isaD d n = true) (hn : n ∈ types) (q : Q (.bl true) H) : qIs2 K [x, .ty n] H Q := ⟨x, d, n, rfl, h.ty, hn, by rw [e]; exact q⟩
theorem r_is2F (h : Dw M K H x d) (e : isaD d n = false) (hn : n ∈ types) (q : Q (.bl false) H) : qIs2 K [x, .ty n] H Q := ⟨x, d, n, rfl, h.ty, hn, by rw [e]; exact q⟩
end
def rInC : R2 := fun x y H Q => ∃ (c : Nat) (z : Str), x = .str ⟨#[c]⟩ ∧ y = .str z ∧ Q (.bl (decide (c ∈ z.cps.toList))) H
def rNotInC : R2 := fun x y H Q => ∃ (c : Nat) (z : Str), x = .str ⟨#[c]⟩ ∧ y = .str z ∧ Q (.bl (!decide (c ∈ z.cps.toList))) H
section
variable {X : Cx} {H : Hp} {Q : VK} {σ : L2.St}
theorem r_inC {c : Nat} {z : Str} (q : Q (.bl (decide (c ∈ z.cps.toList))) H) : rInC (.str ⟨#[c]⟩) (.str z) H Q := ⟨c, z, rfl, rfl, q⟩
theorem r_notinC {c : Nat} {z : Str} (q : Q (.bl (!decide (c ∈ z.cps.toList))) H) : rNotInC (.str ⟨#[c]⟩) (.str z) H Q := ⟨c, z, rfl, rfl, q⟩
def RevL (K : PySem.W.Frag) (Q : VK) : V → Hp → Prop := fun x H1 => ∃ a xs, x = .ref a ∧ SqL K H1 a xs ∧ ∀ p, H1 p = none → Q (.ref p) (upd H1 p (.lst xs.reverse))
theorem r_revL {K : PySem.W.Frag} {te : TE} (h : te σ H (RevL K Q)) : tRevL K te σ H Q := h
def LcS (g : TG) (tt : TT) (te : TE) (vs : List Nat) (σ : L2.St) (Q : VK) : V → Hp → Prop := fun v H1 => ∃ x, v = .str x ∧ LcTurns (Its x) g tt te vs σ Q H1
section
variable {g : TG} {tt : TT} {te ti : TE} {vs : List Nat}
theorem r_lcS (h : ti σ H (LcS g tt te vs σ Q)) : tLc (iStr ti) g tt te vs σ H Q := h
end
def DG2 (a : Addr) (Q : VK) : V → V → Hp → Prop := fun y z H3 => ∃ o, DGet H3 a y o ∧ Q (o.getD z) H3
def DG2a (ty tx : TE) (σ : L2.St) (Q : VK) : V → Hp → Prop := fun x H1 => ∃ a, x = .ref a ∧ IsD H1 a ∧ ty σ H1 fun y H2 => tx σ H2 fun z H3 => DG2 a Q y z H3
theorem r_dget2 {td ty tx : TE} (h : td σ H (DG2a ty tx σ Q)) : tDGet2 td ty tx σ H Q := h
theorem r_DG2a {ty tx : TE} {a : Addr} {kvs : List (Key × V)} (e : H a = some (.dK kvs)) (h : ty σ H fun y H2 => tx σ H2 fun z H3 => DG2 a Q y z H3) : DG2a ty tx σ Q (.ref a) H := ⟨a, rfl, .inl ⟨kvs, .inl e⟩, h⟩
theorem r_DG2 {a : Addr} {kvs : List (Key × V)} {z : V} {x : Str} (e : H a = some (.dK kvs)) (q : Q ((valV kvs (Sum.inr x)).getD z) H) : DG2 a Q (.str x) z H := ⟨_, DGet.k (k := Sum.inr x) e, q⟩
section
variable {K : PySem.W.Frag} {g : TG} {tt : TT} {te : TE} {ts : TA} {vs : List Nat} {tb : TS} {D : Ends}
def LcR2 (g : TG) (tt : TT) (te : TE) (vs : List Nat) (σ : L2.St) (Q : VK) : List V → Hp → Prop := fun us H1 => ∃ i j : Int, us = [.int i, .int j] ∧ (-(2 ^ 62) ≤ i ∧ i < 2 ^ 62 ∧ -(2 ^ 62) ≤ j ∧ j < 2 ^ 62) ∧ LcTurns (Itr i (j - i).toNat) g tt te vs σ Q H1
theorem r_lcR2 (h : ts σ H (LcR2 g tt te vs σ Q)) : tLc (iRng2 ts) g tt te vs σ H Q := h
def ForE (K : PySem.W.Frag) (g : TG) (tb : TS) (D : Ends) (σ : L2.St) : List V → Hp → Prop := fun us H1 => ∃ a xs, us = [.ref a] ∧ SqL K H1 a xs ∧ Turns (Ite K a) g tb D σ H1
theorem r_forE (h : ts σ H (ForE K g tb D σ)) : tFor (iEnum K ts) g tb D σ H := by
  refine cast ?_ h
  rfl
end
end
/-- an expression that makes data and keeps all that is there -/
def CD (K : PySem.W.Frag) (σ : L2.St) (H0 : Hp) (te : TE) (d : PyData) : Prop := ∀ (H : Hp) (Q : VK), Kp [] H0 H → (∀ H' v, Kp [] H H' → Dt K H' v d → Q v H') → te σ H Q
def CDs (K : PySem.W.Frag) (σ : L2.St) (H0 : Hp) (ts : TA) (ds : List PyData) : Prop := ∀ (H : Hp) (R : List V → Hp → Prop), Kp [] H0 H → (∀ H' vs, Kp [] H H' → DtL K H' vs ds → R vs H') → ts σ H R
section
variable {K : PySem.W.Frag} {σ : L2.St} {H0 : Hp} {te : TE} {ts : TA} {d : PyData} {ds : List PyData}
theorem cd_str {x : Str} : CD K σ H0 (tC (.str x)) (.str x) := fun H Q _ h => h H _ Kp.nil (.str x)
theorem cd_int {x : Int} : CD K σ H0 (tC (.int x)) (.int x) := fun H Q _ h => h H _ Kp.nil (.int x)
theorem cd_non : CD K σ H0 (tC .non) .none := fun H Q _ h => h H _ Kp.nil .non
theorem cd_var {i : Nat} {v : V} (e : σ[i]? = some (some v)) (hv : Dt K H0 v d) : CD K σ H0 (tVar i) d := fun H Q k h => ⟨v, e, h H _ Kp.nil (hv.kp k)⟩
theorem cds_nil : CDs K σ H0 tNil [] := fun H R _ h => h H _ Kp.nil DtL.nil
theorem cds_cons (a : CD K σ H0 te d) (b : CDs K σ H0 ts ds) : CDs K σ H0 (tCons te ts) (d :: ds) := fun H R k h =>
  a H _ k fun H1 v k1 hv => b H1 _ (k.trans k1) fun H2 vs k2 hs => h H2 (v :: vs) (k1.trans k2) (DtL.cons (hv.kp k2) hs)
theorem cd_tup (b : CDs K σ H0 ts ds) (hz : ds.length ≤ 16777216) : CD K σ H0 (tTup ts) (.tuple ds) := fun H Q k h =>
  b H _ k fun H1 vs k1 hs => ⟨by rw [hs.len, sizeLine_eq]; exact hz, fun p hp => h _ _ (k1.new hp) ((hs.kp (Kp.nil.new hp)).tup upd_same)⟩
end
theorem DtL.app {K : PySem.W.Frag} {H : Hp} {vs us : List V} {ds es : List PyData} (h : DtL K H vs ds) (g : DtL K H us es) : DtL K H (vs ++ us) (ds ++ es) := by
  refine ⟨by rw [List.length_append, List.length_append, h.len, g.len], fun i u e q q' => ?_⟩
  by_cases hi : i < vs.length
  · rw [List.getElem?_append_left hi] at q
    rw [List.getElem?_append_left (by rw [← h.len]; exact hi)] at q'
    exact h.all i u e q q'
  · rw [List.getElem?_append_right (by omega)] at q
    rw [List.getElem?_append_right (by rw [← h.len]; omega), ← h.len] at q'
    exact g.all _ u e q q'
theorem DtL.rep {K : PySem.W.Frag} {H : Hp} {vs : List V} {ds : List PyData} (h : DtL K H vs ds) : ∀ n : Nat, DtL K H (List.replicate n vs).flatten (List.replicate n ds).flatten
  | 0 => DtL.nil
  | n + 1 => by
    rw [List.replicate_succ, List.replicate_succ, List.flatten_cons, List.flatten_cons]
    exact h.app (DtL.rep h n)
theorem r_rep {H : Hp} {Q : VK} {l : Addr} {k : Int} {xs : List V} (h : H l = some (.lst xs)) (h1 : 0 ≤ k) (h2 : k ≤ 1000) (h3 : xs.length ≤ 1000) (q : ∀ p, H p = none → Q (.ref p) (upd H p (.lst (List.replicate k.toNat xs).flatten))) : rRep (.ref l) (.int k) H Q :=
  ⟨l, k, xs, rfl, rfl, h, by omega, by omega, by
    have := Nat.mul_le_mul h3 (show k.toNat ≤ 1000 by omega)
    rw [sizeLine_eq]
    omega, q⟩
end Aw
namespace Aw
open PySem PySem.Spec L2
section
variable {X : Cx} {pins : List (Addr × Obj)} {σ : L2.St} {H : Hp} {s : Shared}
theorem readsAll_of {h : Heap} : ∀ {xs : List V} {ds : List PyData} {its : List Value}, xs.length = ds.length → Vals xs its →
    (∀ (i : Nat) (v : V) (d : PyData), xs[i]? = some v → ds[i]? = some d → ∀ u, RelV v u → ∃ as, Reads h u d as ∧ sysModules ∉ as) → ∃ as, ReadsAll h its ds as ∧ sysModules ∉ as
  | [], [], _, _, r, _ => by
    cases r
    exact ⟨[], .nil, by simp⟩
  | x :: xs, d :: ds, _, l, r, f => by
    cases r with
    | cons r0 r1 =>
      obtain ⟨as, a1, a2⟩ := f 0 x d rfl rfl _ r0
      obtain ⟨bs, b1, b2⟩ := readsAll_of (by simpa using l) r1 fun i v d e e' => f (i + 1) v d (by simpa using e) (by simpa using e')
      exact ⟨as ++ bs, .cons a1 b1, fun m => (List.mem_append.mp m).elim a2 b2⟩
  | [], _ :: _, _, l, _, _ => by cases l
  | _ :: _, [], _, l, _, _ => by cases l
theorem Dw.reads {M : List Addr} {v : V} {d : PyData} (I : Inv X pins σ H s) (hM : H sysModules = none) (h : Dw M X.K H v d) : ∀ u, RelV v u → ∃ as, Reads s.heap u d as ∧ sysModules ∉ as := by
  induction h with
  | non => intro u r; cases r; exact ⟨_, Reads.none, by simp⟩
  | bl b => intro u r; cases r; exact ⟨_, Reads.bool b, by simp⟩
  | int i => intro u r; obtain ⟨t, rfl⟩ := r; exact ⟨_, Reads.int i t, by simp⟩
  | str x => intro u r; obtain ⟨t, rfl⟩ := r; exact ⟨_, Reads.str x t, by simp⟩
  | tup hs l _ ih =>
    intro u r
    cases r
    obtain ⟨its, rv, ⟨o, ho, hc, n, hd⟩, _⟩ := I.tuple hs
    obtain ⟨as, a1, a2⟩ := readsAll_of l rv ih
    exact ⟨_, Reads.tuple ho hc hd a1, a2⟩
  | @lst a xs ds he _ l _ ih =>
    intro u r
    cases r
    obtain ⟨its, rv, ⟨o, n, ho, hc, _, hd⟩, _⟩ := I.list (SqL.of he)
    obtain ⟨as, a1, a2⟩ := readsAll_of l rv ih
    refine ⟨_, Reads.list ho hc hd a1, fun m => ?_⟩
    rcases List.mem_cons.mp m with z | z
    · rw [z, he] at hM
      cases hM
    · exact a2 z
  | @dct a kvs ps he _ l hk _ ih =>
    intro u r
    cases r
    obtain ⟨_, hsm, vs, kv, o, es, ep, ho, hx, hd, _, pr, _⟩ := dk_of I.hok he
    have keys : ∀ {es : List DictEntry} {kvs : List (Key × V)} {vs : List (Key × Value)} {ps : List (PyData × PyData)}, PySem.Pairs (mixKind X.prog X.w) es vs → KV kvs vs → kvs.length = ps.length →
        (∀ (i : Nat) (kv : Key × V) (p : PyData × PyData), kvs[i]? = some kv → ps[i]? = some p → p.1 = keyD kv.1) →
        (∀ (i : Nat) (kv : Key × V) (p : PyData × PyData), kvs[i]? = some kv → ps[i]? = some p → ∀ u, RelV kv.2 u → ∃ as, Reads s.heap u p.2 as ∧ sysModules ∉ as) →
        (∃ as, ReadsAll s.heap (es.map (·.key)) (ps.map (·.1)) as ∧ sysModules ∉ as) ∧ (∃ as, ReadsAll s.heap (es.map (·.val)) (ps.map (·.2)) as ∧ sysModules ∉ as) := by
      intro es kvs vs ps pr
      induction pr generalizing kvs ps with
      | nil =>
        intro kv l hk ih
        cases kv
        have : ps = [] := List.length_eq_zero_iff.mp l.symm
        subst this
        exact ⟨⟨[], .nil, by simp⟩, ⟨[], .nil, by simp⟩⟩
      | @cons e q es qs h1 h2 h3 ihp =>
        intro kv l hk ih
        cases kv with
        | @cons p q' kvs' _ hpq hr =>
        cases ps with
        | nil => cases l
        | cons pp ps =>
          obtain ⟨⟨as, a1, a2⟩, ⟨bs, b1, b2⟩⟩ := ihp hr (by simpa using l) (fun i kv p e e' => hk (i + 1) kv p (by simpa using e) (by simpa using e')) (fun i kv p e e' => ih (i + 1) kv p (by simpa using e) (by simpa using e'))
          have hk0 := hk 0 _ _ rfl rfl
          obtain ⟨e1, e2⟩ := hpq
          obtain ⟨cs, c1, c2⟩ := ih 0 _ _ rfl rfl _ e2
          refine ⟨⟨[] ++ as, ?_, by simpa using a2⟩, ⟨cs ++ bs, ?_, fun m => (List.mem_append.mp m).elim c2 b2⟩⟩
          · refine ReadsAll.cons ?_ a1
            show Reads s.heap e.key pp.1 []
            rw [hk0, e1]
            rcases keyIs_shape h1 with ⟨i, t, z1, z2⟩ | ⟨x, t, z1, z2⟩
            · rw [z1, z2]
              exact Reads.int i t
            · rw [z1, z2]
              exact Reads.str x t
          · refine ReadsAll.cons ?_ b1
            show Reads s.heap e.val pp.2 cs
            rw [h2]
            exact c1
    obtain ⟨⟨as, a1, a2⟩, ⟨bs, b1, b2⟩⟩ := keys pr kv l hk ih
    refine ⟨_, Reads.dict ho hx.1 hd a1 b1, fun m => ?_⟩
    rcases List.mem_append.mp m with m | m
    · rcases List.mem_cons.mp m with z | z
      · rw [← z] at hsm
        exact absurd hsm (by decide)
      · exact a2 z
    · exact b2 m
end
/-- data that is shown, with dicts -/
structure ShwD (d : PyData) (k n : Nat) : Prop where
  sh : d.showable = true
  dep : d.depth ≤ k
  len : d.shown.length ≤ n
def qRepr3 (K : PySem.W.Frag) : List V → Hp → VK → Prop := fun xs H Q => ∃ x d, xs = [x] ∧
    Dw [] K H x d ∧ d.showable = true ∧ d.depth ≤ 100 ∧ d.shown.length ≤ sizeLine ∧ Q (.str d.shown) H
theorem c_repr3 {X : Cx} {k : Nat} (hr : RoomG k X.A) (hM : ∃ mm, X.base.Ns sysModules mm) : CallR X (.builtin "repr") (qRepr3 X.K) := by
  intro pins s σ H xs us Q I r h
  obtain ⟨x, d, rfl, hd, h1, h3, h4, q⟩ := h
  have hS : H sysModules = none := by
    obtain ⟨mm, o, es, ep, e, _⟩ := hM
    exact (I.bs _ _ e).2
  have go : ∀ a : Addr, x = .ref a → wpAny (model X.prog X.w) X.A (call (.builtin "repr") us) (EP X pins σ Q) X.xe s := by
    intro a e
    subst e
    obtain ⟨u, rfl, r1⟩ := vals1 r
    cases (show u = Value.ref a from r1)
    obtain ⟨as, rd, hn⟩ := hd.reads I hS _ r1
    have hu := hr.r.un
    refine repr_of_reads' rd h1 (fun _ => hn) hr.g (by omega) (fun _ _ e => e) (fun h' u tk hk => ?_) h4
    exact ⟨.str d.shown, H, I.kept hk, ⟨_, rfl⟩, q⟩
  cases hd with
  | non =>
    obtain ⟨u, rfl, r1⟩ := vals1 r
    cases (show u = Value.none from r1)
    refine PySem.P.repr_of_none ⟨.str _, H, I.tok _, ⟨_, rfl⟩, ?_⟩
    rw [PyData.shown] at q
    exact q
  | bl b =>
    obtain ⟨u, rfl, r1⟩ := vals1 r
    cases (show u = Value.bool b from r1)
    refine PySem.P.repr_of_bool ⟨.str _, H, I.tok _, ⟨_, rfl⟩, ?_⟩
    rw [PyData.shown] at q
    exact q
  | int i =>
    obtain ⟨u, rfl, r1⟩ := vals1 r
    obtain ⟨t, rfl⟩ := (show ∃ t, u = Value.int i t from r1)
    rw [PyData.showable] at h1
    refine PySem.P.repr_of_int (of_decide_eq_true h1) ⟨.str _, H, I.tok _, ⟨_, rfl⟩, ?_⟩
    rw [PyData.shown] at q
    exact q
  | str z =>
    obtain ⟨u, rfl, r1⟩ := vals1 r
    obtain ⟨t, rfl⟩ := (show ∃ t, u = Value.str z t from r1)
    rw [PyData.shown] at q h4
    exact PySem.P.repr_of_str ⟨.str _, H, I.tok _, ⟨_, rfl⟩, q⟩ h4
  | tup _ _ _ => exact go _ rfl
  | lst _ _ _ _ => exact go _ rfl
  | dct _ _ _ _ _ => exact go _ rfl
theorem r_repr3 {K : PySem.W.Frag} {H : Hp} {Q : VK} {x : V} {d : PyData} {k n : Nat} (h : Dw [] K H x d) (s : ShwD d k n) (hk : k ≤ 100) (hn : n ≤ 16777216) (q : Q (.str d.shown) H) : qRepr3 K [x] H Q :=
  ⟨x, d, rfl, h, s.sh, Nat.le_trans s.dep hk, by rw [sizeLine_eq]; exact Nat.le_trans s.len hn, q⟩
theorem RoomG.make {k : Nat} {A : Around} (h : RoomG (k + 1) A) (C : Addr) (us : List Value) (kw : List (Str × Value)) : RoomG k (A.under (.builtin "type.__call__" ⟨.ref C :: us, kw⟩)) := ⟨h.r.make C us kw, h.g⟩
/-- a method of the class at C keeps its promise -/
def HasM (P : Program) (w : World) (K : PySem.W.Frag) (mg : Str → Option Value) (base : Heap) (CX : CXT) (C : Addr) (m : Str) (ps : List Str) (k : Nat) (sp : Sp) : Prop :=
  ∃ (f : Addr) (fd : FuncData), (∃ oc od osl, K.lookup f = some ⟨oc, od, .func fd, osl⟩) ∧ Meth K C m f ∧ Binds K fd ps [] ∧ FnG P w K mg base CX k f fd ps sp
/-- a method of the class at C stands in the top -/
def DfM (K : PySem.W.Frag) (C : Addr) (m q : Str) (st : Stmt) (ps : List Str) : Prop :=
  ∃ (f : Addr) (fd : FuncData), Fun K m q st f fd ∧ Meth K C m f ∧ Binds K fd ps []
section
variable {P : Program} {w : World} {K : PySem.W.Frag} {mg : Str → Option Value} {base : Heap} {CX : CXT} {C : Addr} {m q : Str} {st : Stmt} {ps N : List Str} {j k : Nat} {sp sp' : Sp}
theorem HasM.mono (h : HasM P w K mg base CX C m ps j sp) (z : j ≤ k) : HasM P w K mg base CX C m ps k sp := by
  obtain ⟨f, fd, a, b, c, d⟩ := h
  exact ⟨f, fd, a, b, c, d.mono z⟩
theorem HasM.imp (h : HasM P w K mg base CX C m ps k sp) (z : ∀ vs H Q E, sp' vs H Q E → sp vs H Q E) : HasM P w K mg base CX C m ps k sp' := by
  obtain ⟨f, fd, a, b, c, d⟩ := h
  exact ⟨f, fd, a, b, c, fun vs H Q E y => d.len _ _ _ _ (z _ _ _ _ y), fun A o s H ar us vs Q E hr he hb hv hs => d.run A o s H ar us vs Q E hr he hb hv (z _ _ _ _ hs)⟩
theorem DfM.has (d : DfM K C m q st ps) (S : FnScope N ps (defScope st)) (len : ∀ vs H Q E, sp vs H Q E → vs.length = ps.length)
    (hb : ∀ (f : Addr) (cdv : Value) (A : Around) (outer : List Env) (s : Shared) (H : Hp) (vs : List V) (Q : VK) (E : XK),
      RoomG k (A.deeper (PyProof.Rows.envOfC q (defScope st) s.heap.objs.size f cdv)) → sp vs H Q E →
      ∃ t, PSs (cxOf CX0 P w K mg base N q (defScope st) f cdv A outer s H E).nox (defBody st) t ∧
        t { nx := fun _ H' => Q .non H', rt := Q } (start N vs) H) : HasM P w K mg base CX0 C m ps (k + 1) sp := by
  obtain ⟨f, fd, F, mm, b⟩ := d
  obtain ⟨oc, od, kV, doc, pm, an, cdv, ct, osl, rfl, lk, hcd⟩ := F.ex
  refine ⟨f, _, ⟨oc, od, osl, lk⟩, mm, b, fnG_of lk hcd S len fun A outer s H vs Q E hr hsp => ?_⟩
  obtain ⟨t, h, q⟩ := hb f cdv A outer s H vs Q E hr hsp
  exact ⟨t, h.nox, q⟩
end
end Aw
namespace Aw
open PySem PySem.Spec L2
section
variable {σ : L2.St} {H : Hp} {D : Ends} {Q : VK} {v x y : V} {te td ty tv ta : TE} {tt : TT} {ts : TA} {g : TG} {tb : TS} {vs : List Nat} {K : PySem.W.Frag}
def FldQ (K : PySem.W.Frag) (f : Str) (Q : VK) : V → Hp → Prop := fun x H1 => ∃ a C dx fs v, x = .ref a ∧ H1 a = some (.ins C dx fs) ∧ Cls K C ∧ NoAttr K C f ∧ fs.lookup f = some v ∧ Q v H1
theorem r_fld {f : Str} (h : ta σ H (FldQ K f Q)) : tFld K ta f σ H Q := h
theorem r_Fld {f : Str} {a C dx : Addr} {fs : List (Str × V)} (e : H a = some (.ins C dx fs)) (c : Cls K C) (n : NoAttr K C f) (l : fs.lookup f = some v) (q : Q v H) : FldQ K f Q (.ref a) H := ⟨a, C, dx, fs, v, rfl, e, c, n, l, q⟩
def SFldQ (K : PySem.W.Frag) (f : Str) (y : V) (D : Ends) (σ : L2.St) : V → Hp → Prop := fun x H2 => ∃ a C dx fs, x = .ref a ∧ H2 a = some (.ins C dx fs) ∧ Cls K C ∧ NoAttr K C f ∧ fs.length < 1000 ∧ D.nx σ (upd H2 a (.ins C dx (putF f y fs)))
theorem r_sfld {f : Str} (h : tv σ H fun y H1 => ta σ H1 (SFldQ K f y D σ)) : sFld K ta tv f D σ H := h
def MethQ (C : Addr) (m : Str) (sp : Sp) (E : XK) (ts : TA) (σ : L2.St) (Q : VK) : V → Hp → Prop := fun x H1 => ∃ a dx fs, x = .ref a ∧ H1 a = some (.ins C dx fs) ∧ fs.lookup m = none ∧ ts σ H1 fun vs H2 => sp (x :: (vs ++ [])) H2 Q E
theorem r_meth {C : Addr} {m : Str} {sp : Sp} {E : XK} (h : ta σ H (MethQ C m sp E ts σ Q)) : tMeth C m sp [] E ta ts σ H Q := h
theorem r_Meth {C a dx : Addr} {m : Str} {sp : Sp} {E : XK} {fs : List (Str × V)} (e : H a = some (.ins C dx fs)) (l : fs.lookup m = none) (q : ts σ H fun vs H2 => sp (.ref a :: (vs ++ [])) H2 Q E) : MethQ C m sp E ts σ Q (.ref a) H := ⟨a, dx, fs, rfl, e, l, q⟩
def DPutQ (D : Ends) (σ : L2.St) (v : V) : V → V → Hp → Prop := fun x y H3 => ∃ a H4, x = .ref a ∧ DPut H3 a y v H4 ∧ D.nx σ H4
theorem r_dput (h : tv σ H fun v H1 => td σ H1 fun x H2 => ty σ H2 fun y H3 => DPutQ D σ v x y H3) : sDPut td ty tv D σ H := h
def DInQ (Q : VK) : V → V → Hp → Prop := fun y x H2 => ∃ a o, x = .ref a ∧ DGet H2 a y o ∧ Q (.bl o.isSome) H2
theorem r_din (h : ty σ H fun y H1 => td σ H1 fun x H2 => DInQ Q y x H2) : tDIn ty td σ H Q := h
theorem r_DIn {a : Addr} {kvs : List (Key × V)} {z : Str} (e : H a = some (.dK kvs)) (q : Q (.bl (valV kvs (Sum.inr z)).isSome) H) : DInQ Q (.str z) (.ref a) H := ⟨a, _, rfl, DGet.k (k := Sum.inr z) e, q⟩
def DG1 (a : Addr) (Q : VK) : V → Hp → Prop := fun y H2 => ∃ o, DGet H2 a y o ∧ Q (o.getD .non) H2
def DG1a (ty : TE) (σ : L2.St) (Q : VK) : V → Hp → Prop := fun x H1 => ∃ a, x = .ref a ∧ IsD H1 a ∧ ty σ H1 (DG1 a Q)
theorem r_dget1 (h : td σ H (DG1a ty σ Q)) : tDGet1 td ty σ H Q := h
theorem r_DG1a {a : Addr} {kvs : List (Key × V)} (e : H a = some (.dK kvs)) (h : ty σ H (DG1 a Q)) : DG1a ty σ Q (.ref a) H := ⟨a, rfl, .inl ⟨kvs, .inl e⟩, h⟩
theorem r_DG1 {a : Addr} {kvs : List (Key × V)} {z : Str} (e : H a = some (.dK kvs)) (q : Q ((valV kvs (Sum.inr z)).getD .non) H) : DG1 a Q (.str z) H := ⟨_, DGet.k (k := Sum.inr z) e, q⟩
theorem r_DG2i {a : Addr} {kvs : List (Key × V)} {z : V} {i : Int} (e : H a = some (.dK kvs)) (q : Q ((valV kvs (Sum.inl i)).getD z) H) : DG2 a Q (.int i) z H := ⟨_, DGet.k (k := Sum.inl i) e, q⟩
def DPop1Q (a : Addr) (Q : VK) : V → Hp → Prop := fun y H2 => ∃ kvs k v, H2 a = some (.dK kvs) ∧ y = kV k ∧ valV kvs k = some v ∧ Q v (upd H2 a (.dK (dropK kvs k)))
def DPop1a (ty : TE) (σ : L2.St) (Q : VK) : V → Hp → Prop := fun x H1 => ∃ a, x = .ref a ∧ IsD H1 a ∧ ty σ H1 (DPop1Q a Q)
theorem r_dpop1 (h : td σ H (DPop1a ty σ Q)) : tDPop1 td ty σ H Q := h
def ForK (g : TG) (tb : TS) (D : Ends) (σ : L2.St) : V → Hp → Prop := fun x H1 => ∃ d o, x = .ref d ∧ ((∃ kvs, H1 d = some (.frz o (.dK kvs)) ∧ Turns (Itk d o kvs) g tb D σ H1) ∨ ∃ kvs, H1 d = some (.frz o (.dT kvs)) ∧ Turns (Itkt d o kvs) g tb D σ H1)
theorem r_forK (h : te σ H (ForK g tb D σ)) : tFor (iKeys te) g tb D σ H := h
def LcV (g : TG) (tt : TT) (te : TE) (vs : List Nat) (σ : L2.St) (Q : VK) : V → Hp → Prop := fun x H1 => ∃ d o kvs, x = .ref d ∧ H1 d = some (.frz o (.dK kvs)) ∧ LcTurns (Itd d o kvs) g tt te vs σ Q H1
theorem r_lcV {ti : TE} (h : ti σ H (LcV g tt te vs σ Q)) : tLc (iVals ti) g tt te vs σ H Q := h
end
def tListVals (te : TE) : TE := fun σ H Q => te σ H fun x H1 => ∃ (d : Addr) (kvs : List (Key × V)), x = .ref d ∧ H1 d = some (.dK kvs) ∧ ∀ p, H1 p = none → Q (.ref p) (upd H1 p (.lst (kvs.map (·.2))))
def ListValsQ (Q : VK) : V → Hp → Prop := fun x H1 => ∃ (d : Addr) (kvs : List (Key × V)), x = .ref d ∧ H1 d = some (.dK kvs) ∧ ∀ p, H1 p = none → Q (.ref p) (upd H1 p (.lst (kvs.map (·.2))))
theorem r_listVals {te : TE} {σ : L2.St} {H : Hp} {Q : VK} (h : te σ H (ListValsQ Q)) : tListVals te σ H Q := h
def ListItemsQ (Q : VK) : V → Hp → Prop := fun x H1 => LiI.rItemsL x H1 Q
theorem r_listItems {te : TE} {σ : L2.St} {H : Hp} {Q : VK} (h : te σ H (ListItemsQ Q)) : LiI.tListItems te σ H Q := h
end Aw
namespace Aw
open PySem PySem.Spec L2
inductive Ex where
  | int (i : Int)
  | name (x : Str)
  | bin (o : Str) (a b : Ex)
def opSign (o : Str) : Str := if o = "plus" then " + " else if o = "minus" then " - " else " * "
def Ex.d : Ex → PyData
  | .int i => .int i
  | .name x => .str x
  | .bin o a b => .tuple [.str o, a.d, b.d]
def Ex.text : Ex → Str
  | .int i => Str.ofString (toString i)
  | .name x => x
  | .bin o a b => "(" ++ a.text ++ opSign o ++ b.text ++ ")"
def IsOp (o : Str) : Prop := o = "plus" ∨ o = "minus" ∨ o = "times"
def Ex.ok : Nat → Ex → Prop
  | 0, _ => False
  | _ + 1, .int i => -99 ≤ i ∧ i ≤ 99
  | _ + 1, .name x => Sok x 8
  | n + 1, .bin o a b => IsOp o ∧ a.ok n ∧ b.ok n
theorem Ex.ok.succ : ∀ {n : Nat} {e : Ex}, e.ok n → e.ok (n + 1)
  | 0, _, h => h.elim
  | _ + 1, .int _, h => h
  | _ + 1, .name _, h => h
  | _ + 1, .bin _ _ _, h => ⟨h.1, h.2.1.succ, h.2.2.succ⟩
theorem Ex.ok.mono {m n : Nat} {e : Ex} (h : e.ok m) (q : m ≤ n) : e.ok n := by
  induction q with
  | refl => exact h
  | step _ ih => exact ih.succ
theorem opSign_ok {o : Str} (h : IsOp o) : Sok (opSign o) 3 := by
  rcases h with rfl | rfl | rfl <;> exact Sok.lit (by decide +kernel)
theorem IsOp.sok {o : Str} (h : IsOp o) : Sok o 5 := by
  rcases h with rfl | rfl | rfl <;> exact Sok.lit (by decide +kernel)
def eLen : Nat → Nat
  | 0 => 0
  | n + 1 => 2 * eLen n + 8
theorem Ex.ok.sok : ∀ {n : Nat} {e : Ex}, e.ok n → Sok e.text (eLen n)
  | 0, _, h => h.elim
  | n + 1, .int i, h => (Sok.num i h.1 h.2).mono (by unfold eLen; omega)
  | n + 1, .name x, h => Sok.mono h (by unfold eLen; omega)
  | n + 1, .bin o a b, h => by
    have h1 := h.2.1.sok
    have h2 := h.2.2.sok
    have l : Sok ("(" : Str) 1 := Sok.lit (by decide +kernel)
    have r : Sok (")" : Str) 1 := Sok.lit (by decide +kernel)
    exact ((((l.app h1).app (opSign_ok h.1)).app h2).app r).mono (by show 1 + eLen n + 3 + eLen n + 1 ≤ 2 * eLen n + 8; omega)
inductive Ts where
  | not (t : Ts)
  | given (x : Str)
  | rest (e : Ex) (b r : Int)
  | less (a b : Ex)
def Ts.d : Ts → PyData
  | .not t => .tuple [.str "not", t.d]
  | .given x => .tuple [.str "given", .str x]
  | .rest e b r => .tuple [.str "rest", e.d, .int b, .int r]
  | .less a b => .tuple [.str "less", a.d, b.d]
def numT (i : Int) : Str := Str.ofString (toString i)
def Ts.text : Ts → Str
  | .not t => "not " ++ t.text
  | .given x => "set " ++ x
  | .rest e b r => "rest " ++ numT r ++ " of " ++ numT b ++ " " ++ e.text
  | .less a b => a.text ++ " < " ++ b.text
def Ts.ok : Nat → Ts → Prop
  | 0, .not _ => False
  | n + 1, .not t => t.ok n
  | _, .given x => Sok x 8
  | _, .rest e b r => e.ok 3 ∧ 0 ≤ b ∧ b ≤ 99 ∧ 0 ≤ r ∧ r ≤ 99
  | _, .less a b => a.ok 3 ∧ b.ok 3
theorem Ts.ok.sok : ∀ {n : Nat} {t : Ts}, t.ok n → Sok t.text (4 * n + 200)
  | n + 1, .not t, h => by
    have q := Ts.ok.sok (n := n) (t := t) h
    have l : Sok ("not " : Str) 4 := Sok.lit (by decide +kernel)
    exact (l.app q).mono (by omega)
  | n, .given x, h => by
    have q : Sok x 8 := by cases n <;> exact h
    have l : Sok ("set " : Str) 4 := Sok.lit (by decide +kernel)
    exact (l.app q).mono (by omega)
  | n, .rest e b r, h => by
    have q : e.ok 3 ∧ 0 ≤ b ∧ b ≤ 99 ∧ 0 ≤ r ∧ r ≤ 99 := by cases n <;> exact h
    obtain ⟨q, b0, b1, r0, r1⟩ := q
    have l : Sok ("rest " : Str) 5 := Sok.lit (by decide +kernel)
    have m : Sok (" of " : Str) 4 := Sok.lit (by decide +kernel)
    have s : Sok (" " : Str) 1 := Sok.lit (by decide +kernel)
    exact (((((l.app (Sok.num r (by omega) r1)).app m).app (Sok.num b (by omega) b1)).app s).app q.sok).mono (by show 5 + 3 + 4 + 3 + 1 + 56 ≤ _; omega)
  | n, .less a b, h => by
    have q : a.ok 3 ∧ b.ok 3 := by cases n <;> exact h
    have m : Sok (" < " : Str) 3 := Sok.lit (by decide +kernel)
    exact ((q.1.sok.app m).app q.2.sok).mono (by show 56 + 3 + 56 ≤ _; omega)
inductive Pl where
  | set (x : Str) (e : Ex)
  | unset (x : Str)
  | tell (e : Ex)
  | say (w : Str)
  | stop (w : Str)
def Pl.d : Pl → PyData
  | .set x e => .tuple [.str "set", .str x, e.d]
  | .unset x => .tuple [.str "unset", .str x]
  | .tell e => .tuple [.str "tell", e.d]
  | .say w => .tuple [.str "say", .str w]
  | .stop w => .tuple [.str "stop", .str w]
def Pl.text : Pl → Str
  | .set x e => "set " ++ x ++ " " ++ e.text
  | .unset x => "unset" ++ " " ++ x
  | .tell e => "tell " ++ e.text
  | .say w => "say" ++ " " ++ w
  | .stop w => "stop" ++ " " ++ w
def Pl.ok : Pl → Prop
  | .set x e => Sok x 8 ∧ e.ok 3
  | .unset x => Sok x 8
  | .tell e => e.ok 3
  | .say w => Sok w 8
  | .stop w => Sok w 8
theorem Pl.ok.sok {s : Pl} (h : s.ok) : Sok s.text 100 := by
  have sp : Sok (" " : Str) 1 := Sok.lit (by decide +kernel)
  cases s with
  | set x e =>
    have l : Sok ("set " : Str) 4 := Sok.lit (by decide +kernel)
    exact (((l.app h.1).app sp).app h.2.sok).mono (by show 4 + 8 + 1 + 56 ≤ _; omega)
  | unset x =>
    have l : Sok ("unset" : Str) 5 := Sok.lit (by decide +kernel)
    exact ((l.app sp).app h).mono (by omega)
  | tell e =>
    have l : Sok ("tell " : Str) 5 := Sok.lit (by decide +kernel)
    exact (l.app (Ex.ok.sok h)).mono (by show 5 + 56 ≤ _; omega)
  | say w =>
    have l : Sok ("say" : Str) 3 := Sok.lit (by decide +kernel)
    exact ((l.app sp).app h).mono (by omega)
  | stop w =>
    have l : Sok ("stop" : Str) 4 := Sok.lit (by decide +kernel)
    exact ((l.app sp).app h).mono (by omega)
inductive Sm where
  | pl (s : Pl)
  | ifs (t : Ts) (y n : List Sm)
  | rep (k : Int) (b : List Sm)
mutual
def Sm.d : Sm → PyData
  | .pl s => s.d
  | .ifs t y n => .tuple [.str "if", t.d, .tuple (Sm.ds y), .tuple (Sm.ds n)]
  | .rep k b => .tuple [.str "repeat", .int k, .tuple (Sm.ds b)]
def Sm.ds : List Sm → List PyData
  | [] => []
  | s :: r => s.d :: Sm.ds r
end
def Sm.line : Sm → Str
  | .pl s => s.text
  | .ifs t _ _ => "if " ++ t.text
  | .rep k _ => "repeat" ++ " " ++ numT k
mutual
def Sm.lines (ah : Str) : Sm → List Str
  | .pl s => [ah ++ s.text]
  | .ifs t y n => (ah ++ ("if " ++ t.text)) :: ((if y.isEmpty then [ah ++ "  " ++ "pass"] else Sm.all (ah ++ "  ") y) ++
      (if n.isEmpty then [] else (ah ++ "else") :: Sm.all (ah ++ "  ") n))
  | .rep k b => (ah ++ ("repeat" ++ " " ++ numT k)) :: (if b.isEmpty then [ah ++ "  " ++ "pass"] else Sm.all (ah ++ "  ") b)
def Sm.all (ah : Str) : List Sm → List Str
  | [] => []
  | s :: r => Sm.lines ah s ++ Sm.all ah r
end
mutual
def Sm.size : Sm → Nat
  | .pl _ => 1
  | .ifs _ y n => 1 + Sm.sizes y + Sm.sizes n
  | .rep _ b => 1 + Sm.sizes b
def Sm.sizes : List Sm → Nat
  | [] => 0
  | s :: r => Sm.size s + Sm.sizes r
end
theorem Sm.sizes_app : ∀ a b : List Sm, Sm.sizes (a ++ b) = Sm.sizes a + Sm.sizes b
  | [], b => by rw [List.nil_append, Sm.sizes, Nat.zero_add]
  | s :: r, b => by rw [List.cons_append, Sm.sizes, Sm.sizes, Sm.sizes_app r b, Nat.add_assoc]
def Sm.ok : Nat → Sm → Prop
  | _, .pl s => s.ok
  | 0, .ifs _ _ _ => False
  | 0, .rep _ _ => False
  | n + 1, .ifs t y z => t.ok 2 ∧ (∀ s ∈ y, Sm.ok n s) ∧ (∀ s ∈ z, Sm.ok n s)
  | n + 1, .rep k b => 0 ≤ k ∧ k ≤ 8 ∧ ∀ s ∈ b, Sm.ok n s
theorem Sm.ok.line {n : Nat} {s : Sm} (h : s.ok n) : Sok s.line 300 := by
  have sp : Sok (" " : Str) 1 := Sok.lit (by decide +kernel)
  cases s with
  | pl s =>
    have q : s.ok := by cases n <;> exact h
    exact q.sok.mono (by omega)
  | ifs t y z =>
    cases n with
    | zero => exact h.elim
    | succ n =>
      have l : Sok ("if " : Str) 3 := Sok.lit (by decide +kernel)
      exact (l.app h.1.sok).mono (by omega)
  | rep k b =>
    cases n with
    | zero => exact h.elim
    | succ n =>
      have l : Sok ("repeat" : Str) 6 := Sok.lit (by decide +kernel)
      exact ((l.app sp).app (Sok.num k (by have := h.1; omega) (by have := h.2.1; omega))).mono (by omega)
theorem depth_tup {ds : List PyData} {n : Nat} (h : ∀ d ∈ ds, d.depth ≤ n) : (PyData.tuple ds).depth ≤ n + 1 := by
  have q : PyData.depthAll ds ≤ n := by
    induction ds with
    | nil => exact Nat.zero_le _
    | cons d r ih =>
      rw [PyData.depthAll]
      exact Nat.max_le.mpr ⟨h d (List.mem_cons_self ..), ih fun d hd => h d (List.mem_cons_of_mem _ hd)⟩
  rw [PyData.depth]
  omega
theorem lay_tup {ds : List PyData} (h : ∀ d ∈ ds, d.canLay0 = true) : (PyData.tuple ds).canLay0 = true := by
  rw [PyData.canLay0]
  induction ds with
  | nil => rfl
  | cons d r ih =>
    rw [PyData.canLayAll0, h d (List.mem_cons_self ..), ih fun d hd => h d (List.mem_cons_of_mem _ hd)]
    rfl
/-- data that may be compared -/
structure Cmp (d : PyData) (n : Nat) : Prop where
  lay : d.canLay0 = true
  dep : d.depth ≤ n
theorem Cmp.tup {ds : List PyData} {n : Nat} (h : ∀ d ∈ ds, Cmp d n) : Cmp (.tuple ds) (n + 1) :=
  ⟨lay_tup fun d hd => (h d hd).lay, depth_tup fun d hd => (h d hd).dep⟩
theorem Cmp.mono {d : PyData} {m n : Nat} (h : Cmp d m) (q : m ≤ n) : Cmp d n := ⟨h.lay, Nat.le_trans h.dep q⟩
theorem Cmp.str {x : Str} {k n : Nat} (h : Sok x k) : Cmp (.str x) n := ⟨by rw [PyData.canLay0]; exact h.ok, by rw [PyData.depth]; exact Nat.zero_le _⟩
theorem Cmp.int {i : Int} {n : Nat} : Cmp (.int i) n := ⟨by rw [PyData.canLay0], by rw [PyData.depth]; exact Nat.zero_le _⟩
theorem Cmp.shaped {d : PyData} {n : Nat} (h : Cmp d n) (q : n ≤ 64) : SeqAt.shaped d = true := by
  unfold SeqAt.shaped
  rw [h.lay, decide_eq_true (Nat.le_trans h.dep q)]
  rfl
theorem Cmp.nil {n : Nat} : Cmp (.tuple []) (n + 1) := Cmp.tup fun _ h => nomatch h
def Pl.word : Pl → Str
  | .set _ _ => "set"
  | .unset _ => "unset"
  | .tell _ => "tell"
  | .say _ => "say"
  | .stop _ => "stop"
end Aw
namespace Aw
open PySem PySem.Spec L2
structure Nms (H : Hp) (a : Addr) (xs : List Str) : Prop where
  h : H a = some (.lst (xs.map V.str))
  ne : 1 ≤ xs.length
  ok : ∀ x ∈ xs, Sok x 8
  len : xs.length ≤ 100
theorem Nms.kp {M : List Addr} {H H1 : Hp} {a : Addr} {xs : List Str} (h : Nms H a xs) (k : Kp M H H1) (n : a ∉ M) : Nms H1 a xs := ⟨k.get h.h n, h.ne, h.ok, h.len⟩
theorem Nms.item {H : Hp} {a : Addr} {xs : List Str} (h : Nms H a xs) {i : Nat} {x : V} (e : (xs.map V.str)[i]? = some x) : ∃ z : Str, x = .str z ∧ Sok z 8 := by
  rw [List.getElem?_map] at e
  obtain ⟨z, hz, rfl⟩ := Option.map_eq_some_iff.mp e
  exact ⟨z, rfl, h.ok z (List.mem_of_getElem? hz)⟩
theorem Ts.ok.succ : ∀ {n : Nat} {t : Ts}, t.ok n → t.ok (n + 1)
  | n + 1, .not t, h => Ts.ok.succ (n := n) (t := t) h
  | n, .given x, h => by cases n <;> exact h
  | n, .rest e b r, h => by cases n <;> exact h
  | n, .less a b, h => by cases n <;> exact h
theorem Ts.ok.mono {m n : Nat} {t : Ts} (h : t.ok m) (q : m ≤ n) : t.ok n := by
  induction q with
  | refl => exact h
  | step _ ih => exact ih.succ
theorem Sm.ok.succ : ∀ (n : Nat) (s : Sm), s.ok n → s.ok (n + 1) := by
  intro n
  induction n with
  | zero =>
    intro s h
    cases s with
    | pl s => exact h
    | ifs t y z => exact h.elim
    | rep k b => exact h.elim
  | succ n ih =>
    intro s h
    cases s with
    | pl s => exact h
    | ifs t y z => exact ⟨h.1, fun s hs => ih s (h.2.1 s hs), fun s hs => ih s (h.2.2 s hs)⟩
    | rep k b => exact ⟨h.1, h.2.1, fun s hs => ih s (h.2.2 s hs)⟩
theorem Sm.ok.mono {m n : Nat} {s : Sm} (h : s.ok m) (q : m ≤ n) : s.ok n := by
  induction q with
  | refl => exact h
  | step _ ih => exact Sm.ok.succ _ _ ih
end Aw
namespace Aw
open PySem PySem.Spec L2
def LETT : Str := "abcdefghijklmnopqrstuvwxyz"
def SGN : Str := "abcdefghijklmnopqrstuvwxyz0123456789"
def KEPTS : List Str := ["unset", "tell", "say", "stop", "if", "else", "repeat", "pass", "rest", "of", "set", "not", "program"]
def isSgn (c : Nat) : Bool := decide (c ∈ SGN.cps.toList)
def isLet (c : Nat) : Bool := decide (c ∈ LETT.cps.toList)
def isWordS (x : Str) : Bool := decide (1 ≤ x.length) && decide (x.length ≤ 8) && !decide (x = "unsure") && x.cps.toList.all isSgn
def isNameS (x : Str) : Bool := decide (1 ≤ x.length) && decide (x.length ≤ 8) && isLet (x.cps.toList.headD 0) && x.cps.toList.all isSgn && !KEPTS.contains x
def one (f : PyData → Bool) : List PyData → Bool
  | [a] => f a
  | _ => false
mutual
def dsz : PyData → Nat
  | .none => 1
  | .bool _ => 1
  | .int _ => 1
  | .str x => 1 + x.length
  | .list ds => 1 + dszs ds
  | .tuple ds => 1 + dszs ds
  | .dict _ => 1
def dszs : List PyData → Nat
  | [] => 0
  | d :: r => dsz d + dszs r
end
def Ex.vd : Nat → Ex → Prop
  | 0, _ => False
  | _ + 1, .int i => -99 ≤ i ∧ i ≤ 99
  | _ + 1, .name x => isNameS x = true
  | n + 1, .bin o a b => b.vd n ∧ ((o = "times" ∧ ∃ i : Int, a = .int i ∧ -9 ≤ i ∧ i ≤ 9) ∨ ((o = "plus" ∨ o = "minus") ∧ a.vd n))
def Ts.vd : Nat → Ts → Prop
  | 0, .not _ => False
  | n + 1, .not t => t.vd n
  | _, .given x => isNameS x = true
  | _, .rest e b r => e.vd 3 ∧ 2 ≤ b ∧ b ≤ 6 ∧ 0 ≤ r ∧ r ≤ b - 1
  | _, .less a b => a.vd 3 ∧ b.vd 3
def Pl.vd : Pl → Prop
  | .set x e => isNameS x = true ∧ e.vd 3
  | .unset x => isNameS x = true
  | .tell e => e.vd 3
  | .say w => isWordS w = true
  | .stop w => isWordS w = true
def Sm.vd : Nat → Sm → Prop
  | _, .pl s => s.vd
  | 0, .ifs t y z => t.vd 2 ∧ y = [] ∧ z = []
  | 0, .rep k b => 0 ≤ k ∧ k ≤ 8 ∧ b = []
  | n + 1, .ifs t y z => t.vd 2 ∧ (∀ s ∈ y, Sm.vd n s) ∧ (∀ s ∈ z, Sm.vd n s)
  | n + 1, .rep k b => 0 ≤ k ∧ k ≤ 8 ∧ ∀ s ∈ b, Sm.vd n s
theorem Pl.hd (p : Pl) : ∃ u r, p.d = .tuple (.str u :: r) ∧ u ≠ "if" ∧ u ≠ "repeat" := by
  cases p <;> exact ⟨_, _, rfl, by decide +kernel, by decide +kernel⟩
structure DwL (M : List Addr) (K : PySem.W.Frag) (H : Hp) (vs : List V) (ds : List PyData) : Prop where
  len : vs.length = ds.length
  all : ∀ (i : Nat) (v : V) (d : PyData), vs[i]? = some v → ds[i]? = some d → Dw M K H v d
structure Stk (M : List Addr) (K : PySem.W.Frag) (H : Hp) (vs : List V) (st : List (Nat × PyData)) : Prop where
  len : vs.length = st.length
  all : ∀ (i : Nat) (v : V) (p : Nat × PyData), vs[i]? = some v → st[i]? = some p → ∃ (a : Addr) (y : V), v = .ref a ∧ H a = some (.tup [.int p.1, y]) ∧ Dw M K H y p.2
section
variable {M : List Addr} {K : PySem.W.Frag} {H H1 : Hp} {v : V} {vs us : List V} {d : PyData} {ds es : List PyData} {st tt : List (Nat × PyData)} {p : Nat × PyData}
theorem Dw.fresh {l : Addr} (h : Dw M K H v d) (n : H l = none) : Dw (l :: M) K H v d := by
  induction h with
  | non => exact .non
  | bl b => exact .bl b
  | int i => exact .int i
  | str x => exact .str x
  | tup s l _ ih => exact .tup s l ih
  | lst e k l _ ih =>
    refine .lst e (fun m => ?_) l ih
    rcases List.mem_cons.mp m with z | z
    · rw [z, n] at e; cases e
    · exact k z
  | dct e k l q _ ih =>
    refine .dct e (fun m => ?_) l q ih
    rcases List.mem_cons.mp m with z | z
    · rw [z, n] at e; cases e
    · exact k z
theorem DwL.kp (h : DwL M K H vs ds) (k : Kp M H H1) : DwL M K H1 vs ds := ⟨h.len, fun i v d e e' => (h.all i v d e e').kp k⟩
theorem DwL.kp0 (h : DwL M K H vs ds) (k : Kp [] H H1) : DwL M K H1 vs ds := ⟨h.len, fun i v d e e' => (h.all i v d e e').kp0 k⟩
theorem DwL.nil : DwL M K H [] [] := ⟨rfl, fun i v d e => by simp at e⟩
theorem DwL.cons (hv : Dw M K H v d) (h : DwL M K H vs ds) : DwL M K H (v :: vs) (d :: ds) := by
  refine ⟨by rw [List.length_cons, List.length_cons, h.len], fun i u e q q' => ?_⟩
  cases i with
  | zero =>
    cases q
    cases q'
    exact hv
  | succ i => exact h.all i u e (by simpa using q) (by simpa using q')
theorem DwL.get {i : Nat} (h : DwL M K H vs ds) (e : vs[i]? = some v) : ∃ d, ds[i]? = some d ∧ Dw M K H v d := by
  have hi := (List.getElem?_eq_some_iff.mp e).1
  have hj : i < ds.length := by rw [← h.len]; exact hi
  exact ⟨ds[i], List.getElem?_eq_getElem hj, h.all i v _ e (List.getElem?_eq_getElem hj)⟩
theorem Stk.kp (h : Stk M K H vs st) (k : Kp M H H1) : Stk M K H1 vs st := ⟨h.len, fun i v p e e' => by
  obtain ⟨a, y, q1, q2, q3⟩ := h.all i v p e e'
  exact ⟨a, y, q1, k.tup q2, q3.kp k⟩⟩
theorem Stk.kp0 (h : Stk M K H vs st) (k : Kp [] H H1) : Stk M K H1 vs st := ⟨h.len, fun i v p e e' => by
  obtain ⟨a, y, q1, q2, q3⟩ := h.all i v p e e'
  exact ⟨a, y, q1, k.tup q2, q3.kp0 k⟩⟩
theorem Stk.fresh {l : Addr} (h : Stk M K H vs st) (n : H l = none) : Stk (l :: M) K H vs st := ⟨h.len, fun i v p e e' => by
  obtain ⟨a, y, q1, q2, q3⟩ := h.all i v p e e'
  exact ⟨a, y, q1, q2, q3.fresh n⟩⟩
theorem Stk.nil : Stk M K H [] [] := ⟨rfl, fun i v d e => by simp at e⟩
theorem Stk.app (h : Stk M K H vs st) (h2 : Stk M K H us tt) : Stk M K H (vs ++ us) (st ++ tt) := by
  refine ⟨by rw [List.length_append, List.length_append, h.len, h2.len], fun i u e q q' => ?_⟩
  by_cases hi : i < vs.length
  · rw [List.getElem?_append_left hi] at q
    rw [List.getElem?_append_left (by rw [← h.len]; exact hi)] at q'
    exact h.all i u e q q'
  · rw [List.getElem?_append_right (by omega)] at q
    rw [List.getElem?_append_right (by rw [← h.len]; omega), ← h.len] at q'
    exact h2.all _ u e q q'
theorem Stk.one {a : Addr} {y : V} (h : H a = some (.tup [.int p.1, y])) (hy : Dw M K H y p.2) : Stk M K H [.ref a] [p] := ⟨rfl, fun i v q e e' => by
  match i, e, e' with
  | 0, e, e' => cases e; cases e'; exact ⟨a, y, rfl, h, hy⟩⟩
end
section
variable {M N : List Addr} {K : PySem.W.Frag} {H H1 : Hp} {v : V} {vs us : List V} {d : PyData} {ds es : List PyData} {st tt : List (Nat × PyData)}
theorem DwL.fresh {l : Addr} (h : DwL M K H vs ds) (n : H l = none) : DwL (l :: M) K H vs ds := ⟨h.len, fun i v d e e' => (h.all i v d e e').fresh n⟩
theorem DwL.sub (h : DwL M K H vs ds) (s : ∀ b ∈ N, b ∈ M) : DwL N K H vs ds := ⟨h.len, fun i v d e e' => (h.all i v d e e').sub s⟩
theorem Stk.sub (h : Stk M K H vs st) (s : ∀ b ∈ N, b ∈ M) : Stk N K H vs st := ⟨h.len, fun i v p e e' => by
  obtain ⟨c, y, q1, q2, q3⟩ := h.all i v p e e'
  exact ⟨c, y, q1, q2, q3.sub s⟩⟩
end
def dT (T : List (Nat × Sm)) : List (Nat × PyData) := T.map fun p => (p.1, p.2.d)
def Ts.bare : Ts → Ts
  | .not t => t.bare
  | t => t
def Ts.word : Ts → Str
  | .not _ => "not"
  | .given _ => "given"
  | .rest _ _ _ => "rest"
  | .less _ _ => "less"
def Sm.own (so : Str) (s : Sm) : Int := if so = "weight" then 1 else match s with
  | .ifs t _ _ => if t.bare.word = so then 1 else 0
  | _ => 0
mutual
def Sm.cnt (so : Str) : Sm → Int
  | .pl p => Sm.own so (.pl p)
  | .ifs t y z => Sm.own so (.ifs t y z) + (Sm.cnts so y + Sm.cnts so z)
  | .rep k b => Sm.own so (.rep k b) + Sm.cnts so b * k
def Sm.cnts (so : Str) : List Sm → Int
  | [] => 0
  | s :: r => Sm.cnt so s + Sm.cnts so r
end
def errD (x : Str) : PyData := .tuple [.none, .str x]
def lim (p : List Sm) : PyData := if Sm.sizes p > 24 then errD "places" else if Sm.cnts "weight" p > 30 then errD "weight" else if Sm.cnts "rest" p > 2 then errD "rests" else if Sm.cnts "less" p > 2 then errD "comparings" else .none
end Aw
namespace Aw
open PySem PySem.Spec L2
theorem Shw.int {i : Int} {k : Nat} (h1 : -(2 ^ 64) < i) (h2 : i < 2 ^ 64) : Shw (.int i) k 70 := by
  refine ⟨by rw [PyData.showable]; exact decide_eq_true (log2_small h1 h2), by rw [PyData.hasDict], by rw [PyData.depth]; exact Nat.zero_le _, ?_⟩
  rw [PyData.shown]
  have h : i.natAbs.log2 < 64 := by
    by_cases h : i.natAbs = 0
    · rw [h]
      decide
    · exact (Nat.log2_lt h).mpr (show i.natAbs < 2 ^ 64 by omega)
  have q := int_text_length_le (k := 64) (by decide) h
  show (Str.ofString (toString i)).length ≤ 70
  rw [ofString_length]
  omega
theorem Sm.vd.mono {m : Nat} : ∀ {n : Nat} {s : Sm}, s.vd m → m ≤ n → s.vd n := by
  induction m with
  | zero =>
    intro n s h hn
    cases s with
    | pl p => cases n <;> exact h
    | ifs t y z =>
      obtain ⟨h1, rfl, rfl⟩ := h
      cases n
      · exact ⟨h1, rfl, rfl⟩
      · exact ⟨h1, (fun _ q => nomatch q), (fun _ q => nomatch q)⟩
    | rep k b =>
      obtain ⟨h1, h2, rfl⟩ := h
      cases n
      · exact ⟨h1, h2, rfl⟩
      · exact ⟨h1, h2, (fun _ q => nomatch q)⟩
  | succ m ih =>
    intro n s h hn
    obtain ⟨n, rfl⟩ : ∃ k, n = k + 1 := ⟨n - 1, by omega⟩
    cases s with
    | pl p => exact h
    | ifs t y z => exact ⟨h.1, fun s q => ih (h.2.1 s q) (by omega), fun s q => ih (h.2.2 s q) (by omega)⟩
    | rep k b => exact ⟨h.1, h.2.1, fun s q => ih (h.2.2 s q) (by omega)⟩
end Aw
namespace Aw
open PySem PySem.Spec L2
structure NmV (H : Hp) (a : Addr) (xs : List Str) : Prop where
  h : H a = some (.lst (xs.map V.str))
  len : xs.length = 4
  ok : ∀ x ∈ xs, isNameS x = true
theorem NmV.kp {M : List Addr} {H H1 : Hp} {a : Addr} {xs : List Str} (h : NmV H a xs) (k : Kp M H H1) (n : a ∉ M) : NmV H1 a xs := ⟨k.get h.h n, h.len, h.ok⟩
theorem NmV.item {H : Hp} {a : Addr} {xs : List Str} (h : NmV H a xs) {i : Nat} {x : V} (e : (xs.map V.str)[i]? = some x) : ∃ z : Str, x = .str z ∧ isNameS z = true := by
  rw [List.getElem?_map] at e
  obtain ⟨z, hz, rfl⟩ := Option.map_eq_some_iff.mp e
  exact ⟨z, rfl, h.ok z (List.mem_of_getElem? hz)⟩
theorem NmV.one {K : PySem.W.Frag} {H : Hp} {Q : VK} {E : XK} {d c a : Addr} {n : Int} {xs : List Str} (h : NmV H a xs) (D : Deck H d c n) (hn : n < 10 ^ 12) (h1 : a ≠ d) (h2 : a ≠ c)
    (k : ∀ (H' : Hp) (z : Str), isNameS z = true → Deck H' d c (n + 1) → Kp [d, c] H H' → Q (.str z) H') : spOne K [.ref d, .ref a] H Q E := by
  refine spOne.list D hn (SqL.of h.h) h1 h2 (by rw [List.length_map, h.len]; omega) (by rw [List.length_map, h.len]; omega) fun H' i x hx D' k' => ?_
  obtain ⟨z, rfl, hz⟩ := h.item hx
  exact k H' z hz D' k'
theorem Ex.vd.succ : ∀ {n : Nat} {e : Ex}, e.vd n → e.vd (n + 1)
  | 0, _, h => h.elim
  | _ + 1, .int _, h => h
  | _ + 1, .name _, h => h
  | _ + 1, .bin _ _ _, h => ⟨h.1.succ, h.2.imp id fun q => ⟨q.1, q.2.succ⟩⟩
theorem Ex.vd.mono {m n : Nat} {e : Ex} (h : e.vd m) (q : m ≤ n) : e.vd n := by
  induction q with
  | refl => exact h
  | step _ ih => exact ih.succ
theorem Ts.vd.succ : ∀ {n : Nat} {t : Ts}, t.vd n → t.vd (n + 1)
  | n + 1, .not t, h => Ts.vd.succ (n := n) (t := t) h
  | n, .given x, h => by cases n <;> exact h
  | n, .rest e b r, h => by cases n <;> exact h
  | n, .less a b, h => by cases n <;> exact h
theorem Ts.vd.mono {m n : Nat} {t : Ts} (h : t.vd m) (q : m ≤ n) : t.vd n := by
  induction q with
  | refl => exact h
  | step _ ih => exact ih.succ
/-- what a test counts -/
def Ts.one (so : Str) (t : Ts) : Int := if t.bare.word = so then 1 else 0
theorem Sm.cnts_app (so : Str) : ∀ a b : List Sm, Sm.cnts so (a ++ b) = Sm.cnts so a + Sm.cnts so b
  | [], b => by rw [List.nil_append, Sm.cnts, Int.zero_add]
  | u :: r, b => by rw [List.cons_append, Sm.cnts, Sm.cnts, Sm.cnts_app so r b, Int.add_assoc]
/-- both sides of less are two deep at most -/
def Ts.lo : Ts → Prop
  | .not t => t.lo
  | .less a b => a.vd 2 ∧ b.vd 2
  | _ => True
mutual
def Sm.lo : Sm → Prop
  | .pl _ => True
  | .ifs t y z => t.lo ∧ Sm.los y ∧ Sm.los z
  | .rep _ b => Sm.los b
def Sm.los : List Sm → Prop
  | [] => True
  | s :: r => Sm.lo s ∧ Sm.los r
end
theorem Sm.los_app : ∀ a b : List Sm, Sm.los a → Sm.los b → Sm.los (a ++ b)
  | [], b, _, h => h
  | s :: r, b, h, g => by
    rw [Sm.los] at h
    rw [List.cons_append, Sm.los]
    exact ⟨h.1, Sm.los_app r b h.2 g⟩
/-- what is left behind rows that count so many times -/
structure Took (ti a b r s a' b' r' s' : Int) (x : List Sm) : Prop where
  a : a' = a - Sm.sizes x
  b : b' = b - ti * Sm.cnts "weight" x
  r : r' = r - ti * Sm.cnts "rest" x
  s : s' = s - ti * Sm.cnts "less" x
  l : Sm.los x
theorem Took.nil {ti a b r s : Int} : Took ti a b r s a b r s [] := by
  constructor <;> simp [Sm.sizes, Sm.cnts, Sm.los]
theorem Took.app {ti a b r s a1 b1 r1 s1 a2 b2 r2 s2 : Int} {x y : List Sm} (h : Took ti a b r s a1 b1 r1 s1 x) (g : Took ti a1 b1 r1 s1 a2 b2 r2 s2 y) : Took ti a b r s a2 b2 r2 s2 (x ++ y) := by
  have h1 := h.a; have h2 := h.b; have h3 := h.r; have h4 := h.s
  have g1 := g.a; have g2 := g.b; have g3 := g.r; have g4 := g.s
  constructor
  · rw [Sm.sizes_app]; omega
  · rw [Sm.cnts_app, Int.mul_add]; omega
  · rw [Sm.cnts_app, Int.mul_add]; omega
  · rw [Sm.cnts_app, Int.mul_add]; omega
  · exact Sm.los_app _ _ h.l g.l
end Aw
namespace Aw
open PySem PySem.Spec L2
mutual
def shb : PyData → Bool
  | .none => true
  | .bool _ => true
  | .int i => decide (i.natAbs.log2 < 200)
  | .str x => PyData.strOk x
  | .list ds => shbs ds
  | .tuple ds => shbs ds
  | .dict [] => true
  | .dict [(.str x, .int i)] => PyData.strOk x && decide (x.length ≤ 8) && decide (i.natAbs.log2 < 200)
  | .dict _ => false
def shbs : List PyData → Bool
  | [] => true
  | d :: r => shb d && shbs r
end
theorem int_len {i : Int} (h : i.natAbs.log2 < 200) : (Str.ofString (toString i)).length ≤ 201 := by
  have q := int_text_length_le (k := 200) (by decide) h
  rw [ofString_length]
  omega
mutual
theorem shb_ok : ∀ d : PyData, shb d = true → d.showable = true ∧ d.shown.length + 2 ≤ 300 * dsz d
  | .none, _ => ⟨by rw [PyData.showable], by rw [PyData.shown, dsz]; decide +kernel⟩
  | .bool b, _ => ⟨by rw [PyData.showable], by rw [PyData.shown, dsz]; cases b <;> decide +kernel⟩
  | .int i, h => by
    rw [shb, decide_eq_true_eq] at h
    refine ⟨by rw [PyData.showable]; exact decide_eq_true (by omega), ?_⟩
    rw [PyData.shown, dsz]
    have := int_len h
    show (Str.ofString (toString i)).length + 2 ≤ 300 * 1
    omega
  | .str x, h => by
    rw [shb] at h
    refine ⟨by rw [PyData.showable], ?_⟩
    rw [PyData.shown, dsz]
    have := (Sok.repr (x := x) (n := x.length) ⟨h, Nat.le_refl _⟩)
    omega
  | .list ds, h => by
    rw [shb] at h
    obtain ⟨a, b, c⟩ := shbs_ok ds h
    refine ⟨by rw [PyData.showable]; exact a, ?_⟩
    rw [PyData.shown, dsz]
    have q := listText_len_le (PyData.shownAll ds)
    omega
  | .tuple ds, h => by
    rw [shb] at h
    obtain ⟨a, b, c⟩ := shbs_ok ds h
    refine ⟨by rw [PyData.showable]; exact a, ?_⟩
    rw [PyData.shown, dsz]
    have q := tupleText_len_le (PyData.shownAll ds)
    omega
  | .dict [], _ => ⟨by rw [PyData.showable, PyData.showableKv], by rw [PyData.shown, PyData.shownKv, dsz]; decide +kernel⟩
  | .dict [(.str x, .int i)], h => by
    rw [shb, Bool.and_eq_true, Bool.and_eq_true, decide_eq_true_eq, decide_eq_true_eq] at h
    obtain ⟨⟨h1, h2⟩, h3⟩ := h
    refine ⟨by simp [PyData.showable, PyData.showableKv]; omega, ?_⟩
    rw [PyData.shown, dsz]
    have q := dictText_len_le (PyData.shownKv [(.str x, .int i)])
    have e : PyData.shownKv [(.str x, .int i)] = [reprText x ++ ": " ++ Str.ofString (toString i)] := by
      simp [PyData.shownKv, PyData.shown]
    rw [e] at q ⊢
    have r1 := (Sok.repr (x := x) (n := 8) ⟨h1, h2⟩)
    have r2 := int_len h3
    simp only [List.map_cons, List.map_nil, List.sum_cons, List.sum_nil, List.length_cons, List.length_nil, Str.length_append] at q
    have r3 : (": " : Str).length = 2 := by decide +kernel
    omega
  | .dict ((.none, _) :: _), h => by simp [shb] at h
  | .dict ((.bool _, _) :: _), h => by simp [shb] at h
  | .dict ((.int _, _) :: _), h => by simp [shb] at h
  | .dict ((.list _, _) :: _), h => by simp [shb] at h
  | .dict ((.tuple _, _) :: _), h => by simp [shb] at h
  | .dict ((.dict _, _) :: _), h => by simp [shb] at h
  | .dict ((.str _, .none) :: _), h => by simp [shb] at h
  | .dict ((.str _, .bool _) :: _), h => by simp [shb] at h
  | .dict ((.str _, .str _) :: _), h => by simp [shb] at h
  | .dict ((.str _, .list _) :: _), h => by simp [shb] at h
  | .dict ((.str _, .tuple _) :: _), h => by simp [shb] at h
  | .dict ((.str _, .dict _) :: _), h => by simp [shb] at h
  | .dict ((.str _, .int _) :: _ :: _), h => by simp [shb] at h
theorem shbs_ok : ∀ ds : List PyData, shbs ds = true → PyData.showableAll ds = true ∧ (PyData.shownAll ds).length = ds.length ∧ ((PyData.shownAll ds).map (·.length)).sum + 2 * (PyData.shownAll ds).length ≤ 300 * dszs ds
  | [], _ => ⟨by rw [PyData.showableAll], by rw [PyData.shownAll]; rfl, by rw [PyData.shownAll]; simp⟩
  | d :: r, h => by
    rw [shbs, Bool.and_eq_true] at h
    obtain ⟨a, b⟩ := shb_ok d h.1
    obtain ⟨a1, b1, c1⟩ := shbs_ok r h.2
    refine ⟨by rw [PyData.showableAll, a, a1]; rfl, by rw [PyData.shownAll, List.length_cons, List.length_cons, b1], ?_⟩
    rw [PyData.shownAll, List.map_cons, List.sum_cons, List.length_cons, dszs]
    omega
end
/-- data of a size, that may be shown, of a depth -/
structure Dok (d : PyData) (z k : Nat) : Prop where
  sz : dsz d ≤ z
  sh : shb d = true
  dp : d.depth ≤ k
theorem Dok.shw {d : PyData} {z k : Nat} (h : Dok d z k) : ShwD d k (300 * z) := by
  obtain ⟨a, b⟩ := shb_ok d h.sh
  have := h.sz
  exact ⟨a, h.dp, by omega⟩
theorem Dok.mono {d : PyData} {z k z' k' : Nat} (h : Dok d z k) (hz : z ≤ z') (hk : k ≤ k') : Dok d z' k' := ⟨Nat.le_trans h.sz hz, h.sh, Nat.le_trans h.dp hk⟩
theorem Dok.by {d : PyData} {z k : Nat} (h : (decide (dsz d ≤ z) && shb d && decide (d.depth ≤ k)) = true) : Dok d z k := by
  rw [Bool.and_eq_true, Bool.and_eq_true, decide_eq_true_eq, decide_eq_true_eq] at h
  exact ⟨h.1.1, h.1.2, h.2⟩
def Oc (M : List Addr) (H : Hp) : Prop := ∀ a ∈ M, ∃ o, H a = some o
theorem Oc.new {M : List Addr} {H H1 : Hp} {p : Addr} (h : Oc M H) (k : Kp [] H H1) (hp : H1 p = none) : p ∉ M := fun m => by
  obtain ⟨o, e⟩ := h p m
  rw [k.get e (by simp)] at hp
  cases hp
def CW (M : List Addr) (K : PySem.W.Frag) (σ : L2.St) (H0 : Hp) (te : TE) (d : PyData) : Prop := ∀ (H : Hp) (Q : VK), Kp [] H0 H → (∀ H' v, Kp [] H H' → Dw M K H' v d → Q v H') → te σ H Q
def CWs (M : List Addr) (K : PySem.W.Frag) (σ : L2.St) (H0 : Hp) (ts : TA) (ds : List PyData) : Prop := ∀ (H : Hp) (R : List V → Hp → Prop), Kp [] H0 H → (∀ H' vs, Kp [] H H' → DwL M K H' vs ds → R vs H') → ts σ H R
section
variable {M : List Addr} {K : PySem.W.Frag} {σ : L2.St} {H0 : Hp} {te ta tb : TE} {ts : TA} {d : PyData} {ds es : List PyData}
theorem DwL.tup {H : Hp} {vs : List V} {a : Addr} (h : DwL M K H vs ds) (e : H a = some (.tup vs)) : Dw M K H (.ref a) (.tuple ds) := .tup (SqT.of e) h.len h.all
theorem DwL.lst {H : Hp} {vs : List V} {a : Addr} (h : DwL M K H vs ds) (e : H a = some (.lst vs)) (n : a ∉ M) : Dw M K H (.ref a) (.list ds) := .lst e n h.len h.all
theorem DwL.app {H : Hp} {vs us : List V} (h : DwL M K H vs ds) (g : DwL M K H us es) : DwL M K H (vs ++ us) (ds ++ es) := by
  refine ⟨by rw [List.length_append, List.length_append, h.len, g.len], fun i u e q q' => ?_⟩
  by_cases hi : i < vs.length
  · rw [List.getElem?_append_left hi] at q
    rw [List.getElem?_append_left (by rw [← h.len]; exact hi)] at q'
    exact h.all i u e q q'
  · rw [List.getElem?_append_right (by omega)] at q
    rw [List.getElem?_append_right (by rw [← h.len]; omega), ← h.len] at q'
    exact g.all _ u e q q'
theorem cw_str {x : Str} : CW M K σ H0 (tC (.str x)) (.str x) := fun H Q _ h => h H _ Kp.nil (.str x)
theorem cw_int {x : Int} : CW M K σ H0 (tC (.int x)) (.int x) := fun H Q _ h => h H _ Kp.nil (.int x)
theorem cw_bl {x : Bool} : CW M K σ H0 (tC (.bl x)) (.bool x) := fun H Q _ h => h H _ Kp.nil (.bl x)
theorem cw_non : CW M K σ H0 (tC .non) .none := fun H Q _ h => h H _ Kp.nil .non
theorem cw_var {i : Nat} {v : V} (e : σ[i]? = some (some v)) (hv : Dw M K H0 v d) : CW M K σ H0 (tVar i) d := fun H Q k h => ⟨v, e, h H _ Kp.nil (hv.kp0 k)⟩
theorem cw_neg {i : Int} : CW M K σ H0 (tUn (rU fun i => .int (-i)) (tC (.int i))) (.int (-i)) := fun H Q _ h => r_un (r_C (r_U (h H _ Kp.nil (.int _))))
theorem cw_pow {i j : Int} (h0 : CPow i j) : CW M K σ H0 (tOp (rI CPow fun i j => .int (i ^ j.toNat)) (tC (.int i)) (tC (.int j))) (.int (i ^ j.toNat)) := fun H Q _ h => r_op (r_C (r_C (r_I (h H _ Kp.nil (.int _)) h0)))
theorem cws_nil : CWs M K σ H0 tNil [] := fun H R _ h => h H _ Kp.nil DwL.nil
theorem cws_cons (a : CW M K σ H0 te d) (b : CWs M K σ H0 ts ds) : CWs M K σ H0 (tCons te ts) (d :: ds) := fun H R k h =>
  a H _ k fun H1 v k1 hv => b H1 _ (k.trans k1) fun H2 vs k2 hs => h H2 (v :: vs) (k1.trans k2) (DwL.cons (hv.kp0 k2) hs)
theorem cw_tup (b : CWs M K σ H0 ts ds) (hz : ds.length ≤ 16777216) : CW M K σ H0 (tTup ts) (.tuple ds) := fun H Q k h =>
  b H _ k fun H1 vs k1 hs => ⟨by rw [hs.len, sizeLine_eq]; exact hz, fun p hp => h _ _ (k1.new hp) ((hs.kp0 (Kp.nil.new hp)).tup upd_same)⟩
theorem cw_lst (hM : Oc M H0) (b : CWs M K σ H0 ts ds) (hz : ds.length ≤ 16777216) : CW M K σ H0 (tLst ts) (.list ds) := fun H Q k h =>
  b H _ k fun H1 vs k1 hs => ⟨by rw [hs.len, sizeLine_eq]; exact hz, fun p hp => h _ _ (k1.new hp) ((hs.kp0 (Kp.nil.new hp)).lst upd_same (hM.new (k.trans k1) hp))⟩
theorem cw_d0 (hM : Oc M H0) : CW M K σ H0 tDNewK (.dict []) := fun H Q k h p hp => h _ _ (Kp.nil.new hp) (.dct upd_same (hM.new k hp) rfl (fun i kv p e => by simp at e) (fun i kv p e => by simp at e))
theorem cw_d1 {x : Str} {i : Int} (hM : Oc M H0) : CW M K σ H0 (tDisp [(tC (.str x), tC (.int i))]) (.dict [(.str x, .int i)]) := fun H Q k h p hp => by
  refine r_pcons (r_C (r_C (r_pnil ⟨upd_same, [(Sum.inr x, .int i)], rfl, by simp, ?_⟩)))
  have e : mergeK [] [((Sum.inr x : Key), V.int i)] = [(Sum.inr x, .int i)] := rfl
  rw [e, upd_upd]
  refine h _ _ (Kp.nil.new hp) (.dct upd_same (hM.new k hp) rfl (fun j kv p e e' => ?_) (fun j kv p e e' => ?_))
  · match j, e, e' with
    | 0, e, e' => cases e; cases e'; rfl
  · match j, e, e' with
    | 0, e, e' => cases e; cases e'; exact .int i
theorem CWs.use {H : Hp} {R : List V → Hp → Prop} (a : CWs M K σ H ts ds) (h : ∀ H' vs, Kp [] H H' → DwL M K H' vs ds → R vs H') : ts σ H R := a H R Kp.nil h
end
theorem small_log {i : Int} (h1 : -1000 ≤ i) (h2 : i ≤ 1000) : i.natAbs.log2 < 200 := by
  by_cases h : i.natAbs = 0
  · rw [h]
    decide
  · exact Nat.lt_of_lt_of_le ((Nat.log2_lt (k := 10) h).mpr (by omega)) (by decide)
theorem Dok.int {i : Int} (h1 : -1000 ≤ i) (h2 : i ≤ 1000) : Dok (.int i) 1 0 := ⟨by rw [dsz]; omega, by rw [shb]; exact decide_eq_true (small_log h1 h2), by rw [PyData.depth]; omega⟩
theorem Dok.str {x : Str} {n : Nat} (h : PyData.strOk x = true ∧ x.length ≤ n) : Dok (.str x) (n + 1) 0 := ⟨by rw [dsz]; omega, by rw [shb]; exact h.1, by rw [PyData.depth]; omega⟩
theorem Dok.nil {k : Nat} : Dok (.tuple []) 1 (k + 1) := ⟨by simp [dsz, dszs], by simp [shb, shbs], by simp [PyData.depth, PyData.depthAll]⟩
/-- lists of data -/
structure Doks (ds : List PyData) (z k : Nat) : Prop where
  sz : dszs ds ≤ z
  sh : shbs ds = true
  dp : PyData.depthAll ds ≤ k
theorem Doks.nil {k : Nat} : Doks [] 0 k := ⟨by rw [dszs]; omega, by rw [shbs], by rw [PyData.depthAll]; omega⟩
theorem Doks.cons {d : PyData} {ds : List PyData} {z z' k k' : Nat} (a : Dok d z k') (b : Doks ds z' k) (h : k' ≤ k) : Doks (d :: ds) (z + z') k := by
  have := a.sz; have := b.sz; have := a.dp; have := b.dp
  exact ⟨by rw [dszs]; omega, by rw [shbs, a.sh, b.sh]; rfl, by rw [PyData.depthAll]; omega⟩
theorem Doks.tup {ds : List PyData} {z k : Nat} (h : Doks ds z k) : Dok (.tuple ds) (z + 1) (k + 1) := by
  have := h.sz; have := h.dp
  exact ⟨by rw [dsz]; omega, by rw [shb]; exact h.sh, by rw [PyData.depth]; omega⟩
theorem Dok.lst {ds : List PyData} {z k : Nat} (h : Dok (.tuple ds) z k) : Dok (.list ds) z k := by
  have h1 := h.sz; have h2 := h.dp; have h3 := h.sh
  rw [dsz] at h1
  rw [PyData.depth] at h2
  rw [shb] at h3
  exact ⟨by rw [dsz]; exact h1, by rw [shb]; exact h3, by rw [PyData.depth]; exact h2⟩
theorem Deck.oc {H : Hp} {d c : Addr} {n : Int} (D : Deck H d c n) : Oc [d, c] H := fun a m => by
  obtain ⟨xs, e⟩ := D.ls a m
  exact ⟨_, e⟩
theorem Oc.kp {M : List Addr} {H H1 : Hp} (h : Oc M H) (k : Kp [] H H1) : Oc M H1 := fun a m => by
  obtain ⟨o, e⟩ := h a m
  exact ⟨o, k.get e (by simp)⟩
end Aw
namespace Aw
open PySem PySem.Spec PyProof.Rows L2
/-- what the written part says of an error's class at C, by the name x -/
structure ErrC (K : PySem.W.Frag) (mg : Str → Option Value) (x : Str) (C : Addr) : Prop where
  o : OexC K C
  f : XfC K C
  at_ : mg x = some (.ref C)
/-- the error's __init__ keeps its promise -/
def HasE (P : Program) (w : World) (K : PySem.W.Frag) (mg : Str → Option Value) (base : Heap) (x : Str) (C : Addr) (ps : List Str) (k : Nat) (sp : Sp) : Prop :=
  ErrC K mg x C ∧ ∃ (f : Addr) (fd : FuncData), PySem.W.findIn K (.ref C) "__init__" = some (some (.ref f)) ∧ PySem.W.typeIn K (.ref f) = some (.type "function") ∧ Binds K fd ps [] ∧ FnG P w K mg base CX0 k f fd ps sp
theorem HasE.of {P : Program} {w : World} {K : PySem.W.Frag} {mg : Str → Option Value} {base : Heap} {x : Str} {C : Addr} {ps : List Str} {k : Nat} {sp : Sp} (E : ErrC K mg x C) (h : HasM P w K mg base CX0 C "__init__" ps k sp) : HasE P w K mg base x C ps k sp := by
  obtain ⟨f, fd, _, M, b, F⟩ := h
  exact ⟨E, f, fd, M.at_, beq_iff_eq.mp M.fn, b, F⟩
/-- self.f = v is all that it does -/
def spErr (C : Addr) (f : Str) : Sp := fun vs H Q _ => ∃ (a : Addr) (v : V), vs = [.ref a, v] ∧ H a = some (exo a C none) ∧
  ∀ dx, H dx = none → dx ≠ a → Q .non (upd (upd H dx (exd dx [(f, v)])) a (exo a C (some dx)))
section
variable {X : Cx} {e : Expr} {es : List Expr} {ta : TA} {x f : Str} {C : Addr} {k : Nat} {ps : List Str} {p pos p1 p2 : Pos}
/-- R.__init__(self, ..), R an own class over ValueError without an __init__ -/
theorem pe_reinit {R : Str} {CR : Addr} {pl : Sem Bool} (hg : Gl X R) (hm : X.mg R = some (.ref CR)) (rd : PySem.W.readsIn X.K CR (.type "type") = true) (sp : PySem.W.specialIn X.K (.ref CR) "__getattribute__" = some (some (.builtin "type.__getattribute__")))
    (vV : PySem.W.findCls X.K (.ref CR) (.type "type") "__init__" = some (.val (.builtin "ValueError.__init__"))) (ha : PA X (e :: es) ta)
    (hdb : (R == ("__debug__" : Str)) = false := by decide)
    (hc : eval (.Call (.Attribute (.Name R p1) "__init__" p2) (e :: es) [] pos) X.env = (do
      let ov ← eval (.Name R p1) X.env
      standAt p2.atName
      let (f, first) ← holding [ov] (getMethod ov "__init__" pl)
      callWith pos f first (backTo pos (starEach (e :: es) X.env)) (backToKw pos (keywordEach [] X.env))) := by rfl)
    (he : starEach (e :: es) X.env = (false, eval e X.env) :: starEach es X.env := by rfl) (hpl : (backTo pos (starEach es X.env)).any (·.1) = false := by rfl) :
    PE X (.Call (.Attribute (.Name R p1) "__init__" p2) (e :: es) [] pos) (tVeI X.K ta) := by
  refine ⟨fun pins s σ H Q I h => ?_⟩
  refine PySem.W.methodCall_KW (ld_glob I hg hm ?_ hdb) hc
  refine PySem.W.method_cls I.kIn sp (PySem.W.cls_value I.kIn rd vV (by decide +kernel) ?_)
  show wpAny _ _ (callWith pos (Value.builtin "ValueError.__init__") [] (backTo pos (starEach (e :: es) X.env)) []) _ _ _
  refine PyProof.Rows.callWith_method1 (thn (ha.run pos pins _ σ H _ (I.tok _) h) fun us s1 ⟨vs, H1, I1, r1, a, C, ws, ev, hl, T, ea, q⟩ => ?_) he hpl
  subst ev
  cases r1 with
  | @cons _ u0 _ ur ra rw' =>
    obtain rfl : u0 = Value.ref a := ra
    have hlen : ur.length ≤ sizeLine := by
      rw [← Paired.length rw', sizeLine_eq]
      omega
    exact oinit_ok T I1 ea hlen fun s' J => ⟨.non, H1, J, rfl, q⟩
end
end Aw
namespace Aw
open PySem PySem.Spec PyProof.Rows L2
/-- own classes, then a base's mro -/
inductive RfT (tl : List Value) : List Value → Prop
  | base : RfT tl tl
  | ref {r : List Value} (c : Addr) (h : RfT tl r) : RfT tl (.ref c :: r)
theorem RfT.has {tl l : List Value} (h : RfT tl l) (T : String) : l.contains (.type T) = tl.contains (.type T) := by
  induction h with
  | base => rfl
  | ref c _ ih =>
    rw [List.contains_cons, ih]
    rfl
theorem RfT.passes {tl l : List Value} {self : Value} (h : RfT tl l) (p : refuseLoop self "__setattr__" tl = pure ()) : refuseLoop self "__setattr__" l = pure () := by
  induction h with
  | base => exact p
  | ref c _ ih =>
    rw [refuseLoop_ref]
    exact ih
theorem RfT.some {tl l : List Value} (h : RfT tl l) (n : tl.isEmpty = false) : l.isEmpty = false := by
  cases h with
  | base => exact n
  | ref _ _ => rfl
theorem rfB_ok {tl : List Value} : ∀ {l : List Value}, rfB tl l = true → RfT tl l
  | [], h => by
    have e : ([] : List Value) = tl := of_decide_eq_true h
    rw [e]
    exact .base
  | a :: r, h => by
    by_cases hr : ∃ c, a = .ref c
    · obtain ⟨c, rfl⟩ := hr
      rcases Bool.or_eq_true_iff.mp h with q | q
      · exact .ref c (rfB_ok q)
      · rw [← of_decide_eq_true q]
        exact .base
    · have e : rfB tl (a :: r) = decide (a :: r = tl) := by
        unfold rfB
        split
        · rename_i c _ z
          cases z
          exact absurd ⟨_, rfl⟩ hr
        · rfl
      rw [e] at h
      rw [of_decide_eq_true h]
      exact .base
/-- what a built-in base of errors does -/
structure BaseF (newId initId : String) (tl : List Value) : Prop where
  F : ∃ B, ExcBaseFacts B newId initId tl
  pass : ∀ self : Value, refuseLoop self "__setattr__" tl = pure ()
  ob : tl.contains (.type "object") = true
  ne : tl.isEmpty = false
theorem leF : BaseF "LookupError.__new__" "LookupError.__init__" leT := ⟨⟨_, F.excBase_LookupError⟩, F.store_LookupError.passes, by decide +kernel, rfl⟩
theorem veF : BaseF "ValueError.__new__" "ValueError.__init__" veT := ⟨⟨_, F.excBase_ValueError⟩, F.store_ValueError.passes, by decide +kernel, rfl⟩
section
variable {prog : Program} {w : World} {A : Around} {R : Result → Shared → Prop} {h0 : Heap} {gs : Array GenState} {dr : Drawn} {tk0 : Nat} {os : OsState}
/-- the first store into an error without a dict -/
theorem first_store {K : W.Frag} {tl : List Value} {nm : Str} {tk : Tok} {val : Value} {a C : Addr} {fs : Array Value} {cd : ClassData} (pass : ∀ self : Value, refuseLoop self "__setattr__" tl = pure ()) (ob : tl.contains (.type "object") = true) (tne : tl.isEmpty = false)
    (X : K.In h0) (ho : h0.get? a = some { cls := .ref C, data := .fields fs }) (hcd : W.clsIn K C = some cd) (hm : RfT tl cd.mro) (hd : cd.hasDict = true) (hno : W.findIn K (.ref C) nm = some none)
    (hq : ∀ h' tk' dx, (∀ b o, b ≠ a → h0.get? b = some o → h'.get? b = some o) → h0.objs.size ≤ dx → dx ≠ a → h'.get? a = some { cls := .ref C, dict := some dx, data := .fields fs } → h'.Ns1 dx (fun y => if y = nm then some val else none) → R (.ok (.ret .none)) ⟨h', gs, dr, tk', os⟩) :
    codeAny (model prog w) A (.call (.builtin "object.__setattr__") ⟨[.ref a, .str nm tk, val], []⟩) R ⟨h0, gs, dr, tk0, os⟩ := by
  have J : W.InstAt h0 a { cls := .ref C, data := .fields fs } C none := ⟨ho, rfl, rfl, trivial⟩
  have cne := hm.some tne
  have cob : cd.mro.contains (.type "object") = true := (hm.has "object").trans ob
  have isO : W.Looks (model prog w) h0 (isInstance (.ref a) (.type "object")) true := J.type.andThen (W.looks_mroIn X (by unfold W.mroIn; rw [hcd, Option.bind_some, if_neg (by rw [cne]; decide), cob]))
  refine codeAny_call_builtin F.store_object.slot.plain F.store_object.entry (@W.check_slot (model prog w) _ _ ⟨h0, gs, dr, tk0, os⟩ "object.__setattr__" "object" "__setattr__" (.ref a) [.str nm tk, val] [] _ F.store_object.kind F.store_object.split isO (F.store_object.args (.ref a) (.str nm tk) val) ?_)
  have m1 : W.Looks (model prog w) h0 (mroOf (.ref C)) cd.mro := (W.looks_clsIn X hcd).andThen .now
  have m2 : W.Looks (model prog w) h0 (Builtin.ObjectAttr.storeTaker? none) none := .now
  have m3 : W.Looks (model prog w) h0 (classData C) cd := W.looks_clsIn X hcd
  rw [W.osa_eq, refuse_eq]
  refine wpAny_bind (wpAny_bind (J.type.at (wpAny_bind (m1.at ?_))))
  rw [hm.passes (pass _)]
  refine wpAny_pure (wpAny_bind (J.type.at (wpAny_bind ((W.looks_findIn X hno).at (wpAny_bind (m2.at ?_))))))
  show wpAny _ _ (Builtin.ObjectAttr.storeInOwnDict (.ref a) (.ref C) (.str nm tk) nm val false) _ _ _
  obtain ⟨c1, c2, c3, c4, c5, hdd, c7, c8, c9, c10, c11⟩ := cd
  dsimp only at hd
  subst hd
  have nea : a ≠ h0.objs.size := Nat.ne_of_lt (Heap.lt_size ho)
  unfold Builtin.ObjectAttr.storeInOwnDict Builtin.ObjectAttr.ownDictForStores
  repeat (first | with_reducible refine PySem.HandSPX.store_in_new ?_ ?_ | with_reducible refine wpAny_loadPart_at ho ?_ | with_reducible refine m3.at ?_ | wp_step)
  · exact ⟨_, #[], _, (Heap.get?_update_ne _ _ _ _ nea.symm).trans (Heap.get?_push_at rfl rfl), rfl, fun e he => absurd he (by simp), fun _ => rfl⟩
  · intro h' tk' hn' sm
    have hp1 : (h0.push { cls := .type "dict", data := .dict #[] }).get? a = some { cls := .ref C, data := .fields fs } := Heap.get?_push_of_some _ ho
    refine hq h' tk' h0.objs.size (fun b o nb eb => ?_) (Nat.le_refl _) nea.symm ((sm.2 a nea).trans (Heap.get?_update_self _ hp1 rfl)) hn'
    exact (sm.2 b (Nat.ne_of_lt (Heap.lt_size eb))).trans ((Heap.get?_update_ne _ _ _ _ nb).trans (Heap.get?_push_of_some _ eb))
end
/-- what the written part says of an error's class at C over such a base -/
structure GexC (K : PySem.W.Frag) (newId : String) (tl : List Value) (C : Addr) : Prop where
  cls : ∃ nm q N bs bm sn sub ab col dd k0 k1 k2 k3 k5, K.lookup C = some (excClassObj nm q C N bs bm true sn sub ab col dd k0 k1 k2 k3 k5 newId) ∧ RfT tl bm
  sa : PySem.W.findIn K (.ref C) "__setattr__" = some (some (.builtin "object.__setattr__"))
  kC : PySem.W.keepIn K (.ref C) = true
section
variable {X : Cx} {pins : List (Addr × Obj)} {σ : L2.St} {H : Hp} {s : Shared} {a C : Addr} {f : Str} {y : V} {u : Value} {newId initId : String} {tl : List Value}
/-- self.f = y, the first one -/
theorem gst_new {A : Around} {E : Value → Shared → Prop} {Q : Unit → Shared → Prop} (BF : BaseF newId initId tl) (T : GexC X.K newId tl C) (I : Inv X pins σ H s) (e : H a = some (exo a C none)) (hno : PySem.W.findIn X.K (.ref C) f = some none) (ry : RelV y u)
    (h : ∀ dx s', H dx = none → dx ≠ a → Inv X pins σ (upd (upd H dx (exd dx [(f, y)])) a (exo a C (some dx))) s' → Q () s') : wpAny (model X.prog X.w) A (setAttr (.ref a) f u) Q E s := by
  obtain ⟨nm, q, N, bs, bm, sn, sub, ab, col, dd, k0, k1, k2, k3, k5, hC, hbm⟩ := T.cls
  have hcl : PySem.W.clsIn X.K C = some { name := nm, bases := bs, mro := .ref C :: bm, ns := N, qualname := q, hasDict := true, slotNames := sn, subclasses := sub, abstract := ab, collection := col, hasDel := false } := by
    unfold PySem.W.clsIn
    rw [hC] <;> rfl
  obtain ⟨t1, ho⟩ := exo_at I.hok e
  obtain ⟨hp, g, d, t, os⟩ := s
  refine PySem.W.set_plain I.kIn (ox := { cls := .ref C, dict := none, data := .fields #[.ref t1, .none, .none, .none, .bool false, .none] }) (od := none) ⟨ho, rfl, rfl, trivial⟩ T.sa ?_
  refine first_store BF.pass BF.ob BF.ne I.kIn ho hcl (.ref C hbm) rfl hno fun h2 tk2 dx kp dn dne hx hn => ?_
  have fd : H dx = none := I.hok.fresh dn
  have od : ∀ {b : Addr} {o : Obj}, hp.get? b = some o → b ≠ dx := fun {b o} z => Nat.ne_of_lt (Nat.lt_of_lt_of_le (Heap.lt_size z) dn)
  have oa : ∀ {b : Addr}, H b = none → b ≠ a := fun {b} z w' => by
    rw [w', e] at z
    cases z
  have U : Un X.fs [] H (upd (upd H dx (exd dx [(f, y)])) a (exo a C (some dx))) hp h2 :=
    ⟨fun b o z n _ _ => kp b o (oa n) z, fun b o z n _ _ => ⟨o.slots, kp b o (oa n) z⟩, fun b o z n _ => by rw [upd_ne (oa n), upd_ne (od z)]; exact n,
      fun b o z _ => by
        by_cases hb : b = a
        · exact ⟨_, by rw [hb]; exact hx⟩
        · exact ⟨o, kp b o hb z⟩,
      fun b xs z => by rw [upd_ne (at_ne e z exo_tup), upd_ne (ne_of_none z fd)]; exact z, fun b o v z => by rw [upd_ne (at_ne e z exo_frz), upd_ne (ne_of_none z fd)]; exact z,
      fun b ps z => ⟨#[], by rw [upd_ne (at_ne e z exo_tbl), upd_ne (ne_of_none z fd), z]; simp⟩⟩
  refine h dx _ fd dne (I.un (t' := tk2) U fun b o z => ?_)
  by_cases hb : b = a
  · subst hb
    rw [upd_same] at z
    cases z
    exact exo_ok hx
  · rw [upd_ne hb] at z
    by_cases hd : b = dx
    · subst hd
      rw [upd_same] at z
      cases z
      exact exd_ok hn (relO_put (fs := []) ry fun g => True.intro)
    · rw [upd_ne hd] at z
      refine (I.hok b o z).stay (fun c v hc y2 => kp c v ?_ y2) (fun c hc => ?_) fun c xs hc => ?_
      · rcases hc with hc | hc
        · rw [hc]
          exact hb
        · exact at_ne e hc exo_own
      · rw [upd_ne (at_ne e hc exo_own), upd_ne (ne_of_none hc fd)]
        exact hc
      · rw [upd_ne (at_ne e hc exo_tup), upd_ne (ne_of_none hc fd)]
        exact hc
/-- the base's __init__(self, ..) -/
theorem gini_ok {A : Around} {E : Value → Shared → Prop} {us : List Value} {Q : Value → Shared → Prop} (BF : BaseF newId initId tl) (T : GexC X.K newId tl C) (I : Inv X pins σ H s) (e : H a = some (exo a C none)) (hl : us.length ≤ sizeLine) (h : ∀ s', Inv X pins σ H s' → Q .none s') :
    wpAny (model X.prog X.w) A (call (.builtin initId) (.ref a :: us)) Q E s := by
  obtain ⟨nm, q, N, bs, bm, sn, sub, ab, col, dd, k0, k1, k2, k3, k5, hC, hbm⟩ := T.cls
  obtain ⟨B, FB⟩ := BF.F
  obtain ⟨t1, ho⟩ := exo_at I.hok e
  obtain ⟨hp, g, d, t, os⟩ := s
  refine wpAny_call (PySem.HandSPX.init_base FB (fun Y => hbm.has Y) (I.kIn _ _ hC) ho hl fun h2 t2 k hx => ?_)
  have J := I.write (t' := t) (x := a) (e := a) (o := exo a C none) (by rw [e]; exact True.intro) (.inl rfl) k ⟨_, hx⟩ (exo_ok hx)
  have eu : upd H a (exo a C none) = H := by
    funext b
    by_cases hb : b = a
    · rw [hb, upd_same, e]
    · rw [upd_ne hb]
  rw [eu] at J
  exact h _ J
end
/-- LookupError.__init__(self, ..) -/
def tLeI (K : PySem.W.Frag) (newId : String) (tl : List Value) (ta : TA) : TE := fun σ H Q => ta σ H fun vs H1 => ∃ (a C : Addr) (ws : List V), vs = .ref a :: ws ∧ ws.length ≤ 1000 ∧ GexC K newId tl C ∧ H1 a = some (exo a C none) ∧ Q .non H1
/-- self.f = e, the first one -/
def tGst (K : PySem.W.Frag) (newId : String) (tl : List Value) (f : Str) (to te : TE) : TS := fun D σ H => te σ H fun y H1 => to σ H1 fun x H2 => ∃ a C : Addr, x = .ref a ∧ GexC K newId tl C ∧ PySem.W.findIn K (.ref C) f = some none ∧
  H2 a = some (exo a C none) ∧ ∀ dx, H2 dx = none → dx ≠ a → D.nx σ (upd (upd H2 dx (exd dx [(f, y)])) a (exo a C (some dx)))
section
variable {X : Cx} {o e : Expr} {es : List Expr} {to te : TE} {ta : TA} {f : Str} {p p' p1 p2 pos : Pos} {newId initId : String} {tl : List Value}
theorem typ_LE : typeOf (.type "LookupError") = pure (.type "type") := by kernel_rfl
theorem boot_LE : bootBuiltins ("LookupError" : Str) = some (.type "LookupError") := by decide +kernel
theorem pe_leinit {pl : Sem Bool} (hg : Gl X "LookupError") (hm : X.mg "LookupError" = none) (vV : PySem.W.findCls X.K (.type "LookupError") (.type "type") "__init__" = some (.val (.builtin "LookupError.__init__"))) (ha : PA X (e :: es) ta)
    (hc : eval (.Call (.Attribute (.Name "LookupError" p1) "__init__" p2) (e :: es) [] pos) X.env = (do
      let ov ← eval (.Name "LookupError" p1) X.env
      standAt p2.atName
      let (f, first) ← holding [ov] (getMethod ov "__init__" pl)
      callWith pos f first (backTo pos (starEach (e :: es) X.env)) (backToKw pos (keywordEach [] X.env))) := by rfl)
    (he : starEach (e :: es) X.env = (false, eval e X.env) :: starEach es X.env := by rfl) (hpl : (backTo pos (starEach es X.env)).any (·.1) = false := by rfl) :
    PE X (.Call (.Attribute (.Name "LookupError" p1) "__init__" p2) (e :: es) [] pos) (tLeI X.K "LookupError.__new__" leT ta) := by
  refine ⟨fun pins s σ H Q I h => PySem.W.methodCall_KW (ld_blt I hg hm boot_LE ?_ (by decide) (by decide)) hc⟩
  obtain ⟨m, fr⟩ := I.fr
  refine PySem.W.method_type fr I.ok.mod.kin typ_LE (by decide +kernel) vV (by decide +kernel) ?_
  show wpAny _ _ (callWith pos (Value.builtin "LookupError.__init__") [] (backTo pos (starEach (e :: es) X.env)) []) _ _ _
  refine PyProof.Rows.callWith_method1 (thn (ha.run pos pins _ σ H _ (I.tok _) h) fun us s1 ⟨vs, H1, I1, r1, a, C, ws, ev, hl, T, ea, q⟩ => ?_) he hpl
  subst ev
  cases r1 with
  | @cons _ u0 _ ur ra rw' =>
    obtain rfl : u0 = Value.ref a := ra
    refine gini_ok leF T I1 ea ?_ fun s2 J => ⟨.non, H1, J, rfl, q⟩
    rw [← Paired.length rw', sizeLine_eq]
    omega
theorem ps_gst (BF : BaseF newId initId tl) (ho : PE X o to) (he : PE X e te) (hs : swapsWith e (some (.Attribute o f p')) pos.line X.env = pure false := by rfl) : PS X (.Assign [.Attribute o f p'] e pos) (tGst X.K newId tl f to te) := by
  refine ⟨fun pins s σ H D I h => plainObj_wpAny_Assign_Attribute (thn (he.run pins s σ H _ I h) fun v s1 ⟨y, H1, I1, r1, q1⟩ => thn (ho.run pins s1 σ H1 _ I1 q1) fun u s2 ⟨x, H2, I2, r2, a, C, ex, T, hno, ea, q⟩ => ?_) hs⟩
  subst ex
  obtain rfl : u = Value.ref a := r2
  exact gst_new BF T I2 ea hno r1 fun dx s' n ne J => ⟨σ, _, J, q dx n ne⟩
end
end Aw
namespace Aw
open PySem PySem.Spec PyProof.Rows L2
/-- the error's class and its __init__, which keeps its promise -/
def HasG (P : Program) (w : World) (K : PySem.W.Frag) (mg : Str → Option Value) (base : Heap) (x : Str) (C : Addr) (newId initId : String) (tl : List Value) (ps : List Str) (k : Nat) (sp : Sp) : Prop :=
  BaseF newId initId tl ∧ GexC K newId tl C ∧ mg x = some (.ref C) ∧ ∃ (f : Addr) (fd : FuncData), PySem.W.findIn K (.ref C) "__init__" = some (some (.ref f)) ∧ PySem.W.typeIn K (.ref f) = some (.type "function") ∧ Binds K fd ps [] ∧ FnG P w K mg base CX0 k f fd ps sp
/-- x(e, ..) as a value -/
def tNewE (C : Addr) (sp : Sp) (ta : TA) : TE := fun σ H Q => ta σ H fun vs H1 => vs.length ≤ 1000 ∧ ∀ a, H1 a = none → sp (.ref a :: vs) (upd H1 a (exo a C none)) (fun v H2 => v = .non ∧ Q (.ref a) H2) (fun _ _ _ => False)
section
variable {X : Cx} {e : Expr} {es : List Expr} {te : TE} {ta : TA} {x f : Str} {C : Addr} {k : Nat} {ps : List Str} {sp : Sp} {p pos : Pos} {newId initId : String} {tl : List Value}
theorem pe_newE (F : HasG X.prog X.w X.K X.mg X.base x C newId initId tl ps k sp) (hr : RoomG (k + 1) X.A) (hg : Gl X x) (ha : PA X (e :: es) ta)
    (hdb : (x == ("__debug__" : Str)) = false := by decide) (he : starEach (e :: es) X.env = (false, eval e X.env) :: starEach es X.env := by rfl) (hpl : (backTo pos (starEach es X.env)).any (·.1) = false := by rfl) :
    PE X (.Call (.Name x p) (e :: es) [] pos) (tNewE C sp ta) := by
  obtain ⟨BF, T, hm, fI, fd, iC, tI, hb, F1⟩ := F
  obtain ⟨B, FB⟩ := BF.F
  refine ⟨fun pins s σ H Q I h => wpAny_Call_Name_kw (ld_glob I hg hm ?_ hdb)⟩
  refine PySem.W.callWith_K (h₀ := X.base) I.ok.mod.kin T.kC (thn (ha.run pos pins s σ H _ I h) fun us s1 ⟨vs, H1, I1, r1, hz, q1⟩ => ⟨I1.kIn, ?_⟩) he hpl
  obtain ⟨nm, q, N, bs, bm, sn, sub, ab, col, dd, k0, k1, k2, k3, k5, hC, hbm⟩ := T.cls
  show wpAny _ _ (call (.ref C) us) _ _ _
  obtain ⟨hp, g, dr, tk, os⟩ := s1
  have le1 : hp.objs.size ≤ hp.objs.size + 1 := Nat.le_succ _
  have hn : H1 (hp.objs.size + 1) = none := I1.hok.fresh le1
  have hq := q1 (hp.objs.size + 1) hn
  have kk : ∀ b o, hp.get? b = some o → ((hp.push (PySem.W.kdv_tup us)).push (PySem.HandSPX.excO C hp.objs.size)).get? b = some o := fun b o z => Heap.get?_push_of_some _ (Heap.get?_push_of_some _ z)
  have at1 : ((hp.push (PySem.W.kdv_tup us)).push (PySem.HandSPX.excO C hp.objs.size)).get? (hp.objs.size + 1) = some (PySem.HandSPX.excO C hp.objs.size) := by heap_get
  have I2 : Inv X pins σ (upd H1 (hp.objs.size + 1) (exo (hp.objs.size + 1) C none)) ⟨(hp.push (PySem.W.kdv_tup us)).push (PySem.HandSPX.excO C hp.objs.size), g, dr, tk, os⟩ := I1.laid (t' := tk) (o := exo (hp.objs.size + 1) C none) kk le1 (exo_ok at1)
  have r2 : Vals (V.ref (hp.objs.size + 1) :: vs) (Value.ref (hp.objs.size + 1) :: us) := .cons rfl r1
  have hl : (Value.ref (hp.objs.size + 1) :: us).length = ps.length := by
    rw [← r2.length]
    exact F1.len _ _ _ _ hq
  have bb := hb ⟨_, g, dr, tk, os⟩ (Value.ref (hp.objs.size + 1) :: us) I2.kIn (by rw [List.append_nil]; exact hl)
  rw [List.append_nil] at bb
  have hus : us.length ≤ sizeLine := by
    rw [← Paired.length r1, sizeLine_eq]
    omega
  refine wpAny_call (PySem.HandSPX.call_own FB (fun Y => hbm.has Y) (I1.kIn _ _ hC) (PySem.W.looks_findIn I1.kIn iC) (fun self => PySem.W.bind_fn I1.kIn self tI) hus
    (codeAny_mono (F1.run _ X.stack _ _ ⟨Value.ref (hp.objs.size + 1) :: us, []⟩ (Value.ref (hp.objs.size + 1) :: us) _ _ (fun _ _ _ => False) (hr.make C us []) (I2.env0.make C us []) bb r2 hq) fun r s2 hq2 => ?_))
  match r, hq2 with
  | .error er, hq2 => exact pass0 pins σ _ _ er s2 I2 hq2
  | .ok (.ret u), hq2 =>
    obtain ⟨v, H2, J, rv, rfl, q2⟩ := I2.after hq2
    exact ⟨rv, .ref (hp.objs.size + 1), H2, J, rfl, q2⟩
/-- x(), an own class without an own __init__ -/
theorem pe_exc0 {bmB : List Value} {B : String} (F : ExcBaseFacts B newId initId bmB) (q : PySem.W.excIn X.K C bmB newId = true) (gC : X.mg x = some (.ref C)) (kC : PySem.W.keepIn X.K (.ref C) = true) (hg : Gl X x)
    (hdb : (x == ("__debug__" : Str)) = false := by decide) : PE X (.Call (.Name x p) [] [] pos) (fun σ H Q => ∀ a, H a = none → Q (.ref a) (upd H a (ExO (.ref C) a))) := by
  refine ⟨fun pins s σ H Q I h => wpAny_Call_Name_kw (ld_glob I hg gC ?_ hdb)⟩
  refine PySem.W.callWith_K0 (first := []) I.kIn kC ?_
  show wpAny _ _ (call (.ref C) []) _ _ _
  obtain ⟨bm, N, nm, qn, bs, hdct, sn, sub, ab, col, dd, k0, k1, k2, k3, k5, mN, hC, hN, hni, T⟩ := exc_obj I.kIn q
  obtain ⟨hp, g, d, t, os⟩ := s
  refine wpAny_call_exc_subT F T hC hN hni (fun h2 a hm => ?_) (Nat.zero_le _)
  have hn : H a = none := I.hok.gone hm.new
  obtain ⟨o, ho, _, _⟩ := hm.there
  exact ⟨.ref a, upd H a (ExO (.ref C) a), I.laidN hm.keeps hm.new hn (exO_ok ho ⟨rfl, rfl⟩ rfl rfl rfl (show 4 < 6 by decide)), rfl, h a hn⟩
def qExf (K : PySem.W.Frag) (f : Str) : V → Hp → VK → Prop := fun x H1 Q => ∃ (a C dx : Addr) (fs : List (Str × V)) (v : V), x = .ref a ∧ H1 a = some (exo a C (some dx)) ∧ H1 dx = some (exd dx fs) ∧ XfC K C ∧ PySem.W.findIn K (.ref C) f = some none ∧ fs.lookup f = some v ∧ Q v H1
theorem pe_exf (he : PE X e te) (hb : attributeBase e f X.env (eval e X.env) = eval e X.env := by rfl) : PE X (.Attribute e f pos) (tUn (qExf X.K f) te) := by
  refine ⟨fun pins s σ H Q I h => attr_of hb (thn (he.run pins s σ H _ I h) fun u s1 ⟨x, H1, I1, rx, a, C, dx, fs, v, ex, ea, ed, T, hno, l, q⟩ => ?_)⟩
  subst ex
  obtain rfl : u = Value.ref a := rx
  obtain ⟨t1, ho⟩ := exo_at I1.hok ea
  obtain ⟨mA, hns, hrel⟩ := exd_at I1.hok ed
  obtain ⟨od, hod, hl⟩ := lookIn_ns hns
  obtain ⟨u, hu, ru⟩ := RelO.some_of (v := v) (o := mA f) (by rw [← l]; exact hrel f)
  have J : PySem.W.InstAt s1.heap a { cls := .ref C, dict := some dx, data := .fields #[.ref t1, .none, .none, .none, .bool false, .none] } C (some od) := ⟨ho, rfl, rfl, hod⟩
  exact HandSPX.exc_get I1.kIn J T.ga T.gg T.exC (PySem.W.findObj_own T.hdC hno rfl (by rw [hl, hu])) (handed_of ru) ⟨v, H1, I1.tok _, ru, q⟩
end
end Aw
namespace Aw
open PySem PySem.Spec PySem.W PySem.Calls PyProof.Rows L2
theorem found_data {K : Frag} {C : Addr} {od : Option Obj} {name : Str} {at_ g : Value} (hc : (clsIn K C).isSome = true) (ha : findIn K (.ref C) name = some (some at_)) (hg : specialIn K at_ "__get__" = some (some g)) (ht : takesIn K at_ = some true) : findObj K C od name = some (.bind g at_) := by
  obtain ⟨cd, hc⟩ := Option.isSome_iff_exists.mp hc
  unfold findObj
  rw [hc, Option.bind_some, ha, Option.bind_some]
  dsimp only
  rw [hg, Option.bind_some]
  dsimp only
  rw [ht, Option.bind_some]
/-- what is asked of an own error's class -/
theorem err_class {prog : Program} {w : World} {A : Around} {E : Value → Shared → Prop} {s : Shared} {K : Frag} {a C : Addr} {oa : Obj} {od : Option Obj} {Q : Option Value → Shared → Prop} (c : ExcC K C) (hK : K.In s.heap) (J : InstAt s.heap a oa C od) (h : Q (some (.ref C)) { s with toks := s.toks + 1 }) :
    wpAny (model prog w) A (getAttr? (.ref a) "__class__") Q E s := by
  have hf : findObj K C od "__class__" = some (.bind (.builtin "getset_descriptor.__get__") (.builtin "object.__class__")) := found_data (by obtain ⟨cd, hc, _⟩ := any_some c.hd; rw [hc]; rfl) c.ha c.hn c.ht
  obtain ⟨h0, g, d, t, os⟩ := s
  have T0 := J.type (M := model prog w)
  have G1 := looks_findIn (M := model prog w) hK c.hg
  have G2 := looks_findIn (M := model prog w) hK c.hk
  have G3 := looks_find (M := model prog w) hK J hf
  have isB : Looks (model prog w) h0 (isInstance (.ref a) (.type "BaseException")) true := T0.andThen (looks_subIn hK c.hs)
  have ne0 : (Value.builtin "BaseException.__getattribute__" == Value.builtin "object.__getattribute__") = false := by decide +kernel
  have ne1 : (onTheHeap (Value.ref C) && Value.builtin "BaseException.__getattribute__" == Value.builtin "object.__getattribute__") = false := by
    rw [ne0]
    rfl
  have ne2 : (false && onTheHeap (Value.builtin "BaseException.__getattribute__")) = false := rfl
  unfold getAttr? getAttrBy? getAttrBy
  refine wpAny_bind (wpAny_mkText (wpAny_bind (wpAny_attempt (wpAny_holding (wpAny_bind (T0.at (wpAny_bind (G1.at ?_))))))))
  show wpAny _ _ (if (onTheHeap (Value.ref C) && Value.builtin "BaseException.__getattribute__" == Value.builtin "object.__getattribute__") = true then _ else _) _ _ _
  rw [ne1, if_neg Bool.false_ne_true]
  unfold getAttrByItsOwn hookBefore
  refine wpAny_bind ?_
  rw [if_pos (show onTheHeap (Value.ref C) = true from rfl)]
  refine G2.at (wpAny_bind (wpAny_attempt (wpAny_holding ?_)))
  unfold callGetattribute
  rw [ne2, if_neg Bool.false_ne_true]
  unfold boundAndCalled
  rw [PySem.F.excAttr_ValueError.ga.bind (.ref a)]
  refine wpAny_bind (wpAny_pure ?_)
  show wpAny _ _ (call (.builtin "BaseException.__getattribute__") [.ref a, .str "__class__" t]) _ _ _
  refine wpAny_call (codeAny_call_builtin PySem.F.excAttr_ValueError.ga.plain PySem.F.entry_bexc_ga (@check_slot (model prog w) _ _ ⟨h0, g, d, t + 1, os⟩ "BaseException.__getattribute__" "BaseException" "__getattribute__" (.ref a) [.str "__class__" t] [] _ (by decide +kernel) (by decide +kernel) isB (PySem.F.args_bexc_ga (.ref a) (.str "__class__" t)) ?_))
  unfold Builtin.«object.__getattribute__»
  refine wpAny_bind (wpAny_of_eq (a := ((Value.ref a : Value), [Value.str "__class__" t])) (by first | rfl | (simp only [slotArgs]; rfl)) (wpAny_bind (wpAny_pure (wpAny_bind (T0.at (wpAny_bind (G3.at ?_)))))))
  show wpAny _ _ (holding [Value.builtin "object.__class__"] (call (.builtin "getset_descriptor.__get__") [.builtin "object.__class__", .ref a, .ref C]) >>= ret) _ _ _
  refine wpAny_bind (wpAny_holding (wpAny_call (class_get (s := ⟨h0, g, d, t + 1, os⟩) (ox := oa) (od := od) hK J c.hm (wpAny_pure ?_))))
  show wpAny _ _ (handedOut (.ref C)) _ _ _
  rw [handedOut_of (v := .ref C) rfl]
  first
    | exact wpAny_pure (wpAny_pure h)
    | exact wpAny_pure (wpAny_bind (wpAny_pure (wpAny_pure h)))
    | exact wpAny_pure h
theorem err_kit {K : Frag} {a C : Addr} {oa : Obj} {od : Option Obj} (c : ExcC K C) : KitX K (.ref a) (.ref C) (fun h => InstAt h a oa C od) := by
  have hd := c.hd
  obtain ⟨cd, hcd, _⟩ := any_some hd
  unfold clsIn at hcd
  split at hcd
  · rename_i c' d' cd' sl' ho
    refine ⟨fun _ _ _ J => J.type, fun _ _ X _ => ?_, fun h tp dd its n sl X htp => ?_, fun X J k => err_class c X J k⟩
    · intro A Q E s k q
      unfold isType loadHead
      exact wpAny_bind (wpAny_loadPart (k _ _ (X _ _ ho)) (wpAny_pure q))
    · refine Bool.eq_false_iff.mpr fun q => ?_
      have e : C = tp := Value.ref.inj (beq_iff_eq.mp q)
      subst e
      cases (X _ _ ho).symm.trans htp
  · cases hcd
end Aw
namespace Aw
open PySem PySem.Spec PyProof.Rows L2
/-- the class of a value that may be an own error -/
inductive TyG (K : PySem.W.Frag) (H : Hp) : V → Value → Prop
  | base {x : V} {t : Value} (h : TyX K H x t) : TyG K H x t
  | err {a C dx : Addr} {fs : List (Str × V)} (e : H a = some (exo a C (some dx))) (ed : H dx = some (exd dx fs)) (c : ExcC K C) : TyG K H (.ref a) (.ref C)
  | bare {a C : Addr} (e : H a = some (ExO (.ref C) a)) (c : ExcC K C) : TyG K H (.ref a) (.ref C)
def rIsG (K : PySem.W.Frag) : List V → Hp → VK → Prop := fun xs H Q => ∃ (x c : V) (t u : Value) (b : Bool), xs = [x, c] ∧ ClsV c u ∧ TyG K H x t ∧ PySem.W.kitOne K t u = some b ∧ Q (.bl b) H
theorem call_isG {X : Cx} : CallR X (.builtin "isinstance") (rIsG X.K) := by
  intro pins s σ H xs us Q I r h
  obtain ⟨x, c, t, u, b, ex, k, ty, e, q⟩ := h
  cases ty with
  | base ty => exact call_isi pins s σ H xs us Q I r ⟨x, c, t, u, b, ex, k, ty, e, q⟩
  | @err a C dx fs ea ed cc =>
    subst ex
    obtain ⟨u1, u2, rfl, r1, r2⟩ := vals2 r
    obtain rfl := k.eq r2
    obtain rfl : u1 = .ref a := r1
    obtain ⟨t1, ho⟩ := exo_at I.hok ea
    obtain ⟨mA, hns, _⟩ := exd_at I.hok ed
    obtain ⟨od, hod, _⟩ := lookIn_ns hns
    have J : PySem.W.InstAt s.heap a { cls := .ref C, dict := some dx, data := .fields #[.ref t1, .none, .none, .none, .bool false, .none] } C (some od) := ⟨ho, rfl, rfl, hod⟩
    exact PySem.W.kia_one (err_kit cc) I.kIn J e (fun z => nomatch z) fun tk => ⟨.bl b, H, I.tok tk, rfl, q⟩
  | @bare a C ea cc =>
    subst ex
    obtain ⟨u1, u2, rfl, r1, r2⟩ := vals2 r
    obtain rfl := k.eq r2
    obtain rfl : u1 = .ref a := r1
    obtain ⟨⟨oe, vs, ho, hz, hd, _⟩, _, _⟩ := I.hok a _ ea
    have J : PySem.W.InstAt s.heap a oe C none := by
      obtain ⟨oc, odd, oda, osl⟩ := oe
      obtain ⟨z1, z2⟩ := hz
      dsimp only at z1 z2 hd
      subst z1 z2 hd
      exact ⟨ho, rfl, rfl, trivial⟩
    exact PySem.W.kia_one (err_kit cc) I.kIn J e (fun z => nomatch z) fun tk => ⟨.bl b, H, I.tok tk, rfl, q⟩
end Aw
namespace Aw
open PySem PySem.Spec PyProof.Rows L2
structure EFC (K : PySem.W.Frag) (mg : Str → Option Value) (x : Str) (C : Addr) (newId : String) (tl bm : List Value) : Prop where
  at_ : mg x = some (.ref C)
  lk : ∃ nm q N bs sn sub ab col dd k0 k1 k2 k3 k5, K.lookup C = some (excClassObj nm q C N bs bm true sn sub ab col dd k0 k1 k2 k3 k5 newId)
  rf : RfT tl bm
  sa : PySem.W.findIn K (.ref C) "__setattr__" = some (some (.builtin "object.__setattr__"))
  ga : PySem.W.findIn K (.ref C) "__getattribute__" = some (some (.builtin "BaseException.__getattribute__"))
  gg : PySem.W.findIn K (.ref C) "__getattr__" = some none
  kC : PySem.W.keepIn K (.ref C) = true
  tC : PySem.W.typeIn K (.ref C) = some (.type "type")
  hC : PySem.W.hasDictIn K C = true
  cl : PySem.W.findIn K (.ref C) "__class__" = some (some (.builtin "object.__class__"))
/-- what stands of the built-in word __class__ -/
structure ObC (K : PySem.W.Frag) : Prop where
  hn : PySem.W.specialIn K (.builtin "object.__class__") "__get__" = some (some (.builtin "getset_descriptor.__get__"))
  ht : PySem.W.takesIn K (.builtin "object.__class__") = some true
section
variable {K : PySem.W.Frag} {mg : Str → Option Value} {x : Str} {C : Addr} {newId : String} {tl bm : List Value}
theorem EFC.cls (e : EFC K mg x C newId tl bm) : ∃ cd, PySem.W.clsIn K C = some cd ∧ cd.mro = .ref C :: bm := by
  obtain ⟨nm, q, N, bs, sn, sub, ab, col, dd, k0, k1, k2, k3, k5, h⟩ := e.lk
  refine ⟨{ name := nm, bases := bs, mro := .ref C :: bm, ns := N, qualname := q, hasDict := true, slotNames := sn, subclasses := sub, abstract := ab, collection := col, hasDel := false }, ?_, rfl⟩
  unfold PySem.W.clsIn
  rw [h] <;> rfl
theorem EFC.sub (e : EFC K mg x C newId tl bm) (base : Value) : PySem.W.subIn K (.ref C) base = some ((Value.ref C :: bm).contains base) := by
  obtain ⟨cd, h1, h2⟩ := e.cls
  show PySem.W.mroIn K C base = _
  unfold PySem.W.mroIn
  rw [h1, Option.bind_some, h2, if_neg (by simp)]
theorem EFC.gex (e : EFC K mg x C newId tl bm) : GexC K newId tl C := by
  obtain ⟨nm, q, N, bs, sn, sub, ab, col, dd, k0, k1, k2, k3, k5, h⟩ := e.lk
  exact ⟨⟨nm, q, N, bs, bm, sn, sub, ab, col, dd, k0, k1, k2, k3, k5, h, e.rf⟩, e.sa, e.kC⟩
theorem EFC.has (e : EFC K mg x C newId tl bm) {T : String} (h : tl.contains (.type T) = true) : PySem.W.subIn K (.ref C) (.type T) = some true := by
  rw [e.sub, List.contains_cons, e.rf.has T, h]
  rfl
theorem EFC.xf (e : EFC K mg x C newId tl bm) (h : tl.contains (.type "BaseException") = true) : XfC K C := ⟨e.ga, e.gg, e.has h, e.hC⟩
theorem EFC.exc (e : EFC K mg x C newId tl bm) (o : ObC K) (h : tl.contains (.type "BaseException") = true) (h2 : tl.contains (.type "object") = true) : ExcC K C := ⟨e.ga, e.gg, e.has h, e.hC, e.cl, o.hn, o.ht, e.has h2⟩
/-- isinstance of such an error, an own class -/
theorem EFC.one (e : EFC K mg x C newId tl bm) {y : Str} {D : Addr} {newId2 : String} {tl2 bm2 : List Value} (d : EFC K mg y D newId2 tl2 bm2) : PySem.W.kitOne K (.ref C) (.ref D) = some ((Value.ref C :: bm).contains (.ref D)) := by
  unfold PySem.W.kitOne
  split
  · rename_i z
    rw [List.contains_cons]
    have z2 : C = D := Value.ref.inj (beq_iff_eq.mp z)
    subst z2
    simp
  · obtain ⟨cd, h1, _⟩ := d.cls
    unfold PySem.W.kitCls
    dsimp only
    rw [if_pos (by rw [h1, d.tC]; rfl), e.sub]
/-- isinstance of such an error, a built-in class -/
theorem EFC.oneT (e : EFC K mg x C newId tl bm) {T : String} (h : PySem.W.kitMeta T = true) : PySem.W.kitOne K (.ref C) (.type T) = some (tl.contains (.type T)) := by
  unfold PySem.W.kitOne
  rw [if_neg (by simp)]
  unfold PySem.W.kitCls
  dsimp only
  rw [if_pos h, e.sub, List.contains_cons, e.rf.has T]
  rfl
end
end Aw
namespace Aw
open PySem PySem.Spec PyProof.Rows L2
theorem refsVE_of {bm : List Value} (h : RfT veT bm) : PySem.HandSPX.refsVE bm = true := by
  induction h with
  | base => rfl
  | ref c _ ih => exact ih
section
variable {P : Program} {w : World} {K : PySem.W.Frag} {mg : Str → Option Value} {base : Heap} {x : Str} {C : Addr} {newId initId : String} {tl bm : List Value} {ps : List Str} {k : Nat} {sp : Sp}
theorem EFC.oex (e : EFC K mg x C "ValueError.__new__" veT bm) : OexC K C := by
  obtain ⟨nm, q, N, bs, sn, sub, ab, col, dd, k0, k1, k2, k3, k5, h⟩ := e.lk
  exact ⟨⟨nm, q, N, bs, bm, sn, sub, ab, col, dd, k0, k1, k2, k3, k5, h, refsVE_of e.rf⟩, e.sa, e.has (T := "BaseException") (by decide +kernel), e.tC, e.kC⟩
theorem HasG.of (BF : BaseF newId initId tl) (e : EFC K mg x C newId tl bm) (h : HasM P w K mg base CX0 C "__init__" ps k sp) : HasG P w K mg base x C newId initId tl ps k sp := by
  obtain ⟨f, fd, _, M, b, F⟩ := h
  exact ⟨BF, e.gex, e.at_, f, fd, M.at_, beq_iff_eq.mp M.fn, b, F⟩
end
/-- self.f = v, self.g = u -/
def spErr2 (C : Addr) (f g : Str) : Sp := fun vs H Q _ => ∃ (a : Addr) (v u : V), vs = [.ref a, v, u] ∧ H a = some (exo a C none) ∧
  ∀ dx, H dx = none → dx ≠ a → Q .non (upd (upd (upd H dx (exd dx [(f, v)])) a (exo a C (some dx))) dx (exd dx [(g, u), (f, v)]))
/-- an error that stands in the heap -/
def ErV (K : PySem.W.Frag) (H : Hp) (v : V) (C : Addr) (fs : List (Str × V)) : Prop := ∃ a dx : Addr, v = .ref a ∧ H a = some (exo a C (some dx)) ∧ H dx = some (exd dx fs)
def ErB (H : Hp) (v : V) (C : Addr) : Prop := ∃ a : Addr, v = .ref a ∧ H a = some (ExO (.ref C) a)
theorem ErV.kp {K : PySem.W.Frag} {H H1 : Hp} {v : V} {C : Addr} {fs : List (Str × V)} (h : ErV K H v C fs) (k : Kp [] H H1) : ErV K H1 v C fs := by
  obtain ⟨a, dx, e, h1, h2⟩ := h
  exact ⟨a, dx, e, k.get h1 (by simp), k.get h2 (by simp)⟩
theorem ErB.kp {H H1 : Hp} {v : V} {C : Addr} (h : ErB H v C) (k : Kp [] H H1) : ErB H1 v C := by
  obtain ⟨a, e, h1⟩ := h
  exact ⟨a, e, k.get h1 (by simp)⟩
/-- an error of the class at C, with or without fields -/
def Er (K : PySem.W.Frag) (H : Hp) (v : V) (C : Addr) : Prop := (∃ fs, ErV K H v C fs) ∨ ErB H v C
theorem Er.kp {K : PySem.W.Frag} {H H1 : Hp} {v : V} {C : Addr} (h : Er K H v C) (k : Kp [] H H1) : Er K H1 v C := h.imp (fun ⟨fs, q⟩ => ⟨fs, q.kp k⟩) fun q => q.kp k
theorem Er.ty {K : PySem.W.Frag} {H : Hp} {v : V} {C : Addr} (h : Er K H v C) (c : ExcC K C) : TyG K H v (.ref C) := by
  rcases h with ⟨fs, a, dx, rfl, h1, h2⟩ | ⟨a, rfl, h1⟩
  · exact .err h1 h2 c
  · exact .bare h1 c
section
variable {K : PySem.W.Frag} {σ : L2.St} {H : Hp} {Q : VK} {ta : TA} {te : TE} {C : Addr} {f g : Str}
def NewQ (C : Addr) (sp : Sp) (Q : VK) : List V → Hp → Prop := fun vs H1 => vs.length ≤ 1000 ∧ ∀ a, H1 a = none → sp (.ref a :: vs) (upd H1 a (exo a C none)) (fun v H2 => v = .non ∧ Q (.ref a) H2) (fun _ _ _ => False)
theorem r_newE {sp : Sp} (h : ta σ H (NewQ C sp Q)) : tNewE C sp ta σ H Q := h
theorem r_new1 {v : V} (h : ∀ H' z, Kp [] H H' → ErV K H' z C [(f, v)] → Q z H') : NewQ C (spErr C f) Q [v] H := by
  refine ⟨by simp, fun a ha => ⟨a, v, rfl, upd_same, fun dx hdx hne => ⟨rfl, ?_⟩⟩⟩
  rw [upd_ne hne] at hdx
  refine h _ _ (((Kp.nil.own ha).own hdx).own ha) ⟨a, dx, rfl, upd_same, ?_⟩
  rw [upd_ne hne, upd_same]
theorem r_new2 {v u : V} (h : ∀ H' z, Kp [] H H' → ErV K H' z C [(g, u), (f, v)] → Q z H') : NewQ C (spErr2 C f g) Q [v, u] H := by
  refine ⟨by simp, fun a ha => ⟨a, v, u, rfl, upd_same, fun dx hdx hne => ⟨rfl, ?_⟩⟩⟩
  rw [upd_ne hne] at hdx
  refine h _ _ ((((Kp.nil.own ha).own hdx).own ha).own hdx) ⟨a, dx, rfl, ?_, upd_same⟩
  rw [upd_ne (Ne.symm hne), upd_same]
theorem r_exf {x : V} {fs : List (Str × V)} {v : V} (e : ErV K H x C fs) (T : XfC K C) (hno : PySem.W.findIn K (.ref C) f = some none) (l : fs.lookup f = some v) (q : Q v H) : qExf K f x H Q := by
  obtain ⟨a, dx, rfl, h1, h2⟩ := e
  exact ⟨a, C, dx, fs, v, rfl, h1, h2, T, hno, l, q⟩
theorem r_isG {v c : V} {t u : Value} {b : Bool} (k : ClsV c u) (ty : TyG K H v t) (e : PySem.W.kitOne K t u = some b) (q : Q (.bl b) H) : rIsG K [v, c] H Q := ⟨v, c, t, u, b, rfl, k, ty, e, q⟩
end
/-- the classes of an error, one behind another -/
def spKinds (K : PySem.W.Frag) (Cs : List Addr) : Sp := fun vs H Q _ => ∃ (v : V) (D : Addr) (g : Addr → Bool), vs = [v] ∧ Er K H v D ∧ ExcC K D ∧ (∀ C ∈ Cs, PySem.W.kitOne K (.ref D) (.ref C) = some (g C)) ∧
  ∀ (H' : Hp) (p : Addr), Kp [] H H' → H p = none → H' p = some (.lst (Cs.map fun C => V.bl (g C))) → Q (.ref p) H'
end Aw
namespace Aw
open PySem PySem.Spec L2
/-- a value of some kind that can be written -/
def spValue (K : PySem.W.Frag) : Sp := fun vs H Q _ => ∃ (d c : Addr) (n : Int), vs = [.ref d] ∧ Deck H d c n ∧ n + 10 < 10 ^ 12 ∧
  ∀ (H' : Hp) (v : V) (x : PyData) (n' : Int), Deck H' d c n' → n ≤ n' → n' ≤ n + 10 → Kp [d, c] H H' → Dw [d, c] K H' v x → Dok x 3000 30 → Q v H'
abbrev DV1 (n : Int) : List PyData := [.none, .bool true, .bool false, .int 0, .int 1, .int n, .str (toString n), .str "", .tuple [], .tuple [.int n], .list [.int n], .tuple [.none, .str "places"], .tuple [.tuple [.int 1], .bool true], .dict []]
abbrev DV2 (n : Int) : List PyData := [.dict [(.str "a", .int n)], .tuple [.str "tell", .str "n"], .tuple [.tuple [.int 0, .int 1], .tuple [.int 1, .int n]]]
section
variable {M : List Addr} {K : PySem.W.Frag} {σ : L2.St} {H0 : Hp}
theorem cw_strV {i : Nat} {n : Int} (e : σ[i]? = some (some (.int n))) (h : n.natAbs.log2 < 1920) : CW M K σ H0 (tCB qStr (tCons (tVar i) tNil)) (.str (toString n)) := fun H Q k q =>
  r_CB (r_cons (r_var e (r_nil (r_strI (q _ _ Kp.nil (.str _)) h))))
theorem cw_d1v {x : Str} {i : Nat} {n : Int} (e0 : σ[i]? = some (some (.int n))) (hM : Oc M H0) : CW M K σ H0 (tDisp [(tC (.str x), tVar i)]) (.dict [(.str x, .int n)]) := fun H Q k h p hp => by
  refine r_pcons (r_C (r_var e0 (r_pnil ⟨upd_same, [(Sum.inr x, .int n)], rfl, by simp, ?_⟩)))
  have e : mergeK [] [((Sum.inr x : Key), V.int n)] = [(Sum.inr x, .int n)] := rfl
  rw [e, upd_upd]
  refine h _ _ (Kp.nil.new hp) (.dct upd_same (hM.new k hp) rfl (fun j kv p e e' => ?_) (fun j kv p e e' => ?_))
  · match j, e, e' with
    | 0, e, e' => cases e; cases e'; rfl
  · match j, e, e' with
    | 0, e, e' => cases e; cases e'; exact .int n
end
theorem ofString_ok (s : String) : PyData.strOk (Str.ofString s) = true := by
  rw [PySem.Str.ofString_eq_toList]
  unfold PyData.strOk
  rw [Array.all_eq_true_iff_forall_mem]
  intro c hc
  simp only [List.mem_toArray, List.mem_map] at hc
  obtain ⟨ch, _, rfl⟩ := hc
  have h := ch.valid
  have : ch.toNat < 1114112 := by
    rcases h with h | h
    · exact Nat.lt_trans h (by decide)
    · exact h.2
  exact decide_eq_true this
theorem Dok.int9 {i : Int} (h : i.natAbs < 10 ^ 9) : Dok (.int i) 1 0 := by
  have h2 : i.natAbs.log2 < 200 := by
    by_cases e : i.natAbs = 0
    · rw [e]
      decide
    · exact Nat.lt_of_lt_of_le ((Nat.log2_lt (k := 30) e).mpr (by omega)) (by decide)
  exact ⟨by rw [dsz]; omega, by rw [shb]; exact decide_eq_true h2, by rw [PyData.depth]; omega⟩
theorem Dok.str9 {i : Int} (h : i.natAbs < 10 ^ 9) : Dok (.str (Str.ofString (toString i))) 300 0 := by
  have h2 : i.natAbs.log2 < 200 := by
    by_cases e : i.natAbs = 0
    · rw [e]
      decide
    · exact Nat.lt_of_lt_of_le ((Nat.log2_lt (k := 30) e).mpr (by omega)) (by decide)
  have q := int_len h2
  exact (Dok.str ⟨ofString_ok _, q⟩).mono (by omega) (by omega)
theorem Doks.lst9 {ds : List PyData} {z k : Nat} (h : Doks ds z k) : Dok (.list ds) (z + 1) (k + 1) := by
  have := h.sz
  have := h.dp
  exact ⟨by rw [dsz]; omega, by rw [shb]; exact h.sh, by rw [PyData.depth]; omega⟩
theorem dv1_ok {n : Int} (h : n.natAbs < 10 ^ 9) : ∀ d ∈ DV1 n, Dok d 3000 30 := by
  intro d hd
  have hi := Dok.int9 h
  simp only [List.mem_cons, List.not_mem_nil, or_false] at hd
  rcases hd with rfl | rfl | rfl | rfl | rfl | rfl | rfl | rfl | rfl | rfl | rfl | rfl | rfl | rfl
  · exact Dok.by (by decide +kernel)
  · exact Dok.by (by decide +kernel)
  · exact Dok.by (by decide +kernel)
  · exact Dok.by (by decide +kernel)
  · exact Dok.by (by decide +kernel)
  · exact hi.mono (by omega) (by omega)
  · exact (Dok.str9 h).mono (by omega) (by omega)
  · exact Dok.by (by decide +kernel)
  · exact Dok.by (by decide +kernel)
  · exact (Doks.tup (Doks.cons hi (Doks.nil (k := 0)) (Nat.le_refl _))).mono (by omega) (by omega)
  · exact (Doks.lst9 (Doks.cons hi (Doks.nil (k := 0)) (Nat.le_refl _))).mono (by omega) (by omega)
  · exact Dok.by (by decide +kernel)
  · exact Dok.by (by decide +kernel)
  · exact Dok.by (by decide +kernel)
theorem dv2_ok {n : Int} (h : n.natAbs < 10 ^ 9) : ∀ d ∈ DV2 n, Dok d 3000 30 := by
  intro d hd
  have hi := Dok.int9 h
  simp only [List.mem_cons, List.not_mem_nil, or_false] at hd
  rcases hd with rfl | rfl | rfl
  · have q : Dok (.dict [(.str "a", .int 0)]) 100 5 := Dok.by (by decide +kernel)
    have h2 : n.natAbs.log2 < 200 := of_decide_eq_true (by have z := hi.sh; rw [shb] at z; exact z)
    refine ⟨?_, ?_, ?_⟩
    · have z := q.sz
      rw [dsz] at z ⊢
      omega
    · rw [shb]
      rw [decide_eq_true h2]
      decide +kernel
    · have z := q.dp
      simp only [PyData.depth, PyData.depthKv] at z ⊢
      omega
  · exact Dok.by (by decide +kernel)
  · have h1 : Dok (.int 1) 1 0 := Dok.by (by decide +kernel)
    have h0 : Dok (.tuple [.int 0, .int 1]) 3 1 := Dok.by (by decide +kernel)
    have t1 := Doks.tup (Doks.cons h1 (Doks.cons hi (Doks.nil (k := 0)) (Nat.le_refl _)) (Nat.le_refl _))
    exact (Doks.tup (Doks.cons h0 (Doks.cons t1 (Doks.nil (k := 1)) (by omega)) (by omega))).mono (by omega) (by omega)
def spRight : Sp := fun vs H Q _ => ∃ v : V, vs = [v] ∧ ∀ H', Kp [] H H' → Q (.bl true) H'
theorem _root_.PySem.Paired.app {α β : Type} {F : α → β → Prop} {xs xs' : List α} {ys ys' : List β} (h : Paired F xs ys) (g : Paired F xs' ys') : Paired F (xs ++ xs') (ys ++ ys') := by
  induction h with
  | nil => exact g
  | cons a _ ih => exact .cons a ih
def bk (k : Nat) : List PyData := (List.range 20).map fun j => .bool (decide (j = k))
theorem bk_ok : ∀ k < 20, PyData.eqv (.list (bk k)) (.list (bk k)) = true ∧ SeqAt.shaped (.list (bk k)) = true := by decide +kernel
/-- isinstance of an error of the class at D over R -/
def isK (R D : Addr) (C : Addr) : Bool := (Value.ref D :: .ref R :: veT).contains (.ref C)
theorem isK_eq {R D C : Addr} (h : C ≠ R) : isK R D C = decide (C = D) := by
  unfold isK
  rw [List.contains_cons, List.contains_cons]
  have e1 : (Value.ref C == Value.ref R) = false := beq_eq_false_iff_ne.mpr fun z => h (Value.ref.inj z)
  have e2 : veT.contains (Value.ref C) = false := by
    unfold veT
    simp
  rw [e1, e2, Bool.or_false, Bool.or_false]
  by_cases e : C = D
  · rw [e]
    simp
  · rw [decide_eq_false e]
    exact beq_eq_false_iff_ne.mpr fun z => e (Value.ref.inj z)
theorem isK_row {R : Addr} {Cs : List Addr} (hn : Cs.Nodup) (hR : R ∉ Cs) (hl : Cs.length = 20) {k : Nat} {D : Addr} (hD : Cs[k]? = some D) : (Cs.map fun C => V.bl (isK R D C)) = (List.range 20).map fun j => V.bl (decide (j = k)) := by
  refine List.ext_getElem? fun j => ?_
  rw [List.getElem?_map, List.getElem?_map]
  by_cases hj : j < 20
  · rw [List.getElem?_eq_getElem (by omega : j < Cs.length), List.getElem?_range hj]
    have hne : Cs[j] ≠ R := fun z => hR (by rw [← z]; exact List.getElem_mem _)
    obtain ⟨hk, ek⟩ := List.getElem?_eq_some_iff.mp hD
    show some (V.bl (isK R D Cs[j])) = some (V.bl (decide (j = k)))
    rw [isK_eq hne, ← ek]
    congr 2
    exact decide_eq_decide.mpr ⟨fun z => (List.getElem_inj hn).mp z, fun z => by subst z; rfl⟩
  · rw [List.getElem?_eq_none (by omega), List.getElem?_eq_none (by rw [List.length_range]; omega)]
    rfl
end Aw
namespace Aw
open PySem PySem.Spec L2
theorem offL {C D : Addr} (h : C ≠ D) : (Value.ref C :: leT).contains (.ref D) = false := by
  rw [List.contains_cons]
  have e1 : (Value.ref D == Value.ref C) = false := beq_eq_false_iff_ne.mpr fun z => h (Value.ref.inj z).symm
  have e2 : leT.contains (Value.ref D) = false := by
    unfold leT
    simp
  rw [e1, e2]
  rfl
theorem offV {C D : Addr} (h : C ≠ D) : (Value.ref C :: veT).contains (.ref D) = false := by
  rw [List.contains_cons]
  have e1 : (Value.ref D == Value.ref C) = false := beq_eq_false_iff_ne.mpr fun z => h (Value.ref.inj z).symm
  have e2 : veT.contains (Value.ref D) = false := by
    unfold veT
    simp
  rw [e1, e2]
  rfl
theorem dpAll_bl {K : PySem.W.Frag} {H : Hp} (f : Nat → Bool) : ∀ l : List Nat, DpAll K H (l.map fun j => V.bl (f j)) (l.map fun j => PyData.bool (f j))
  | [] => .nil
  | _ :: r => .cons (.bl _) (dpAll_bl f r)
theorem bk_dp {K : PySem.W.Frag} {H : Hp} {p : Addr} {k : Nat} (e : H p = some (.lst ((List.range 20).map fun j => V.bl (decide (j = k))))) : Dp K H (.ref p) (.list (bk k)) :=
  .lst (SqL.of e) (dpAll_bl (fun j => decide (j = k)) _)
theorem c_repr3k {X : Cx} {K : PySem.W.Frag} {k : Nat} (h : X.K = K) (hr : RoomG k X.A) (hM : ∃ mm, X.base.Ns sysModules mm) : CallR X (.builtin "repr") (qRepr3 K) := by
  subst h
  exact c_repr3 hr hM
theorem paired_same {E : V → V → Prop} {s : V} (h : E s s) : ∀ n : Nat, Paired E (List.replicate n s) (List.replicate n s)
  | 0 => .nil
  | n + 1 => .cons h (paired_same h n)
/-- two lists of the same text, many times -/
theorem r_eqRep {K : PySem.W.Frag} {H : Hp} {Q : VK} {a b : Addr} {z : Str} {n : Nat} (h1 : H a = some (.lst (List.replicate n (.str z)))) (h2 : H b = some (.lst (List.replicate n (.str z)))) (q : Q (.bl true) H) : rEqV K (.ref a) (.ref b) H Q :=
  ⟨1, by omega, .inl ⟨a, b, _, _, rfl, rfl, SqL.of h1, SqL.of h2, paired_same (.inl ⟨rfl, rfl⟩) n⟩, q⟩
/-- both values may be written; fields are right -/
def spFields (K : PySem.W.Frag) : Sp := fun vs H Q _ => ∃ (v u : V) (x : PyData), vs = [v, u] ∧ Dw [] K H v x ∧ Dok x 3000 30 ∧ ∀ H', Kp [] H H' → Q (.bl true) H'
def bndL : List Int := [8, 8, 8, 3, 2, 6, 24, 30, 2, 2, 3, 30, 1000, 1000000, 60, 20, 60, 60]
def spBounds : Sp := fun vs H Q _ => vs = [] ∧ ∀ H' p, Kp [] H H' → H p = none → H' p = some (.lst (bndL.map V.int)) → Q (.ref p) H'
end Aw
namespace Aw
open PySem PySem.Spec PyProof.Rows L2
section
variable {K : PySem.W.Frag} {h : Heap} {mg : Str → Option Value}
theorem fun_of {x q : Str} {st : Stmt} {f : Addr} {fd : FuncData} (F : FunD K x q (defArgs st) (defBody st) (defScope st) [] [] f fd) : Fun K x q st f fd := by
  obtain ⟨oc, od, dV, kV, doc, pm, an, cdv, ct, osl, e, lk, hc, hd, hk⟩ := F.ex
  rcases hd with ⟨_, rfl⟩ | ⟨hd, _⟩
  · exact ⟨⟨oc, od, kV, doc, pm, an, cdv, ct, osl, e, lk, hc⟩, F.kp⟩
  · exact absurd rfl hd
/-- a def of the top -/
theorem df_hd {x : Str} {st : Stmt} {ps : List Str} {fd : FuncData} (X : K.In h) (G : h.Ns mainGlobals mg) (F : FunD K x x (defArgs st) (defBody st) (defScope st) [] [] (He.ga K x) fd) (a : (He.Fa.glo x).ok K = true)
    (b : ∀ (kV doc pm : Value) (an : Option Addr) (cdv ct : Value) (us : List Value), us.length = ps.length →
      bindArgs (PySem.W.fnOf x x (defArgs st) (defBody st) (defScope st) .none kV doc pm an cdv ct) ⟨us, []⟩ = pure (ps.zip us)) : Df K mg x st ps :=
  ⟨_, fd, fun_of F, He.glo_ok X G a, (fun_of F).binds b⟩
/-- a method -/
theorem dfm_hd {x m q : Str} {st : Stmt} {ps : List Str} {fd : FuncData} (F : FunD K m q (defArgs st) (defBody st) (defScope st) [] [] (He.ma K (He.ga K x) m) fd) (a : (He.Fa.meth x m).ok K = true)
    (b : ∀ (kV doc pm : Value) (an : Option Addr) (cdv ct : Value) (us : List Value), us.length = ps.length →
      bindArgs (PySem.W.fnOf m q (defArgs st) (defBody st) (defScope st) .none kV doc pm an cdv ct) ⟨us, []⟩ = pure (ps.zip us)) : DfM K (He.ga K x) m q st ps :=
  ⟨_, fd, fun_of F, He.meth_ok a, (fun_of F).binds b⟩
end
theorem walkGE {l : PySem.W.OpenLaw} {k : Nat} {q : Program} {loose : List Str}
    {XP : (Str → Option Value) → Heap → Prop} {YP : World → Heap → Prop} {d : DefRec}
    {x : Str} (hn : l.most = some 63) (hdf : d.params.defaults = []) (hnm : d.name = "law") (hr : RoomG k callerA)
    (F : ∀ (w : World) (mg : Str → Option Value) (h : Heap), YP w h → h.Ns mainGlobals mg → ∃ K : PySem.W.Frag, K.In h ∧
      ∀ base : Heap, K.In base → base.Ns mainGlobals mg → (∃ mm, base.Ns sysModules mm) → Has l.prog w K mg base CX0 "law" [x] k (spLaw K))
    (hq : importsNone q = true) :
    PySem.W.WalkO q loose XP YP l.row.toRowW d [] (fun f vs => PySem.call f vs) := by
  refine Att.attach_call hn hdf fun w s₀ s₁ mg mb fa o pm cd doc a vs ns G Y ho hd hcd hmg hobj hints hlen hg => ?_
  obtain ⟨K, KX, FF⟩ := F w mg _ Y G.T.g
  rw [hnm] at hmg
  exact lawG KX G.T.g G.T.b G.T.builtins G.T.nolimit ((G.T.seer hq).mods.imp fun _ h => h.1) hg hobj hints hlen hr hmg FF
end Aw
namespace Aw
open PySem PySem.Spec PyProof.Rows L2
theorem excOB_ok {K : PySem.W.Frag} {C : Addr} {newId : String} {tl : List Value} (q : excOB K C newId tl = true) :
    ∃ nm qn N bs bm sn sub ab col dd k0 k1 k2 k3 k5, K.lookup C = some (excClassObj nm qn C N bs bm true sn sub ab col dd k0 k1 k2 k3 k5 newId) ∧ RfT tl bm := by
  unfold excOB at q
  split at q
  · rename_i t dd cd sl ho
    split at q
    · rename_i C' bm k0 k1 k2 k3 n k5 hm hs
      obtain ⟨q1, q⟩ := He.ba q
      obtain ⟨q2, q⟩ := He.ba q
      obtain ⟨q3, q⟩ := He.ba q
      obtain ⟨q4, q⟩ := He.ba q
      obtain ⟨q5, q6⟩ := He.ba q
      have e1 := of_decide_eq_true q1
      have e2 := of_decide_eq_true q2
      have e3 := of_decide_eq_true q3
      subst e1 e2 e3
      obtain ⟨nm, bs, mro, ns, qn, hd, sn, sub, ab, col, del⟩ := cd
      dsimp only at hm q4 q5
      subst hm
      have e4 : del = false := by cases del <;> first | rfl | cases q4
      subst e4 q5
      have hsl : sl = #[k0, k1, k2, k3, some (.builtin n), k5] := by
        obtain ⟨l⟩ := sl
        simp only at hs
        rw [hs]
      subst hsl
      exact ⟨nm, qn, ns, bs, bm, sn, sub, ab, col, dd, k0, k1, k2, k3, k5, ho, rfB_ok q6⟩
    · cases q
  · cases q
theorem efc_hd {K : PySem.W.Frag} {h : Heap} {mg : Str → Option Value} {x : Str} {newId : String} {tl : List Value} {bm : PySem.W.Frag → List Value} (X : K.In h) (G : h.Ns mainGlobals mg) (c : efcB x newId tl bm K = true) :
    EFC K mg x (He.ga K x) newId tl (bm K) := by
  obtain ⟨c0, c⟩ := He.ba c
  obtain ⟨c1, c⟩ := He.ba c
  obtain ⟨c2, c⟩ := He.ba c
  obtain ⟨c3, c⟩ := He.ba c
  obtain ⟨c4, c⟩ := He.ba c
  obtain ⟨c5, c⟩ := He.ba c
  obtain ⟨c6, c⟩ := He.ba c
  obtain ⟨c7, c⟩ := He.ba c
  obtain ⟨c8, c9⟩ := He.ba c
  obtain ⟨nm, qn, N, bs, bm', sn, sub, ab, col, dd, k0, k1, k2, k3, k5, lk, rf⟩ := excOB_ok c1
  have e : mroTail K (He.ga K x) = bm' := by
    unfold mroTail PySem.W.clsIn
    rw [lk] <;> rfl
  have e2 : bm' = bm K := e.symm.trans (of_decide_eq_true c2)
  subst e2
  exact ⟨He.glo_ok X G c0, ⟨nm, qn, N, bs, sn, sub, ab, col, dd, k0, k1, k2, k3, k5, lk⟩, rf, He.eqO_ok c3, He.eqO_ok c4, He.eqO_ok c5, c6, of_decide_eq_true c7, c8, He.eqO_ok c9⟩
theorem valB_ok {K : PySem.W.Frag} {c mc : Value} {n : Str} {v : Value} (h : valB K c mc n v = true) : PySem.W.findCls K c mc n = some (.val v) := by
  unfold valB at h
  split at h
  · rename_i u e
    rw [e, of_decide_eq_true h]
  · cases h
theorem cint_hd {K : PySem.W.Frag} {x f : Str} {i : Int} (c : cintB x f i K = true) : (He.Fa.glo x).ok K = true ∧ ClX.CRead K (He.ga K x) (.type "type") ∧ ∃ u, ClX.CVal K (He.ga K x) (.type "type") f (.int i) u := by
  obtain ⟨c0, c⟩ := He.ba c
  obtain ⟨c1, c⟩ := He.ba c
  obtain ⟨c2, c3⟩ := He.ba c
  refine ⟨c0, ⟨c1, of_decide_eq_true c2⟩, ?_⟩
  revert c3
  cases e : PySem.W.findCls K (.ref (He.ga K x)) (.type "type") f with
  | none => intro c3; cases c3
  | some r =>
    cases r with
    | get _ _ _ _ => intro c3; cases c3
    | val v =>
      cases v with
      | int j t =>
        intro c3
        have ej : j = i := of_decide_eq_true c3
        subst ej
        exact ⟨_, e, t, rfl⟩
      | _ => intro c3; cases c3
end Aw
namespace Aw
open PySem L2
local macro_rules | `(tactic| walk_at "isa") => `(tactic| (focus (simp [isaD, tyD]; done)))
local macro_rules | `(tactic| walk_at "isa") => `(tactic| assumption)
local macro_rules | `(tactic| walk_at "hd") => `(tactic| assumption)
local macro_rules | `(tactic| walk_at "hd") => `(tactic| exact Dt.dp (by assumption))
local macro_rules | `(tactic| walk_at "hd") => `(tactic| exact Dp.non)
local macro_rules | `(tactic| walk_at "hd") => `(tactic| exact Dp.bl _)
local macro_rules | `(tactic| walk_at "hd") => `(tactic| exact Dp.str _)
local macro_rules | `(tactic| walk_at "hd") => `(tactic| exact Dp.int _)
local macro_rules | `(tactic| walk_at "ne") => `(tactic| exact Ne.symm (ne_of_none (by assumption) (by assumption)))
local macro_rules | `(tactic| walk_at "ne") => `(tactic| exact ne_of_none (by assumption) (by assumption))
local macro_rules | `(tactic| walk_at "ne") => `(tactic| exact Ne.symm (by assumption))
local macro_rules | `(tactic| walk_at "ne") => `(tactic| assumption)
local macro_rules | `(tactic| walk_at "hp") => `(tactic| ((refine Eq.trans (upd_ne ?_) ?_); (walk_at "ne"); (walk_at "hp")))
local macro_rules | `(tactic| walk_at "hp") => `(tactic| exact upd_same)
local macro_rules | `(tactic| walk_at "hp") => `(tactic| assumption)
local macro_rules | `(tactic| walk_at "hs") => `(tactic| ((with_reducible apply SqT.of); (walk_at "hp")))
local macro_rules | `(tactic| walk_at "hs") => `(tactic| ((with_reducible apply SqL.of); (walk_at "hp")))
local macro_rules | `(tactic| walk_at "hs") => `(tactic| assumption)
local macro_rules | `(tactic| walk_at "hw") => `(tactic| exact Dw.non)
local macro_rules | `(tactic| walk_at "hw") => `(tactic| exact Dw.bl _)
local macro_rules | `(tactic| walk_at "hw") => `(tactic| exact Dw.str _)
local macro_rules | `(tactic| walk_at "hw") => `(tactic| exact Dw.int _)
local macro_rules | `(tactic| walk_at "hw") => `(tactic| assumption)
local macro_rules | `(tactic| walk_at "cd") => `(tactic| repeat (first | with_reducible exact cd_str | with_reducible exact cd_int | with_reducible exact cd_non | with_reducible exact cds_nil | with_reducible refine cds_cons ?_ ?_ | with_reducible refine cd_tup ?_ (by simp) | ((with_reducible apply cd_var); (exact rfl); assumption)))
local macro_rules | `(tactic| walk_at "cw") => `(tactic| repeat (first | with_reducible exact cw_str | with_reducible exact cw_int | with_reducible exact cw_bl | with_reducible exact cw_non | with_reducible exact cw_neg | with_reducible exact cws_nil | with_reducible exact cw_pow (c_pow (by decide) (by decide) (by decide)) | with_reducible exact cw_d0 (by assumption) | with_reducible exact cw_d1 (by assumption) | with_reducible refine cws_cons ?_ ?_ | with_reducible refine cw_tup ?_ (by simp) | with_reducible refine cw_lst (by assumption) ?_ (by simp) | ((with_reducible apply cw_var); (exact rfl); assumption)))
local macro_rules | `(tactic| walk_at "sc") => `(tactic| first
  | omega | decide
  | exact c_pow (by first | decide | omega) (by decide) (by decide)
  | exact c_div (by omega) (by omega)
  | exact c_mulL (by first | decide | omega) (by first | decide | omega)
  | exact c_mulR (by first | decide | omega) (by first | decide | omega))
local macro_rules | `(tactic| walk_at "sl") => `(tactic| ((try simp only [Str.length_append]); rw [sizeLine_eq]; omega))
local macro_rules | `(tactic| walk_at "sz") => `(tactic| ((try simp only [sizeLine_eq, List.length_append, List.length_map, List.length_cons, List.length_nil, Str.length_append]); omega))
local macro_rules | `(tactic| walk_at "rds") => `(tactic| repeat (walk_at "rd1"))
local macro_rules | `(tactic| walk_at "rd") => `(tactic| repeat (walk_at "rdA"))
local macro_rules | `(tactic| walk_at "rdj") => `(tactic| repeat (walk_at "rdB"))
local macro_rules | `(tactic| walk_at "rd1") => `(tactic| ((with_reducible apply r_wF); assumption))
local macro_rules | `(tactic| walk_at "rd1") => `(tactic| ((with_reducible apply r_wR); assumption))
local macro_rules | `(tactic| walk_at "rd1") => `(tactic| ((with_reducible apply r_wS); assumption))
local macro_rules | `(tactic| walk_at "rd1") => `(tactic| ((with_reducible apply r_wN); assumption))
local macro_rules | `(tactic| walk_at "rd1") => `(tactic| with_reducible refine r_pnil ?_)
local macro_rules | `(tactic| walk_at "rd1") => `(tactic| with_reducible refine r_pcons ?_)
local macro_rules | `(tactic| walk_at "rd1") => `(tactic| (with_reducible refine r_LcTurn rfl ?_))
local macro_rules | `(tactic| walk_at "rd1") => `(tactic| ((with_reducible apply r_append); (walk_at "hp")))
local macro_rules | `(tactic| walk_at "rd1") => `(tactic| ((with_reducible apply r_isF); (walk_at "hd"); (walk_at "isa"); decide))
local macro_rules | `(tactic| walk_at "rd1") => `(tactic| ((with_reducible apply r_isT); (walk_at "hd"); (walk_at "isa"); decide))
local macro_rules | `(tactic| walk_at "rd1") => `(tactic| ((with_reducible apply r_lenT); (walk_at "hs")))
local macro_rules | `(tactic| walk_at "rd1") => `(tactic| with_reducible refine r_strS ?_)
local macro_rules | `(tactic| walk_at "rd1") => `(tactic| with_reducible refine r_strI ?_ ?_)
local macro_rules | `(tactic| walk_at "rd1") => `(tactic| with_reducible refine r_abs ?_)
local macro_rules | `(tactic| walk_at "rd1") => `(tactic| with_reducible refine r_intB ?_)
local macro_rules | `(tactic| walk_at "rd1") => `(tactic| ((with_reducible apply r_lenL); (walk_at "hs")))
local macro_rules | `(tactic| walk_at "rd1") => `(tactic| (with_reducible refine r_three ?_))
local macro_rules | `(tactic| walk_at "rd1") => `(tactic| ((with_reducible apply r_neNT); (walk_at "hs"); (walk_at "hs")))
local macro_rules | `(tactic| walk_at "rd1") => `(tactic| ((with_reducible apply r_neNL); (walk_at "hs"); (walk_at "hs")))
local macro_rules | `(tactic| walk_at "rd1") => `(tactic| ((with_reducible apply r_eqNT); (walk_at "hs"); (walk_at "hs")))
local macro_rules | `(tactic| walk_at "rd1") => `(tactic| ((with_reducible apply r_eqNL); (walk_at "hs"); (walk_at "hs")))
local macro_rules | `(tactic| walk_at "rd1") => `(tactic| with_reducible refine r_notinC ?_)
local macro_rules | `(tactic| walk_at "rd1") => `(tactic| with_reducible refine r_inC ?_)
local macro_rules | `(tactic| walk_at "rd1") => `(tactic| ((with_reducible apply r_ixD); assumption))
local macro_rules | `(tactic| walk_at "rd1") => `(tactic| ((with_reducible apply r_ixT); (walk_at "hs"); (first | exact rfl | assumption)))
local macro_rules | `(tactic| walk_at "rd1") => `(tactic| ((with_reducible apply r_ne); exact rfl))
local macro_rules | `(tactic| walk_at "rd1") => `(tactic| ((with_reducible apply r_neT); (decide +kernel); exact rfl))
local macro_rules | `(tactic| walk_at "rd1") => `(tactic| with_reducible refine r_yes ?_)
local macro_rules | `(tactic| walk_at "rd1") => `(tactic| with_reducible refine r_or ?_)
local macro_rules | `(tactic| walk_at "rd1") => `(tactic| ((with_reducible apply r_DG2i); assumption))
local macro_rules | `(tactic| walk_at "rd1") => `(tactic| ((with_reducible apply r_DG1); assumption))
local macro_rules | `(tactic| walk_at "rd1") => `(tactic| ((with_reducible apply r_DG1a); assumption))
local macro_rules | `(tactic| walk_at "rd1") => `(tactic| ((with_reducible apply r_DIn); assumption))
local macro_rules | `(tactic| walk_at "rd1") => `(tactic| ((with_reducible apply r_DG2); (walk_at "hp")))
local macro_rules | `(tactic| walk_at "rd1") => `(tactic| ((with_reducible apply r_DG2a); (walk_at "hp")))
local macro_rules | `(tactic| walk_at "rd1") => `(tactic| with_reducible refine r_forK ?_)
local macro_rules | `(tactic| walk_at "rd1") => `(tactic| with_reducible refine r_sfld ?_)
local macro_rules | `(tactic| walk_at "rd1") => `(tactic| with_reducible refine r_dput ?_)
local macro_rules | `(tactic| walk_at "rd1") => `(tactic| with_reducible refine r_forR2 ?_)
local macro_rules | `(tactic| walk_at "rd1") => `(tactic| with_reducible refine r_forL ?_)
local macro_rules | `(tactic| walk_at "rd1") => `(tactic| with_reducible refine r_forT ?_)
local macro_rules | `(tactic| walk_at "rd1") => `(tactic| (with_reducible refine r_par3 ?_))
local macro_rules | `(tactic| walk_at "rd1") => `(tactic| with_reducible refine r_retN ?_)
local macro_rules | `(tactic| walk_at "rd1") => `(tactic| with_reducible refine r_listItems ?_)
local macro_rules | `(tactic| walk_at "rd1") => `(tactic| with_reducible refine r_listVals ?_)
local macro_rules | `(tactic| walk_at "rd1") => `(tactic| with_reducible refine r_lcV ?_)
local macro_rules | `(tactic| walk_at "rd1") => `(tactic| with_reducible refine r_dpop1 ?_)
local macro_rules | `(tactic| walk_at "rd1") => `(tactic| with_reducible refine r_dget1 ?_)
local macro_rules | `(tactic| walk_at "rd1") => `(tactic| with_reducible refine r_din ?_)
local macro_rules | `(tactic| walk_at "rd1") => `(tactic| with_reducible refine r_dget ?_)
local macro_rules | `(tactic| walk_at "rd1") => `(tactic| with_reducible refine r_lcS ?_)
local macro_rules | `(tactic| walk_at "rd1") => `(tactic| with_reducible refine r_lcR2 ?_)
local macro_rules | `(tactic| walk_at "rd1") => `(tactic| with_reducible refine r_dget2 ?_)
local macro_rules | `(tactic| walk_at "rd1") => `(tactic| with_reducible refine r_lcR ?_)
local macro_rules | `(tactic| walk_at "rd1") => `(tactic| with_reducible refine r_lcL ?_)
local macro_rules | `(tactic| walk_at "rd1") => `(tactic| with_reducible refine r_chain ?_)
local macro_rules | `(tactic| walk_at "rd1") => `(tactic| with_reducible refine r_notV ?_)
local macro_rules | `(tactic| walk_at "rd1") => `(tactic| with_reducible refine r_orV ?_)
local macro_rules | `(tactic| walk_at "rd1") => `(tactic| with_reducible refine r_int ?_)
local macro_rules | `(tactic| walk_at "rd1") => `(tactic| ((with_reducible apply r_extend); (walk_at "hp"); (walk_at "hp")))
local macro_rules | `(tactic| walk_at "rd1") => `(tactic| ((with_reducible apply r_is2F); (walk_at "hw"); (walk_at "isa"); decide))
local macro_rules | `(tactic| walk_at "rd1") => `(tactic| ((with_reducible apply r_is2T); (walk_at "hw"); (walk_at "isa"); decide))
local macro_rules | `(tactic| walk_at "rd1") => `(tactic| with_reducible refine r_ipI ?_)
local macro_rules | `(tactic| walk_at "rd1") => `(tactic| with_reducible refine r_I ?_ ?_)
local macro_rules | `(tactic| walk_at "rd1") => `(tactic| with_reducible refine r_addS ?_ ?_)
local macro_rules | `(tactic| walk_at "rd1") => `(tactic| ((with_reducible apply r_eq); exact rfl))
local macro_rules | `(tactic| walk_at "rd1") => `(tactic| with_reducible refine r_and ?_)
local macro_rules | `(tactic| walk_at "rd1") => `(tactic| with_reducible refine r_forE ?_)
local macro_rules | `(tactic| walk_at "rd1") => `(tactic| ((with_reducible apply r_aug); exact rfl))
local macro_rules | `(tactic| walk_at "rd1") => `(tactic| with_reducible refine r_lcT ?_)
local macro_rules | `(tactic| walk_at "rd1") => `(tactic| with_reducible refine r_BM0 ?_)
local macro_rules | `(tactic| walk_at "rd1") => `(tactic| with_reducible refine r_BM ?_)
local macro_rules | `(tactic| walk_at "rd1") => `(tactic| ((with_reducible apply r_setL); (walk_at "hp"); (first | exact rfl | assumption)))
local macro_rules | `(tactic| walk_at "rd1") => `(tactic| with_reducible refine r_U ?_)
local macro_rules | `(tactic| walk_at "rd1") => `(tactic| ((with_reducible apply r_tyL); (walk_at "hp")))
local macro_rules | `(tactic| walk_at "rd1") => `(tactic| with_reducible refine r_sub ?_)
local macro_rules | `(tactic| walk_at "rd1") => `(tactic| with_reducible refine r_forR ?_)
local macro_rules | `(tactic| walk_at "rd1") => `(tactic| with_reducible refine r_drop ?_)
local macro_rules | `(tactic| walk_at "rd1") => `(tactic| with_reducible refine r_revL ?_)
local macro_rules | `(tactic| walk_at "rd1") => `(tactic| with_reducible refine r_andV ?_)
local macro_rules | `(tactic| walk_at "rd1") => `(tactic| with_reducible refine r_un ?_)
local macro_rules | `(tactic| walk_at "rd1") => `(tactic| with_reducible refine r_lenS ?_ ?_)
local macro_rules | `(tactic| walk_at "rd1") => `(tactic| ((with_reducible apply r_neF); (with_reducible rfl); exact rfl))
local macro_rules | `(tactic| walk_at "rd1") => `(tactic| ((with_reducible apply r_Fld); assumption; assumption; assumption; exact rfl))
local macro_rules | `(tactic| walk_at "rd1") => `(tactic| with_reducible refine r_fld ?_)
local macro_rules | `(tactic| walk_at "rd1") => `(tactic| with_reducible refine ifnF ?_)
local macro_rules | `(tactic| walk_at "rd1") => `(tactic| ((with_reducible apply r_eqF); (decide +kernel); exact rfl))
local macro_rules | `(tactic| walk_at "rd1") => `(tactic| ((with_reducible apply r_orP); (focus (intro _ hR_; (walk_at "rd"); exact hR_)); (focus (intro _ hR_; (walk_at "rd"); exact hR_))))
local macro_rules | `(tactic| walk_at "rd1") => `(tactic| ((with_reducible apply r_Meth); assumption; exact rfl))
local macro_rules | `(tactic| walk_at "rd1") => `(tactic| (with_reducible refine r_par ?_))
local macro_rules | `(tactic| walk_at "rd1") => `(tactic| with_reducible refine r_meth ?_)
local macro_rules | `(tactic| walk_at "rd1") => `(tactic| with_reducible refine ifnT ?_)
local macro_rules | `(tactic| walk_at "rd1") => `(tactic| ((with_reducible apply r_andP); (focus (intro _ hR_; (walk_at "rd"); exact hR_)); (focus (intro _ hR_; (walk_at "rd"); exact hR_))))
local macro_rules | `(tactic| walk_at "rd1") => `(tactic| (with_reducible refine r_two ?_))
local macro_rules | `(tactic| walk_at "rd1") => `(tactic| with_reducible refine r_isS ?_)
local macro_rules | `(tactic| walk_at "rd1") => `(tactic| with_reducible refine r_gnil ?_)
local macro_rules | `(tactic| walk_at "rd1") => `(tactic| ((with_reducible apply r_gtup); (walk_at "hs"); exact rfl))
local macro_rules | `(tactic| walk_at "rd1") => `(tactic| with_reducible refine r_not ?_)
local macro_rules | `(tactic| walk_at "rd1") => `(tactic| with_reducible refine r_M1 ?_)
local macro_rules | `(tactic| walk_at "rd1") => `(tactic| with_reducible refine ifF ?_)
local macro_rules | `(tactic| walk_at "rd1") => `(tactic| with_reducible refine r_B ?_)
local macro_rules | `(tactic| walk_at "rd1") => `(tactic| with_reducible refine r_CB ?_)
local macro_rules | `(tactic| walk_at "rd1") => `(tactic| with_reducible refine ifT ?_)
local macro_rules | `(tactic| walk_at "rd1") => `(tactic| (with_reducible refine r_tup ?_))
local macro_rules | `(tactic| walk_at "rd1") => `(tactic| with_reducible refine r_noPart ?_)
local macro_rules | `(tactic| walk_at "rd1") => `(tactic| with_reducible refine r_sl ?_)
local macro_rules | `(tactic| walk_at "rd1") => `(tactic| with_reducible refine r_gcons ?_)
local macro_rules | `(tactic| walk_at "rd1") => `(tactic| with_reducible refine r_part ?_)
local macro_rules | `(tactic| walk_at "rd1") => `(tactic| ((with_reducible apply r_ixL); (walk_at "hs"); (first | exact rfl | assumption)))
local macro_rules | `(tactic| walk_at "rd1") => `(tactic| with_reducible refine r_partI ?_)
local macro_rules | `(tactic| walk_at "rd1") => `(tactic| with_reducible refine r_asg ?_)
local macro_rules | `(tactic| walk_at "rd1") => `(tactic| (with_reducible refine r_lst ?_))
local macro_rules | `(tactic| walk_at "rd1") => `(tactic| ((with_reducible apply r_eqT); (with_reducible rfl); exact rfl))
local macro_rules | `(tactic| walk_at "rd1") => `(tactic| with_reducible refine r_I0 ?_)
local macro_rules | `(tactic| walk_at "rd1") => `(tactic| with_reducible refine r_ret ?_)
local macro_rules | `(tactic| walk_at "rd1") => `(tactic| with_reducible refine r_ifS ?_)
local macro_rules | `(tactic| walk_at "rd1") => `(tactic| with_reducible refine r_next ?_)
local macro_rules | `(tactic| walk_at "rd1") => `(tactic| with_reducible refine r_name ?_)
local macro_rules | `(tactic| walk_at "rd1") => `(tactic| with_reducible refine r_call ?_)
local macro_rules | `(tactic| walk_at "rd1") => `(tactic| with_reducible refine r_test ?_)
local macro_rules | `(tactic| walk_at "rd1") => `(tactic| with_reducible refine r_bl ?_)
local macro_rules | `(tactic| walk_at "rd1") => `(tactic| with_reducible refine r_nil ?_)
local macro_rules | `(tactic| walk_at "rd1") => `(tactic| with_reducible refine r_op ?_)
local macro_rules | `(tactic| walk_at "rd1") => `(tactic| with_reducible refine r_C ?_)
local macro_rules | `(tactic| walk_at "rd1") => `(tactic| ((with_reducible apply r_var); exact rfl))
local macro_rules | `(tactic| walk_at "rd1") => `(tactic| with_reducible refine r_cons ?_)
local macro_rules | `(tactic| walk_at "rdB") => `(tactic| walk_at "rd1")
local macro_rules | `(tactic| walk_at "rdB") => `(tactic| with_reducible refine r_seq ?_)
local macro_rules | `(tactic| walk_at "rdA") => `(tactic| with_reducible refine r_if ?_)
local macro_rules | `(tactic| walk_at "rdA") => `(tactic| walk_at "rd1")
local macro_rules | `(tactic| walk_at "rdA") => `(tactic| with_reducible refine r_seq ?_)
section
variable {P : Program} {w : World} {K : PySem.W.Frag} {mg : Str → Option Value} {base : Heap}
theorem ok_law_deck (D : Df K mg "_law_deck" s_law_deck P_law_deck) (B : Blt mg) : Has P w K mg base CX0 "_law_deck" P_law_deck 1 (spDeck K) := by
  refine D.has sc_law_deck (fun vs H Q E h => ?_) (fun f cdv A outer s H vs Q E hr h => ?_)
  · obtain ⟨a, ns, rfl, _⟩ := h
    rfl
  obtain ⟨a, ns, rfl, hS, hl, k⟩ := h
  refine ⟨_, (pss_one (ps_ret (pe_lst (pa_cons (pe_lc (own := [("_law_cell", 1)]) (g := gName 1) (by rfl) sc_law_deck.nd (pi_list (pe_slice sl_list (pv 0) po_none (po_some pe_int))) (blkOk_by (own := [("_law_cell", 1)]) (N := N_law_deck) (sc := defScope s_law_deck) (by decide +kernel)) (fun _ _ _ _ _ => (pg_name (i := 1) sc_law_deck.nd rfl (Or.inl rfl))) (fun _ _ _ _ _ => pts_nil) (fun _ _ _ _ _ => (pe_callB c_abs (by rfl) B.abs (by decide +kernel) (pa_cons (pv 1) pa_nil)))) (pa_cons pe_int pa_nil))))), ?_⟩
  walk_at "rd"
  refine r_slL hS fun p hp => ?_
  obtain ⟨ms, e, hm, _⟩ := cutV_map V.int ns none (some 63)
  rw [e]
  have k1 : Kp [] H (upd H p (.lst (ms.map V.int))) := Kp.nil.new hp
  have h1 : upd H p (.lst (ms.map V.int)) p = some (.lst (ms.map V.int)) := upd_same
  generalize upd H p (.lst (ms.map V.int)) = H1 at k1 h1 ⊢
  refine r_LcL (SqL.of h1) fun c hc => ?_
  refine ⟨fun i H' => ∃ cs : List Int, H' c = some (.lst (cs.map V.int)) ∧ (∀ x ∈ cs, 0 ≤ x) ∧ cs.length = i ∧ Kp [] H1 H', ⟨[], upd_same, (fun _ h => (nomatch h)), rfl, Kp.nil.new hc⟩,
    fun i H' ⟨_, _, _, _, kk⟩ => SqL.of (kk.get h1 (by simp)), ?_, ?_⟩
  · rintro i x H2 hx ⟨cs, h2, h3, h4, k2⟩
    rw [List.getElem?_map] at hx
    obtain ⟨y, hy, rfl⟩ := Option.map_eq_some_iff.mp hx
    have hi : i < ms.length := (List.getElem?_eq_some_iff.mp hy).1
    walk_at "rd"
    refine r_LcEnd h2 (by walk_at "sz") ⟨cs ++ [if y < 0 then -y else y], ?_, ?_, ?_, k2.own hc⟩
    · rw [upd_same, List.map_append]
      rfl
    · intro z hz
      rcases List.mem_append.mp hz with hz | hz
      · exact h3 z hz
      · rw [List.mem_singleton.mp hz]
        split <;> omega
    · rw [List.length_append, h4]
      rfl
  · rintro H2 ⟨cs, h2, h3, h4, k2⟩
    rw [List.length_map] at h4
    walk_at "rd"
    refine ⟨by simp [sizeLine_eq], fun d hd => ?_⟩
    have hcd : d ≠ c := Ne.symm (ne_of_none h2 hd)
    refine k _ d c ((k1.trans k2).same.free hd) (k1.same.free hc) ⟨upd_same, ⟨cs, ?_, h3, by omega⟩, hcd, by omega⟩ ((k1.trans k2).new hd)
    rw [upd_ne hcd.symm]
    exact h2
theorem ok_law_draw (D : Df K mg "_law_draw" s_law_draw P_law_draw) (B : Blt mg) : Has P w K mg base CX0 "_law_draw" P_law_draw 1 spDraw := by
  refine D.has sc_law_draw (fun vs H Q E h => ?_) (fun f cdv A outer s H vs Q E hr h => ?_)
  · obtain ⟨d, c, n, m, rfl, _⟩ := h
    rfl
  obtain ⟨d, c, n, m, rfl, Dk, hn, h1, h2, k⟩ := h
  refine ⟨_, (pss_cons (ps_asg (pe_op op_add (pe_ix ix_list (pv 0) pe_int (fun _ _ => rfl)) pe_int) (pg_sub (pv 0) pe_int set_list))
      (pss_cons (ps_asg (pe_tup (pa_cons pe_int (pa_cons (pe_un un_neg pe_int) pa_nil))) (pg_tup rfl (pgs_cons (pg_name (i := 2) sc_law_draw.nd rfl (Or.inl rfl)) (pgs_cons (pg_name (i := 3) sc_law_draw.nd rfl (Or.inl rfl)) pgs_nil))))
      (pss_cons (ps_if (pt_cmpR op_gt (pe_callB c_len (by rfl) B.len (by decide +kernel) (pa_cons (pe_ix ix_list (pv 0) pe_int (fun _ _ => rfl)) pa_nil)) pe_int (nomark _)) (pss_cons (ps_set (i := 3) sc_law_draw.nd rfl (Or.inl rfl) (pe_op op_mod (pe_callTy c_int (by rfl) B.int (by decide +kernel) (pa_cons (pe_ix ix_list (pv 0) pe_int (fun _ _ => rfl)) pa_nil)) (pe_callB c_len (by rfl) B.len (by decide +kernel) (pa_cons (pe_ix ix_list (pv 0) pe_int (fun _ _ => rfl)) pa_nil))))
      (pss_one (ps_set (i := 2) sc_law_draw.nd rfl (Or.inl rfl) (pe_ix ix_list (pe_ix ix_list (pv 0) pe_int (fun _ _ => rfl)) (pv 3) (fun _ _ => rfl)))))
        pss_nil)
      (pss_cons (ps_if (pt_cmpR op_ge (pv 2) (pe_op op_pow pe_int pe_int) (nomark _)) (pss_cons (ps_asg (pe_op op_fdiv (pe_callTy c_int (by rfl) B.int (by decide +kernel) (pa_cons (pv 2) pa_nil)) (pv 1)) (pg_sub (pe_ix ix_list (pv 0) pe_int (fun _ _ => rfl)) (pv 3) set_list))
      (pss_one (ps_ret (pe_op op_mod (pe_callTy c_int (by rfl) B.int (by decide +kernel) (pa_cons (pv 2) pa_nil)) (pv 1)))))
        pss_nil)
      (pss_cons (ps_set (i := 4) sc_law_draw.nd rfl (Or.inl rfl) (pe_op op_add (pe_op op_add (pe_op op_mod (pe_callTy c_int (by rfl) B.int (by decide +kernel) (pa_cons (pv 2) pa_nil)) pe_int) (pe_op op_mul pe_int (pe_ix ix_list (pv 0) pe_int (fun _ _ => rfl)))) pe_int))
      (pss_one (ps_ret (pe_op op_mod (pe_callTy c_int (by rfl) B.int (by decide +kernel) (pa_cons (pe_op op_mod (pe_callTy c_int (by rfl) B.int (by decide +kernel) (pa_cons (pe_op op_pow (pv 4) pe_int) pa_nil)) pe_int) pa_nil)) (pv 1))))))))), ?_⟩
  obtain ⟨hd, ⟨cs, hc, hp, hl⟩, ne, n0⟩ := Dk
  walk_at "rd"
  refine ⟨by decide, fun p hp' => ?_⟩
  have pd : p ≠ d := fun z => by
    rw [z, upd_same] at hp'
    cases hp'
  have pH : H p = none := by
    rw [upd_ne pd] at hp'
    exact hp'
  have pc : p ≠ c := Ne.symm (ne_of_none hc pH)
  generalize eH : upd (upd H d (HO.lst ([V.ref c, V.int n].set (Int.toNat 1) (V.int (n + 1))))) p (HO.tup [V.int 0, V.int (-1)]) = H1
  have hT : H1 p = some (.tup [V.int 0, V.int (-1)]) := by rw [← eH]; exact upd_same
  have hd1 : H1 d = some (.lst [V.ref c, V.int (n + 1)]) := by
    rw [← eH, upd_ne pd.symm]
    exact upd_same
  have hc1 : H1 c = some (.lst (cs.map V.int)) := by
    rw [← eH, upd_ne pc.symm, upd_ne ne.symm]
    exact hc
  have kp : Kp [d, c] H H1 := by
    rw [← eH]
    exact ((Kp.refl (Deck.ls ⟨hd, ⟨cs, hc, hp, hl⟩, ne, n0⟩)).write (by simp)).new hp'
  walk_at "rd"
  have last : ∀ (x : Int), 0 ≤ x → ∀ (y : Int), y = x % 2147483563 + 8117 * (n + 1) + 3 → y.natAbs < 2 ^ 64 := by
    intro x hx y e
    omega
  refine ifd (fun c1 => ?_) (fun c1 => ?_)
  · rw [List.length_map] at c1
    have hlt : ((n + 1) % (cs.length : Int)).toNat < cs.length := by
      have q1 := Int.emod_nonneg (n + 1) (show (cs.length : Int) ≠ 0 by omega)
      have q2 := Int.emod_lt_of_pos (n + 1) c1
      omega
    have h0 := Int.emod_nonneg (n + 1) (show (cs.length : Int) ≠ 0 by omega)
    have hlt2 := Int.emod_lt_of_pos (n + 1) c1
    have hat : atI (cs.map V.int) ((n + 1) % ((cs.map V.int).length : Nat)) = some (.int cs[((n + 1) % (cs.length : Int)).toNat]) := by
      rw [List.length_map]
      refine at_of (j := ((n + 1) % (cs.length : Int)).toNat) (by omega) ?_
      rw [List.getElem?_map, List.getElem?_eq_getElem hlt]
      rfl
    have hset : ixN (cs.map V.int).length ((n + 1) % ((cs.map V.int).length : Nat)) = some ((n + 1) % (cs.length : Int)).toNat := by
      unfold ixN
      rw [List.length_map, if_pos h0, if_pos hlt2]
    have hx := hp _ (List.getElem_mem hlt)
    generalize cs[((n + 1) % (cs.length : Int)).toNat] = x at hat hx
    walk_at "rd"
    refine ifd (fun c2 => ?_) (fun c2 => ?_)
    all_goals walk_at "rd"
    · refine k _ _ (Int.emod_nonneg _ (by omega)) (Int.emod_lt_of_pos _ (by omega)) ⟨?_, ⟨cs.set ((n + 1) % (cs.length : Int)).toNat (x / m), ?_, ?_, ?_⟩, ne, by omega⟩ (kp.write (by simp))
      · rw [upd_ne ne]
        exact hd1
      · rw [upd_same, List.map_set]
      · intro y hy
        rcases List.mem_or_eq_of_mem_set hy with hy | rfl
        · exact hp y hy
        · exact Int.ediv_nonneg hx (by omega)
      · rw [List.length_set]
        exact hl
    · walk_at "sc"
    · walk_at "sc"
    · exact k _ _ (Int.emod_nonneg _ (by omega)) (Int.emod_lt_of_pos _ (by omega)) ⟨hd1, ⟨cs, hc1, hp, hl⟩, ne, by omega⟩ kp
    · walk_at "sc"
    · walk_at "sc"
    · walk_at "sc"
    · walk_at "sc"
    · walk_at "sc"
    · walk_at "sc"
    · rw [List.length_map]
      exact c1
  · walk_at "rd"
    · refine ifd (fun c2 => ?_) (fun c2 => ?_)
      · exact absurd c2 (by decide)
      · walk_at "rd"
        · exact k _ _ (Int.emod_nonneg _ (by omega)) (Int.emod_lt_of_pos _ (by omega)) ⟨hd1, ⟨cs, hc1, hp, hl⟩, ne, by omega⟩ kp
        all_goals walk_at "sc"
    · walk_at "sc"
theorem ok_law_one (D : Df K mg "_law_one" s_law_one P_law_one) (B : Blt mg)
    (G_law_draw : Has P w K mg base CX0 "_law_draw" ["_law_deck_here", "_law_many"] 1 spDraw) : Has P w K mg base CX0 "_law_one" P_law_one 2 (spOne K) := by
  refine D.has sc_law_one (fun vs H Q E h => ?_) (fun f cdv A outer s H vs Q E hr h => ?_)
  · rcases h with ⟨d, c, a, n, xs, rfl, _⟩ | ⟨d, c, n, z, rfl, _⟩ <;> rfl
  refine ⟨_, (pss_one (ps_ret (pe_ix ix_seq (pv 1) (pe_f G_law_draw (hr.mono (by omega)) (by rfl) pass0 (pa_cons (pv 0) (pa_cons (pe_callB c_len (by rfl) B.len (by decide +kernel) (pa_cons (pv 1) pa_nil)) pa_nil))) (fun _ _ => rfl)))), ?_⟩
  rcases h with ⟨d, c, a, n, xs, rfl, Dk, hn, hS, h1, h2, h3, h4, k⟩ | ⟨d, c, n, z, rfl, Dk, hn, h3, h4, k⟩
  · walk_at "rd"
    refine spDraw.use Dk hn (by omega) (by omega) fun H1 r r0 r1 D1 k1 => ?_
    have hlt : r.toNat < xs.length := by omega
    refine .inl (r_ixL (sqL_kp k1 (by simp [h1, h2]) hS) (at_of (j := r.toNat) (by omega) (List.getElem?_eq_getElem hlt)) ?_)
    exact k _ r.toNat _ (List.getElem?_eq_getElem hlt) D1 k1
  · have hz : z.length ≤ sizeLine := by rw [sizeLine_eq]; omega
    have hsz : z.cps.toList.length = z.length := by rw [Array.length_toList]; rfl
    walk_at "rd"
    · refine spDraw.use Dk hn (by omega) (by omega) fun H1 r r0 r1 D1 k1 => ?_
      have hlt : r.toNat < z.cps.toList.length := by omega
      refine .inr (.inr (r_ixS (c := z.cps.toList[r.toNat]) hz ?_ ?_))
      · exact at_nn r0 (List.getElem?_eq_getElem hlt)
      · exact k _ _ (List.getElem_mem hlt) D1 k1
    · exact hz
theorem ok_law_value (D : Df K mg "_law_value" s_law_value P_law_value) (B : Blt mg)
    (G_law_draw : Has P w K mg base CX0 "_law_draw" ["_law_deck_here", "_law_many"] 1 spDraw) (G_law_one : Has P w K mg base CX0 "_law_one" ["_law_deck_here", "_law_items"] 2 (spOne K)) :
    Has P w K mg base CX0 "_law_value" P_law_value 3 (spValue K) := by
  refine D.has sc_law_value (fun vs H Q E h => ?_) (fun f cdv A outer s H vs Q E hr h => ?_)
  · obtain ⟨d, c, n, rfl, _⟩ := h
    rfl
  obtain ⟨d, c, n, rfl, Dk, hn, k⟩ := h
  have n0 := Dk.n0
  refine ⟨_, (pss_cons (ps_set (i := 1) sc_law_value.nd rfl (Or.inl rfl) (pe_op op_sub (pe_f G_law_draw (hr.mono (by omega)) (by rfl) pass0 (pa_cons (pv 0) (pa_cons (pe_op op_pow pe_int pe_int) pa_nil))) (pe_op op_mul pe_int (pe_op op_pow pe_int pe_int))))
      (pss_cons (ps_set (i := 2) sc_law_value.nd rfl (Or.inl rfl) (pe_lst (pa_cons pe_non (pa_cons pe_bl (pa_cons pe_bl (pa_cons pe_int (pa_cons pe_int (pa_cons (pv 1) (pa_cons (pe_callTy c_str (by rfl) B.str (by decide +kernel) (pa_cons (pv 1) pa_nil)) (pa_cons pe_str (pa_cons (pe_tup pa_nil) (pa_cons (pe_tup (pa_cons (pv 1) pa_nil)) (pa_cons (pe_lst (pa_cons (pv 1) pa_nil)) (pa_cons (pe_tup (pa_cons pe_non (pa_cons pe_str pa_nil))) (pa_cons (pe_tup (pa_cons (pe_tup (pa_cons pe_int pa_nil)) (pa_cons pe_bl pa_nil))) (pa_cons pe_dnewK pa_nil))))))))))))))))
      (pss_one (ps_ret (pe_f G_law_one (hr.mono (by omega)) (by rfl) pass0 (pa_cons (pv 0) (pa_cons (pe_op op_cat (pv 2) (pe_lst (pa_cons (pe_disp (pps_cons pe_str (pv 1) pps_nil) (by rfl) (by rfl) (fun z => by cases z) (by decide)) (pa_cons (pe_tup (pa_cons pe_str (pa_cons pe_str pa_nil))) (pa_cons (pe_tup (pa_cons (pe_tup (pa_cons pe_int (pa_cons pe_int pa_nil))) (pa_cons (pe_tup (pa_cons pe_int (pa_cons (pv 1) pa_nil))) pa_nil))) pa_nil))))) pa_nil))))))), ?_⟩
  walk_at "rd"
  rotate_left
  · exact c_pow (by decide) (by decide) (by decide)
  refine spDraw.use Dk (by omega) (by decide) (by decide) fun H1 u u0 u1 D1 k1 => ?_
  refine r_op (r_C (r_op (r_C (r_C (r_I (r_I (r_I0 ?_) (c_mulL (by decide) (by decide))) (c_pow (by decide) (by decide) (by decide)))))))
  generalize em : u - 5 * 10 ^ (8 : Int).toNat = m
  have hm9 : m.natAbs < 10 ^ 9 := by
    have u1' : u < 1000000000 := u1
    have em' : u - 500000000 = m := em
    omega
  have hml : m.natAbs.log2 < 1920 := by
    by_cases e : m.natAbs = 0
    · rw [e]
      decide
    · exact Nat.lt_of_lt_of_le ((Nat.log2_lt (k := 30) e).mpr (by omega)) (by decide)
  have oc1 : Oc [d, c] H1 := D1.oc
  have dm : ∀ H' : Hp, Dw [d, c] K H' (.int m) (.int m) := fun _ => .int m
  with_reducible refine r_name ?_
  with_reducible refine r_seq ?_
  with_reducible refine r_asg ?_
  with_reducible refine r_lst ?_
  refine CWs.use (M := [d, c]) (K := K) (ds := DV1 m) ?a1 fun H2 vs2 k2 hs2 => ⟨by rw [hs2.len, sizeLine_eq]; simp, fun p2 hp2 => ?_⟩
  case a1 =>
    have dm1 := dm H1
    walk_at "cw"
    · exact cw_strV (i := 1) (n := m) rfl hml
    walk_at "cw"
  have k3 : Kp [] H1 (upd H2 p2 (.lst vs2)) := k2.new hp2
  have D3 := D1.kp k3 (by simp) (by simp)
  have hs3 := hs2.kp0 (Kp.nil.new (o := .lst vs2) hp2)
  have q3 : upd H2 p2 (.lst vs2) p2 = some (.lst vs2) := upd_same
  generalize upd H2 p2 (.lst vs2) = H3 at k3 D3 hs3 q3 ⊢
  have oc3 : Oc [d, c] H3 := D3.oc
  have l2 := hs2.len
  with_reducible refine r_name ?_
  with_reducible refine r_ret ?_
  with_reducible refine r_call ?_
  with_reducible refine r_cons ?_
  with_reducible apply r_var
  · exact rfl
  with_reducible refine r_cons ?_
  with_reducible refine r_op ?_
  with_reducible apply r_var
  · exact rfl
  with_reducible refine r_lst ?_
  refine CWs.use (M := [d, c]) (K := K) (ds := DV2 m) ?a2 fun H4 vs4 k4 hs4 => ⟨by rw [hs4.len, sizeLine_eq]; simp, fun p4 hp4 => ?_⟩
  case a2 =>
    have dm3 := dm H3
    refine cws_cons (cw_d1v (i := 1) (n := m) (by exact rfl) oc3) ?_
    walk_at "cw"
  have k5 : Kp [] H3 (upd H4 p4 (.lst vs4)) := k4.new hp4
  have D5 := D3.kp k5 (by simp) (by simp)
  have hs5 := (hs3.kp0 k5).app (hs4.kp0 (Kp.nil.new (o := .lst vs4) hp4))
  have q5 := k5.get q3 (by simp)
  have r5 : upd H4 p4 (.lst vs4) p4 = some (.lst vs4) := upd_same
  have l4 := hs4.len
  generalize upd H4 p4 (.lst vs4) = H5 at k5 D5 hs5 q5 r5 ⊢
  have e17 : vs2.length + vs4.length = 17 := by rw [l2, l4]; rfl
  refine r_cat q5 r5 (by rw [e17, sizeLine_eq]; decide) fun p6 hp6 => ?_
  have k6 : Kp [] H5 (upd H5 p6 (.lst (vs2 ++ vs4))) := Kp.nil.new hp6
  have D6 := D5.kp k6 (by simp) (by simp)
  have hs6 := hs5.kp0 k6
  have q6 : upd H5 p6 (.lst (vs2 ++ vs4)) p6 = some (.lst (vs2 ++ vs4)) := upd_same
  have f6 := D5.fresh hp6
  have kk : Kp [d, c] H1 (upd H5 p6 (.lst (vs2 ++ vs4))) := ((k3.trans k5).trans k6).sub D1.ls (by simp)
  generalize upd H5 p6 (.lst (vs2 ++ vs4)) = H6 at k6 D6 hs6 q6 kk ⊢
  walk_at "rd"
  refine spOne.list D6 (by omega) (SqL.of q6) f6.1 f6.2 (by rw [List.length_append]; omega) (by rw [List.length_append]; omega) fun H7 i y hy D7 k7 => ?_
  obtain ⟨dd, hdd, hyd⟩ := hs6.get hy
  refine k _ _ dd _ D7 (by omega) (by omega) ((k1.trans kk).trans k7) (hyd.kp k7) ?_
  rcases List.mem_append.mp (List.mem_of_getElem? hdd) with hm | hm
  · exact dv1_ok hm9 dd hm
  · exact dv2_ok hm9 dd hm
theorem ok_law_kinds (D : Df K mg "_law_kinds" s_law_kinds P_law_kinds) (B : Blt mg) {C0 C1 C2 C3 C4 C5 C6 C7 C8 C9 C10 C11 C12 C13 C14 C15 C16 C17 C18 C19 : Addr}
    (g_BadText : mg "BadText" = some (.ref C0)) (g_BadProgram : mg "BadProgram" = some (.ref C1)) (g_BadFix : mg "BadFix" = some (.ref C2)) (g_BadNumber : mg "BadNumber" = some (.ref C3)) (g_BadReadings : mg "BadReadings" = some (.ref C4)) (g_BadLength : mg "BadLength" = some (.ref C5)) (g_BadVectors : mg "BadVectors" = some (.ref C6)) (g_BadVector : mg "BadVector" = some (.ref C7)) (g_OtherLength : mg "OtherLength" = some (.ref C8)) (g_NoReader : mg "NoReader" = some (.ref C9)) (g_IsHeld : mg "IsHeld" = some (.ref C10)) (g_NotHeld : mg "NotHeld" = some (.ref C11)) (g_Loose : mg "Loose" = some (.ref C12)) (g_Busy : mg "Busy" = some (.ref C13)) (g_TooManyEdits : mg "TooManyEdits" = some (.ref C14)) (g_NothingToUndo : mg "NothingToUndo" = some (.ref C15)) (g_NothingToRedo : mg "NothingToRedo" = some (.ref C16)) (g_BadEdits : mg "BadEdits" = some (.ref C17)) (g_BadEdit : mg "BadEdit" = some (.ref C18)) (g_Rejected : mg "Rejected" = some (.ref C19)) :
    Has P w K mg base CX0 "_law_kinds" P_law_kinds 1 (spKinds K [C0, C1, C2, C3, C4, C5, C6, C7, C8, C9, C10, C11, C12, C13, C14, C15, C16, C17, C18, C19]) := by
  refine D.has sc_law_kinds (fun vs H Q E h => ?_) (fun f cdv A outer s H vs Q E hr h => ?_)
  · obtain ⟨v, Dd, g, rfl, _⟩ := h
    rfl
  obtain ⟨v, Dd, g, rfl, he, hc, hk, k⟩ := h
  refine ⟨_, (pss_cons (ps_set (i := 1) sc_law_kinds.nd rfl (Or.inl rfl) (pe_lst (pa_cons (pe_callB call_isG (by rfl) B.isinstance (by decide +kernel) (pa_cons (pv 0) (pa_cons (pe_gref (by rfl) g_BadText) pa_nil))) (pa_cons (pe_callB call_isG (by rfl) B.isinstance (by decide +kernel) (pa_cons (pv 0) (pa_cons (pe_gref (by rfl) g_BadProgram) pa_nil))) (pa_cons (pe_callB call_isG (by rfl) B.isinstance (by decide +kernel) (pa_cons (pv 0) (pa_cons (pe_gref (by rfl) g_BadFix) pa_nil))) (pa_cons (pe_callB call_isG (by rfl) B.isinstance (by decide +kernel) (pa_cons (pv 0) (pa_cons (pe_gref (by rfl) g_BadNumber) pa_nil))) pa_nil))))))
      (pss_cons (ps_set (i := 1) sc_law_kinds.nd rfl (Or.inl rfl) (pe_op op_cat (pv 1) (pe_lst (pa_cons (pe_callB call_isG (by rfl) B.isinstance (by decide +kernel) (pa_cons (pv 0) (pa_cons (pe_gref (by rfl) g_BadReadings) pa_nil))) (pa_cons (pe_callB call_isG (by rfl) B.isinstance (by decide +kernel) (pa_cons (pv 0) (pa_cons (pe_gref (by rfl) g_BadLength) pa_nil))) (pa_cons (pe_callB call_isG (by rfl) B.isinstance (by decide +kernel) (pa_cons (pv 0) (pa_cons (pe_gref (by rfl) g_BadVectors) pa_nil))) pa_nil))))))
      (pss_cons (ps_set (i := 1) sc_law_kinds.nd rfl (Or.inl rfl) (pe_op op_cat (pv 1) (pe_lst (pa_cons (pe_callB call_isG (by rfl) B.isinstance (by decide +kernel) (pa_cons (pv 0) (pa_cons (pe_gref (by rfl) g_BadVector) pa_nil))) (pa_cons (pe_callB call_isG (by rfl) B.isinstance (by decide +kernel) (pa_cons (pv 0) (pa_cons (pe_gref (by rfl) g_OtherLength) pa_nil))) (pa_cons (pe_callB call_isG (by rfl) B.isinstance (by decide +kernel) (pa_cons (pv 0) (pa_cons (pe_gref (by rfl) g_NoReader) pa_nil))) pa_nil))))))
      (pss_cons (ps_set (i := 1) sc_law_kinds.nd rfl (Or.inl rfl) (pe_op op_cat (pv 1) (pe_lst (pa_cons (pe_callB call_isG (by rfl) B.isinstance (by decide +kernel) (pa_cons (pv 0) (pa_cons (pe_gref (by rfl) g_IsHeld) pa_nil))) (pa_cons (pe_callB call_isG (by rfl) B.isinstance (by decide +kernel) (pa_cons (pv 0) (pa_cons (pe_gref (by rfl) g_NotHeld) pa_nil))) (pa_cons (pe_callB call_isG (by rfl) B.isinstance (by decide +kernel) (pa_cons (pv 0) (pa_cons (pe_gref (by rfl) g_Loose) pa_nil))) (pa_cons (pe_callB call_isG (by rfl) B.isinstance (by decide +kernel) (pa_cons (pv 0) (pa_cons (pe_gref (by rfl) g_Busy) pa_nil))) pa_nil)))))))
      (pss_cons (ps_set (i := 1) sc_law_kinds.nd rfl (Or.inl rfl) (pe_op op_cat (pv 1) (pe_lst (pa_cons (pe_callB call_isG (by rfl) B.isinstance (by decide +kernel) (pa_cons (pv 0) (pa_cons (pe_gref (by rfl) g_TooManyEdits) pa_nil))) (pa_cons (pe_callB call_isG (by rfl) B.isinstance (by decide +kernel) (pa_cons (pv 0) (pa_cons (pe_gref (by rfl) g_NothingToUndo) pa_nil))) (pa_cons (pe_callB call_isG (by rfl) B.isinstance (by decide +kernel) (pa_cons (pv 0) (pa_cons (pe_gref (by rfl) g_NothingToRedo) pa_nil))) pa_nil))))))
      (pss_one (ps_ret (pe_op op_cat (pv 1) (pe_lst (pa_cons (pe_callB call_isG (by rfl) B.isinstance (by decide +kernel) (pa_cons (pv 0) (pa_cons (pe_gref (by rfl) g_BadEdits) pa_nil))) (pa_cons (pe_callB call_isG (by rfl) B.isinstance (by decide +kernel) (pa_cons (pv 0) (pa_cons (pe_gref (by rfl) g_BadEdit) pa_nil))) (pa_cons (pe_callB call_isG (by rfl) B.isinstance (by decide +kernel) (pa_cons (pv 0) (pa_cons (pe_gref (by rfl) g_Rejected) pa_nil))) pa_nil)))))))))))), ?_⟩
  have h_BadText : PySem.W.kitOne K (.ref Dd) (.ref C0) = some (g C0) := hk _ (by simp)
  have h_BadProgram : PySem.W.kitOne K (.ref Dd) (.ref C1) = some (g C1) := hk _ (by simp)
  have h_BadFix : PySem.W.kitOne K (.ref Dd) (.ref C2) = some (g C2) := hk _ (by simp)
  have h_BadNumber : PySem.W.kitOne K (.ref Dd) (.ref C3) = some (g C3) := hk _ (by simp)
  have h_BadReadings : PySem.W.kitOne K (.ref Dd) (.ref C4) = some (g C4) := hk _ (by simp)
  have h_BadLength : PySem.W.kitOne K (.ref Dd) (.ref C5) = some (g C5) := hk _ (by simp)
  have h_BadVectors : PySem.W.kitOne K (.ref Dd) (.ref C6) = some (g C6) := hk _ (by simp)
  have h_BadVector : PySem.W.kitOne K (.ref Dd) (.ref C7) = some (g C7) := hk _ (by simp)
  have h_OtherLength : PySem.W.kitOne K (.ref Dd) (.ref C8) = some (g C8) := hk _ (by simp)
  have h_NoReader : PySem.W.kitOne K (.ref Dd) (.ref C9) = some (g C9) := hk _ (by simp)
  have h_IsHeld : PySem.W.kitOne K (.ref Dd) (.ref C10) = some (g C10) := hk _ (by simp)
  have h_NotHeld : PySem.W.kitOne K (.ref Dd) (.ref C11) = some (g C11) := hk _ (by simp)
  have h_Loose : PySem.W.kitOne K (.ref Dd) (.ref C12) = some (g C12) := hk _ (by simp)
  have h_Busy : PySem.W.kitOne K (.ref Dd) (.ref C13) = some (g C13) := hk _ (by simp)
  have h_TooManyEdits : PySem.W.kitOne K (.ref Dd) (.ref C14) = some (g C14) := hk _ (by simp)
  have h_NothingToUndo : PySem.W.kitOne K (.ref Dd) (.ref C15) = some (g C15) := hk _ (by simp)
  have h_NothingToRedo : PySem.W.kitOne K (.ref Dd) (.ref C16) = some (g C16) := hk _ (by simp)
  have h_BadEdits : PySem.W.kitOne K (.ref Dd) (.ref C17) = some (g C17) := hk _ (by simp)
  have h_BadEdit : PySem.W.kitOne K (.ref Dd) (.ref C18) = some (g C18) := hk _ (by simp)
  have h_Rejected : PySem.W.kitOne K (.ref Dd) (.ref C19) = some (g C19) := hk _ (by simp)
  clear hk
  have y0 := he.ty hc
  walk_at "rd"
  refine r_isG (.own _) y0 h_BadText ?_
  walk_at "rd"
  refine r_isG (.own _) y0 h_BadProgram ?_
  walk_at "rd"
  refine r_isG (.own _) y0 h_BadFix ?_
  walk_at "rd"
  refine r_isG (.own _) y0 h_BadNumber ?_
  walk_at "rd"
  refine ⟨by simp [sizeLine_eq], fun p0 hp0 => ?_⟩
  have k1 : Kp [] H (upd H p0 (.lst [V.bl (g C0), V.bl (g C1), V.bl (g C2), V.bl (g C3)])) := Kp.nil.new hp0
  have e1 : upd H p0 (.lst [V.bl (g C0), V.bl (g C1), V.bl (g C2), V.bl (g C3)]) p0 = some (.lst [V.bl (g C0), V.bl (g C1), V.bl (g C2), V.bl (g C3)]) := upd_same
  have he1 := he.kp k1
  have K1 := k1
  generalize upd H p0 (.lst [V.bl (g C0), V.bl (g C1), V.bl (g C2), V.bl (g C3)]) = H1 at k1 e1 he1 K1  ⊢
  have f0 := e1
  have he_1 := he1
  have y1 := he_1.ty hc
  walk_at "rd"
  refine r_isG (.own _) y1 h_BadReadings ?_
  walk_at "rd"
  refine r_isG (.own _) y1 h_BadLength ?_
  walk_at "rd"
  refine r_isG (.own _) y1 h_BadVectors ?_
  walk_at "rd"
  refine ⟨by simp [sizeLine_eq], fun p1 hp1 => ?_⟩
  have k2 : Kp [] H1 (upd H1 p1 (.lst [V.bl (g C4), V.bl (g C5), V.bl (g C6)])) := Kp.nil.new hp1
  have e2 : upd H1 p1 (.lst [V.bl (g C4), V.bl (g C5), V.bl (g C6)]) p1 = some (.lst [V.bl (g C4), V.bl (g C5), V.bl (g C6)]) := upd_same
  have f1 := k2.get f0 (by simp)
  have he2 := he_1.kp k2
  have K2 := K1.trans k2
  generalize upd H1 p1 (.lst [V.bl (g C4), V.bl (g C5), V.bl (g C6)]) = H2 at k2 e2 he2 K2 f1 ⊢
  refine r_cat f1 e2 (by simp [sizeLine_eq]) fun q1 hq1 => ?_
  have kq1 : Kp [] H2 (upd H2 q1 (.lst ([V.bl (g C0), V.bl (g C1), V.bl (g C2), V.bl (g C3)] ++ [V.bl (g C4), V.bl (g C5), V.bl (g C6)]))) := Kp.nil.new hq1
  have fq1 : upd H2 q1 (.lst ([V.bl (g C0), V.bl (g C1), V.bl (g C2), V.bl (g C3)] ++ [V.bl (g C4), V.bl (g C5), V.bl (g C6)])) q1 = some (.lst [V.bl (g C0), V.bl (g C1), V.bl (g C2), V.bl (g C3), V.bl (g C4), V.bl (g C5), V.bl (g C6)]) := upd_same
  have he_2 := he2.kp kq1
  have Kq1 := K2.trans kq1
  generalize upd H2 q1 (.lst ([V.bl (g C0), V.bl (g C1), V.bl (g C2), V.bl (g C3)] ++ [V.bl (g C4), V.bl (g C5), V.bl (g C6)])) = G1 at kq1 fq1 he_2 Kq1 ⊢
  have y2 := he_2.ty hc
  have f1 := fq1
  have K2 := Kq1
  walk_at "rd"
  refine r_isG (.own _) y2 h_BadVector ?_
  walk_at "rd"
  refine r_isG (.own _) y2 h_OtherLength ?_
  walk_at "rd"
  refine r_isG (.own _) y2 h_NoReader ?_
  walk_at "rd"
  refine ⟨by simp [sizeLine_eq], fun p2 hp2 => ?_⟩
  have k3 : Kp [] G1 (upd G1 p2 (.lst [V.bl (g C7), V.bl (g C8), V.bl (g C9)])) := Kp.nil.new hp2
  have e3 : upd G1 p2 (.lst [V.bl (g C7), V.bl (g C8), V.bl (g C9)]) p2 = some (.lst [V.bl (g C7), V.bl (g C8), V.bl (g C9)]) := upd_same
  have f2 := k3.get f1 (by simp)
  have he3 := he_2.kp k3
  have K3 := K2.trans k3
  generalize upd G1 p2 (.lst [V.bl (g C7), V.bl (g C8), V.bl (g C9)]) = H3 at k3 e3 he3 K3 f2 ⊢
  refine r_cat f2 e3 (by simp [sizeLine_eq]) fun q2 hq2 => ?_
  have kq2 : Kp [] H3 (upd H3 q2 (.lst ([V.bl (g C0), V.bl (g C1), V.bl (g C2), V.bl (g C3), V.bl (g C4), V.bl (g C5), V.bl (g C6)] ++ [V.bl (g C7), V.bl (g C8), V.bl (g C9)]))) := Kp.nil.new hq2
  have fq2 : upd H3 q2 (.lst ([V.bl (g C0), V.bl (g C1), V.bl (g C2), V.bl (g C3), V.bl (g C4), V.bl (g C5), V.bl (g C6)] ++ [V.bl (g C7), V.bl (g C8), V.bl (g C9)])) q2 = some (.lst [V.bl (g C0), V.bl (g C1), V.bl (g C2), V.bl (g C3), V.bl (g C4), V.bl (g C5), V.bl (g C6), V.bl (g C7), V.bl (g C8), V.bl (g C9)]) := upd_same
  have he_3 := he3.kp kq2
  have Kq2 := K3.trans kq2
  generalize upd H3 q2 (.lst ([V.bl (g C0), V.bl (g C1), V.bl (g C2), V.bl (g C3), V.bl (g C4), V.bl (g C5), V.bl (g C6)] ++ [V.bl (g C7), V.bl (g C8), V.bl (g C9)])) = G2 at kq2 fq2 he_3 Kq2 ⊢
  have y3 := he_3.ty hc
  have f2 := fq2
  have K3 := Kq2
  walk_at "rd"
  refine r_isG (.own _) y3 h_IsHeld ?_
  walk_at "rd"
  refine r_isG (.own _) y3 h_NotHeld ?_
  walk_at "rd"
  refine r_isG (.own _) y3 h_Loose ?_
  walk_at "rd"
  refine r_isG (.own _) y3 h_Busy ?_
  walk_at "rd"
  refine ⟨by simp [sizeLine_eq], fun p3 hp3 => ?_⟩
  have k4 : Kp [] G2 (upd G2 p3 (.lst [V.bl (g C10), V.bl (g C11), V.bl (g C12), V.bl (g C13)])) := Kp.nil.new hp3
  have e4 : upd G2 p3 (.lst [V.bl (g C10), V.bl (g C11), V.bl (g C12), V.bl (g C13)]) p3 = some (.lst [V.bl (g C10), V.bl (g C11), V.bl (g C12), V.bl (g C13)]) := upd_same
  have f3 := k4.get f2 (by simp)
  have he4 := he_3.kp k4
  have K4 := K3.trans k4
  generalize upd G2 p3 (.lst [V.bl (g C10), V.bl (g C11), V.bl (g C12), V.bl (g C13)]) = H4 at k4 e4 he4 K4 f3 ⊢
  refine r_cat f3 e4 (by simp [sizeLine_eq]) fun q3 hq3 => ?_
  have kq3 : Kp [] H4 (upd H4 q3 (.lst ([V.bl (g C0), V.bl (g C1), V.bl (g C2), V.bl (g C3), V.bl (g C4), V.bl (g C5), V.bl (g C6), V.bl (g C7), V.bl (g C8), V.bl (g C9)] ++ [V.bl (g C10), V.bl (g C11), V.bl (g C12), V.bl (g C13)]))) := Kp.nil.new hq3
  have fq3 : upd H4 q3 (.lst ([V.bl (g C0), V.bl (g C1), V.bl (g C2), V.bl (g C3), V.bl (g C4), V.bl (g C5), V.bl (g C6), V.bl (g C7), V.bl (g C8), V.bl (g C9)] ++ [V.bl (g C10), V.bl (g C11), V.bl (g C12), V.bl (g C13)])) q3 = some (.lst [V.bl (g C0), V.bl (g C1), V.bl (g C2), V.bl (g C3), V.bl (g C4), V.bl (g C5), V.bl (g C6), V.bl (g C7), V.bl (g C8), V.bl (g C9), V.bl (g C10), V.bl (g C11), V.bl (g C12), V.bl (g C13)]) := upd_same
  have he_4 := he4.kp kq3
  have Kq3 := K4.trans kq3
  generalize upd H4 q3 (.lst ([V.bl (g C0), V.bl (g C1), V.bl (g C2), V.bl (g C3), V.bl (g C4), V.bl (g C5), V.bl (g C6), V.bl (g C7), V.bl (g C8), V.bl (g C9)] ++ [V.bl (g C10), V.bl (g C11), V.bl (g C12), V.bl (g C13)])) = G3 at kq3 fq3 he_4 Kq3 ⊢
  have y4 := he_4.ty hc
  have f3 := fq3
  have K4 := Kq3
  walk_at "rd"
  refine r_isG (.own _) y4 h_TooManyEdits ?_
  walk_at "rd"
  refine r_isG (.own _) y4 h_NothingToUndo ?_
  walk_at "rd"
  refine r_isG (.own _) y4 h_NothingToRedo ?_
  walk_at "rd"
  refine ⟨by simp [sizeLine_eq], fun p4 hp4 => ?_⟩
  have k5 : Kp [] G3 (upd G3 p4 (.lst [V.bl (g C14), V.bl (g C15), V.bl (g C16)])) := Kp.nil.new hp4
  have e5 : upd G3 p4 (.lst [V.bl (g C14), V.bl (g C15), V.bl (g C16)]) p4 = some (.lst [V.bl (g C14), V.bl (g C15), V.bl (g C16)]) := upd_same
  have f4 := k5.get f3 (by simp)
  have he5 := he_4.kp k5
  have K5 := K4.trans k5
  generalize upd G3 p4 (.lst [V.bl (g C14), V.bl (g C15), V.bl (g C16)]) = H5 at k5 e5 he5 K5 f4 ⊢
  refine r_cat f4 e5 (by simp [sizeLine_eq]) fun q4 hq4 => ?_
  have kq4 : Kp [] H5 (upd H5 q4 (.lst ([V.bl (g C0), V.bl (g C1), V.bl (g C2), V.bl (g C3), V.bl (g C4), V.bl (g C5), V.bl (g C6), V.bl (g C7), V.bl (g C8), V.bl (g C9), V.bl (g C10), V.bl (g C11), V.bl (g C12), V.bl (g C13)] ++ [V.bl (g C14), V.bl (g C15), V.bl (g C16)]))) := Kp.nil.new hq4
  have fq4 : upd H5 q4 (.lst ([V.bl (g C0), V.bl (g C1), V.bl (g C2), V.bl (g C3), V.bl (g C4), V.bl (g C5), V.bl (g C6), V.bl (g C7), V.bl (g C8), V.bl (g C9), V.bl (g C10), V.bl (g C11), V.bl (g C12), V.bl (g C13)] ++ [V.bl (g C14), V.bl (g C15), V.bl (g C16)])) q4 = some (.lst [V.bl (g C0), V.bl (g C1), V.bl (g C2), V.bl (g C3), V.bl (g C4), V.bl (g C5), V.bl (g C6), V.bl (g C7), V.bl (g C8), V.bl (g C9), V.bl (g C10), V.bl (g C11), V.bl (g C12), V.bl (g C13), V.bl (g C14), V.bl (g C15), V.bl (g C16)]) := upd_same
  have he_5 := he5.kp kq4
  have Kq4 := K5.trans kq4
  generalize upd H5 q4 (.lst ([V.bl (g C0), V.bl (g C1), V.bl (g C2), V.bl (g C3), V.bl (g C4), V.bl (g C5), V.bl (g C6), V.bl (g C7), V.bl (g C8), V.bl (g C9), V.bl (g C10), V.bl (g C11), V.bl (g C12), V.bl (g C13)] ++ [V.bl (g C14), V.bl (g C15), V.bl (g C16)])) = G4 at kq4 fq4 he_5 Kq4 ⊢
  have y5 := he_5.ty hc
  have f4 := fq4
  have K5 := Kq4
  walk_at "rd"
  refine r_isG (.own _) y5 h_BadEdits ?_
  walk_at "rd"
  refine r_isG (.own _) y5 h_BadEdit ?_
  walk_at "rd"
  refine r_isG (.own _) y5 h_Rejected ?_
  walk_at "rd"
  refine ⟨by simp [sizeLine_eq], fun p5 hp5 => ?_⟩
  have k6 : Kp [] G4 (upd G4 p5 (.lst [V.bl (g C17), V.bl (g C18), V.bl (g C19)])) := Kp.nil.new hp5
  have e6 : upd G4 p5 (.lst [V.bl (g C17), V.bl (g C18), V.bl (g C19)]) p5 = some (.lst [V.bl (g C17), V.bl (g C18), V.bl (g C19)]) := upd_same
  have f5 := k6.get f4 (by simp)
  have he6 := he_5.kp k6
  have K6 := K5.trans k6
  generalize upd G4 p5 (.lst [V.bl (g C17), V.bl (g C18), V.bl (g C19)]) = H6 at k6 e6 he6 K6 f5 ⊢
  refine r_cat f5 e6 (by simp [sizeLine_eq]) fun q5 hq5 => ?_
  have kq5 : Kp [] H6 (upd H6 q5 (.lst ([V.bl (g C0), V.bl (g C1), V.bl (g C2), V.bl (g C3), V.bl (g C4), V.bl (g C5), V.bl (g C6), V.bl (g C7), V.bl (g C8), V.bl (g C9), V.bl (g C10), V.bl (g C11), V.bl (g C12), V.bl (g C13), V.bl (g C14), V.bl (g C15), V.bl (g C16)] ++ [V.bl (g C17), V.bl (g C18), V.bl (g C19)]))) := Kp.nil.new hq5
  have fq5 : upd H6 q5 (.lst ([V.bl (g C0), V.bl (g C1), V.bl (g C2), V.bl (g C3), V.bl (g C4), V.bl (g C5), V.bl (g C6), V.bl (g C7), V.bl (g C8), V.bl (g C9), V.bl (g C10), V.bl (g C11), V.bl (g C12), V.bl (g C13), V.bl (g C14), V.bl (g C15), V.bl (g C16)] ++ [V.bl (g C17), V.bl (g C18), V.bl (g C19)])) q5 = some (.lst [V.bl (g C0), V.bl (g C1), V.bl (g C2), V.bl (g C3), V.bl (g C4), V.bl (g C5), V.bl (g C6), V.bl (g C7), V.bl (g C8), V.bl (g C9), V.bl (g C10), V.bl (g C11), V.bl (g C12), V.bl (g C13), V.bl (g C14), V.bl (g C15), V.bl (g C16), V.bl (g C17), V.bl (g C18), V.bl (g C19)]) := upd_same
  have he_6 := he6.kp kq5
  have Kq5 := K6.trans kq5
  exact k _ _ Kq5 (K6.freeM Ms.nil hq5) fq5
theorem ok_law_kinds_right (D : Df K mg "_law_kinds_right" s_law_kinds_right P_law_kinds_right) (B : Blt mg) {C0 C1 C2 C3 C4 C5 C6 C7 C8 C9 C10 C11 C12 C13 C14 C15 C16 C17 C18 C19 CR CP CV : Addr} (ob : ObC K) (hVE : mg "ValueError" = none) (hLE : mg "LookupError" = none)
    (e_BadText : EFC K mg "BadText" C0 "ValueError.__new__" veT (.ref CR :: veT)) (e_BadProgram : EFC K mg "BadProgram" C1 "ValueError.__new__" veT (.ref CR :: veT)) (e_BadFix : EFC K mg "BadFix" C2 "ValueError.__new__" veT (.ref CR :: veT)) (e_BadNumber : EFC K mg "BadNumber" C3 "ValueError.__new__" veT (.ref CR :: veT)) (e_BadReadings : EFC K mg "BadReadings" C4 "ValueError.__new__" veT (.ref CR :: veT)) (e_BadLength : EFC K mg "BadLength" C5 "ValueError.__new__" veT (.ref CR :: veT)) (e_BadVectors : EFC K mg "BadVectors" C6 "ValueError.__new__" veT (.ref CR :: veT)) (e_BadVector : EFC K mg "BadVector" C7 "ValueError.__new__" veT (.ref CR :: veT)) (e_OtherLength : EFC K mg "OtherLength" C8 "ValueError.__new__" veT (.ref CR :: veT)) (e_NoReader : EFC K mg "NoReader" C9 "ValueError.__new__" veT (.ref CR :: veT)) (e_IsHeld : EFC K mg "IsHeld" C10 "ValueError.__new__" veT (.ref CR :: veT)) (e_NotHeld : EFC K mg "NotHeld" C11 "ValueError.__new__" veT (.ref CR :: veT)) (e_Loose : EFC K mg "Loose" C12 "ValueError.__new__" veT (.ref CR :: veT)) (e_Busy : EFC K mg "Busy" C13 "ValueError.__new__" veT (.ref CR :: veT)) (e_TooManyEdits : EFC K mg "TooManyEdits" C14 "ValueError.__new__" veT (.ref CR :: veT)) (e_NothingToUndo : EFC K mg "NothingToUndo" C15 "ValueError.__new__" veT (.ref CR :: veT)) (e_NothingToRedo : EFC K mg "NothingToRedo" C16 "ValueError.__new__" veT (.ref CR :: veT)) (e_BadEdits : EFC K mg "BadEdits" C17 "ValueError.__new__" veT (.ref CR :: veT)) (e_BadEdit : EFC K mg "BadEdit" C18 "ValueError.__new__" veT (.ref CR :: veT)) (e_Rejected : EFC K mg "Rejected" C19 "ValueError.__new__" veT (.ref CR :: veT)) (e_ReadError : EFC K mg "ReadError" CR "ValueError.__new__" veT veT) (e_NoPlace : EFC K mg "NoPlace" CP "LookupError.__new__" leT leT) (e_NoVersion : EFC K mg "NoVersion" CV "LookupError.__new__" leT leT)
    (GBadText : HasG P w K mg base "BadText" C0 "ValueError.__new__" "ValueError.__init__" veT ["self", "line"] 1 (spErr C0 "line")) (GBadProgram : HasG P w K mg base "BadProgram" C1 "ValueError.__new__" "ValueError.__init__" veT ["self", "error"] 1 (spErr C1 "error")) (GBadFix : HasG P w K mg base "BadFix" C2 "ValueError.__new__" "ValueError.__init__" veT ["self", "value"] 1 (spErr C2 "value")) (GBadNumber : HasG P w K mg base "BadNumber" C3 "ValueError.__new__" "ValueError.__init__" veT ["self", "number"] 1 (spErr C3 "number")) (GBadReadings : HasG P w K mg base "BadReadings" C4 "ValueError.__new__" "ValueError.__init__" veT ["self", "readings"] 1 (spErr C4 "readings")) (GBadLength : HasG P w K mg base "BadLength" C5 "ValueError.__new__" "ValueError.__init__" veT ["self", "length"] 1 (spErr C5 "length")) (GBadVectors : HasG P w K mg base "BadVectors" C6 "ValueError.__new__" "ValueError.__init__" veT ["self", "index"] 1 (spErr C6 "index")) (GBadVector : HasG P w K mg base "BadVector" C7 "ValueError.__new__" "ValueError.__init__" veT ["self", "vector"] 1 (spErr C7 "vector")) (GOtherLength : HasG P w K mg base "OtherLength" C8 "ValueError.__new__" "ValueError.__init__" veT ["self", "length"] 1 (spErr C8 "length")) (GNoReader : HasG P w K mg base "NoReader" C9 "ValueError.__new__" "ValueError.__init__" veT ["self", "place"] 1 (spErr C9 "place")) (GIsHeld : HasG P w K mg base "IsHeld" C10 "ValueError.__new__" "ValueError.__init__" veT ["self", "place"] 1 (spErr C10 "place")) (GNotHeld : HasG P w K mg base "NotHeld" C11 "ValueError.__new__" "ValueError.__init__" veT ["self", "place"] 1 (spErr C11 "place")) (GLoose : HasG P w K mg base "Loose" C12 "ValueError.__new__" "ValueError.__init__" veT ["self", "number", "index"] 1 (spErr2 C12 "number" "index")) (GBadEdit : HasG P w K mg base "BadEdit" C18 "ValueError.__new__" "ValueError.__init__" veT ["self", "index"] 1 (spErr C18 "index")) (GRejected : HasG P w K mg base "Rejected" C19 "ValueError.__new__" "ValueError.__init__" veT ["self", "index"] 1 (spErr C19 "index")) (GNoPlace : HasG P w K mg base "NoPlace" CP "LookupError.__new__" "LookupError.__init__" leT ["self", "place"] 1 (spErr CP "place")) (GNoVersion : HasG P w K mg base "NoVersion" CV "LookupError.__new__" "LookupError.__init__" leT ["self", "version"] 1 (spErr CV "version"))
    (q_Busy : PySem.W.excIn K C13 veT "ValueError.__new__" = true) (q_TooManyEdits : PySem.W.excIn K C14 veT "ValueError.__new__" = true) (q_NothingToUndo : PySem.W.excIn K C15 veT "ValueError.__new__" = true) (q_NothingToRedo : PySem.W.excIn K C16 veT "ValueError.__new__" = true) (q_BadEdits : PySem.W.excIn K C17 veT "ValueError.__new__" = true) (q_ReadError : PySem.W.excIn K CR veT "ValueError.__new__" = true)
    (hnd : ([CR, CP, CV] ++ [C0, C1, C2, C3, C4, C5, C6, C7, C8, C9, C10, C11, C12, C13, C14, C15, C16, C17, C18, C19]).Nodup) (G_law_kinds : Has P w K mg base CX0 "_law_kinds" ["_law_e"] 1 (spKinds K [C0, C1, C2, C3, C4, C5, C6, C7, C8, C9, C10, C11, C12, C13, C14, C15, C16, C17, C18, C19])) :
    Has P w K mg base CX0 "_law_kinds_right" P_law_kinds_right 3 spRight := by
  have g_BadText := e_BadText.at_
  have k_BadText := e_BadText.kC
  have g_BadProgram := e_BadProgram.at_
  have k_BadProgram := e_BadProgram.kC
  have g_BadFix := e_BadFix.at_
  have k_BadFix := e_BadFix.kC
  have g_BadNumber := e_BadNumber.at_
  have k_BadNumber := e_BadNumber.kC
  have g_BadReadings := e_BadReadings.at_
  have k_BadReadings := e_BadReadings.kC
  have g_BadLength := e_BadLength.at_
  have k_BadLength := e_BadLength.kC
  have g_BadVectors := e_BadVectors.at_
  have k_BadVectors := e_BadVectors.kC
  have g_BadVector := e_BadVector.at_
  have k_BadVector := e_BadVector.kC
  have g_OtherLength := e_OtherLength.at_
  have k_OtherLength := e_OtherLength.kC
  have g_NoReader := e_NoReader.at_
  have k_NoReader := e_NoReader.kC
  have g_IsHeld := e_IsHeld.at_
  have k_IsHeld := e_IsHeld.kC
  have g_NotHeld := e_NotHeld.at_
  have k_NotHeld := e_NotHeld.kC
  have g_Loose := e_Loose.at_
  have k_Loose := e_Loose.kC
  have g_Busy := e_Busy.at_
  have k_Busy := e_Busy.kC
  have g_TooManyEdits := e_TooManyEdits.at_
  have k_TooManyEdits := e_TooManyEdits.kC
  have g_NothingToUndo := e_NothingToUndo.at_
  have k_NothingToUndo := e_NothingToUndo.kC
  have g_NothingToRedo := e_NothingToRedo.at_
  have k_NothingToRedo := e_NothingToRedo.kC
  have g_BadEdits := e_BadEdits.at_
  have k_BadEdits := e_BadEdits.kC
  have g_BadEdit := e_BadEdit.at_
  have k_BadEdit := e_BadEdit.kC
  have g_Rejected := e_Rejected.at_
  have k_Rejected := e_Rejected.kC
  have g_ReadError := e_ReadError.at_
  have k_ReadError := e_ReadError.kC
  have g_NoPlace := e_NoPlace.at_
  have k_NoPlace := e_NoPlace.kC
  have g_NoVersion := e_NoVersion.at_
  have k_NoVersion := e_NoVersion.kC
  refine D.has sc_law_kinds_right (fun vs H Q E h => ?_) (fun f cdv A outer s H vs Q E hr h => ?_)
  · obtain ⟨v, rfl, _⟩ := h
    rfl
  obtain ⟨v, rfl, k⟩ := h
  refine ⟨_, (pss_cons (ps_set (i := 1) sc_law_kinds_right.nd rfl (Or.inl rfl) (pe_lst (pa_cons (pe_newE GBadText (hr.mono (by omega)) (by rfl) (pa_cons (pv 0) pa_nil)) (pa_cons (pe_newE GBadProgram (hr.mono (by omega)) (by rfl) (pa_cons (pv 0) pa_nil)) (pa_cons (pe_newE GBadFix (hr.mono (by omega)) (by rfl) (pa_cons (pv 0) pa_nil)) (pa_cons (pe_newE GBadNumber (hr.mono (by omega)) (by rfl) (pa_cons (pv 0) pa_nil)) (pa_cons (pe_newE GBadReadings (hr.mono (by omega)) (by rfl) (pa_cons (pv 0) pa_nil)) (pa_cons (pe_newE GBadLength (hr.mono (by omega)) (by rfl) (pa_cons (pv 0) pa_nil)) (pa_cons (pe_newE GBadVectors (hr.mono (by omega)) (by rfl) (pa_cons (pv 0) pa_nil)) pa_nil)))))))))
      (pss_cons (ps_set (i := 1) sc_law_kinds_right.nd rfl (Or.inl rfl) (pe_op op_cat (pv 1) (pe_lst (pa_cons (pe_newE GBadVector (hr.mono (by omega)) (by rfl) (pa_cons (pv 0) pa_nil)) (pa_cons (pe_newE GOtherLength (hr.mono (by omega)) (by rfl) (pa_cons (pv 0) pa_nil)) (pa_cons (pe_newE GNoReader (hr.mono (by omega)) (by rfl) (pa_cons (pv 0) pa_nil)) (pa_cons (pe_newE GIsHeld (hr.mono (by omega)) (by rfl) (pa_cons (pv 0) pa_nil)) (pa_cons (pe_newE GNotHeld (hr.mono (by omega)) (by rfl) (pa_cons (pv 0) pa_nil)) (pa_cons (pe_newE GLoose (hr.mono (by omega)) (by rfl) (pa_cons (pv 0) (pa_cons (pv 0) pa_nil))) (pa_cons (pe_exc0 F.excBase_ValueError q_Busy g_Busy k_Busy (by rfl)) pa_nil))))))))))
      (pss_cons (ps_set (i := 1) sc_law_kinds_right.nd rfl (Or.inl rfl) (pe_op op_cat (pv 1) (pe_lst (pa_cons (pe_exc0 F.excBase_ValueError q_TooManyEdits g_TooManyEdits k_TooManyEdits (by rfl)) (pa_cons (pe_exc0 F.excBase_ValueError q_NothingToUndo g_NothingToUndo k_NothingToUndo (by rfl)) (pa_cons (pe_exc0 F.excBase_ValueError q_NothingToRedo g_NothingToRedo k_NothingToRedo (by rfl)) (pa_cons (pe_exc0 F.excBase_ValueError q_BadEdits g_BadEdits k_BadEdits (by rfl)) (pa_cons (pe_newE GBadEdit (hr.mono (by omega)) (by rfl) (pa_cons (pv 0) pa_nil)) (pa_cons (pe_newE GRejected (hr.mono (by omega)) (by rfl) (pa_cons (pv 0) pa_nil)) pa_nil)))))))))
      (pss_cons (ps_for PassesOwn.never rfl (pi_range1 (by rfl) B.range (pa_cons pe_int pa_nil)) (pg_name (i := 2) sc_law_kinds_right.nd rfl (Or.inr rfl))
        (pss_cons (ps_if (PW.pt (pw_or (pt_cmpR (op_neD hr.h64) (pe_f G_law_kinds (hr.mono (by omega)) (by rfl) pass0 (pa_cons (pe_ix ix_list (pv 1) (pv 2) (fun _ _ => rfl)) pa_nil)) (pe_lc (own := [("_law_j", 3)]) (g := gName 3) (by rfl) sc_law_kinds_right.nd (pi_range1 (by rfl) B.range (pa_cons pe_int pa_nil)) (blkOk_by (own := [("_law_j", 3)]) (N := N_law_kinds_right) (sc := defScope s_law_kinds_right) (by decide +kernel)) (fun _ _ _ _ _ => (pg_name (i := 3) sc_law_kinds_right.nd rfl (Or.inl rfl))) (fun _ _ _ _ _ => pts_nil) (fun _ _ _ _ _ => (pe_cmpR op_eq (pv 3) (pv 2) (nomark _)))) (nomark _)) (pw_or1 (pt_val (pe_callB call_isG (by rfl) B.isinstance (by decide +kernel) (pa_cons (pe_ix ix_list (pv 1) (pv 2) (fun _ _ => rfl)) (pa_cons (pe_ty (T := "LookupError") (by rfl) hLE (by decide +kernel)) pa_nil))))))) (pss_one (ps_ret pe_bl))
        pss_nil)
      (pss_one (ps_if (PW.pt (pw_or (pt_not (pt_val (pe_callB call_isG (by rfl) B.isinstance (by decide +kernel) (pa_cons (pe_ix ix_list (pv 1) (pv 2) (fun _ _ => rfl)) (pa_cons (pe_gref (by rfl) g_ReadError) pa_nil))))) (pw_or1 (pt_not (pt_val (pe_callB call_isG (by rfl) B.isinstance (by decide +kernel) (pa_cons (pe_ix ix_list (pv 1) (pv 2) (fun _ _ => rfl)) (pa_cons (pe_ty (T := "ValueError") (by rfl) hVE (by decide +kernel)) pa_nil)))))))) (pss_one (ps_ret pe_bl))
        pss_nil))))
      (pss_cons (ps_for PassesOwn.never rfl (pi_list (pe_lst (pa_cons (pe_newE GNoPlace (hr.mono (by omega)) (by rfl) (pa_cons (pv 0) pa_nil)) (pa_cons (pe_newE GNoVersion (hr.mono (by omega)) (by rfl) (pa_cons (pv 0) pa_nil)) (pa_cons (pe_exc0 F.excBase_ValueError q_ReadError g_ReadError k_ReadError (by rfl)) pa_nil))))) (pg_name (i := 4) sc_law_kinds_right.nd rfl (Or.inl rfl))
        (pss_one (ps_if (pt_cmpR op_in_seq pe_bl (pe_f G_law_kinds (hr.mono (by omega)) (by rfl) pass0 (pa_cons (pv 4) pa_nil)) (by rfl)) (pss_one (ps_ret pe_bl))
        pss_nil)))
      (pss_cons (ps_for PassesOwn.never rfl (pi_list (pe_lst (pa_cons (pe_newE GNoPlace (hr.mono (by omega)) (by rfl) (pa_cons (pv 0) pa_nil)) (pa_cons (pe_newE GNoVersion (hr.mono (by omega)) (by rfl) (pa_cons (pv 0) pa_nil)) pa_nil)))) (pg_name (i := 4) sc_law_kinds_right.nd rfl (Or.inl rfl))
        (pss_one (ps_if (PW.pt (pw_or (pt_not (pt_val (pe_callB call_isG (by rfl) B.isinstance (by decide +kernel) (pa_cons (pv 4) (pa_cons (pe_ty (T := "LookupError") (by rfl) hLE (by decide +kernel)) pa_nil))))) (pw_or (pt_val (pe_callB call_isG (by rfl) B.isinstance (by decide +kernel) (pa_cons (pv 4) (pa_cons (pe_ty (T := "ValueError") (by rfl) hVE (by decide +kernel)) pa_nil)))) (pw_or1 (pt_val (pe_callB call_isG (by rfl) B.isinstance (by decide +kernel) (pa_cons (pv 4) (pa_cons (pe_gref (by rfl) g_ReadError) pa_nil)))))))) (pss_one (ps_ret pe_bl))
        pss_nil)))
      (pss_cons (ps_if (PW.pt (pw_or (pt_val (pe_callB call_isG (by rfl) B.isinstance (by decide +kernel) (pa_cons (pe_exc0 F.excBase_ValueError q_ReadError g_ReadError k_ReadError (by rfl)) (pa_cons (pe_ty (T := "LookupError") (by rfl) hLE (by decide +kernel)) pa_nil)))) (pw_or1 (pt_not (pt_val (pe_callB call_isG (by rfl) B.isinstance (by decide +kernel) (pa_cons (pe_exc0 F.excBase_ValueError q_ReadError g_ReadError k_ReadError (by rfl)) (pa_cons (pe_ty (T := "ValueError") (by rfl) hVE (by decide +kernel)) pa_nil)))))))) (pss_one (ps_ret pe_bl))
        pss_nil)
      (pss_one (ps_ret (pe_and (pe_not (pe_callB call_isG (by rfl) B.isinstance (by decide +kernel) (pa_cons (pe_newE GNoPlace (hr.mono (by omega)) (by rfl) (pa_cons (pv 0) pa_nil)) (pa_cons (pe_gref (by rfl) g_NoVersion) pa_nil)))) (pe_one (pe_not (pe_callB call_isG (by rfl) B.isinstance (by decide +kernel) (pa_cons (pe_newE GNoVersion (hr.mono (by omega)) (by rfl) (pa_cons (pv 0) pa_nil)) (pa_cons (pe_gref (by rfl) g_NoPlace) pa_nil))))))))))))))), ?_⟩
  have KKH : Kp [] H H := Kp.nil
  walk_at "rd"
  with_reducible refine r_newE ?_
  walk_at "rd"
  refine r_new1 (K := K) fun Xa0 z_BadText kXa0 w_BadText => ?_
  have eXa0 : Er K Xa0 z_BadText C0 := .inl ⟨_, w_BadText⟩
  have KKXa0 := KKH.trans kXa0
  walk_at "rd"
  with_reducible refine r_newE ?_
  walk_at "rd"
  refine r_new1 (K := K) fun Xa1 z_BadProgram kXa1 w_BadProgram => ?_
  have eXa1 : Er K Xa1 z_BadProgram C1 := .inl ⟨_, w_BadProgram⟩
  have eXa0 := eXa0.kp kXa1
  have KKXa1 := KKXa0.trans kXa1
  walk_at "rd"
  with_reducible refine r_newE ?_
  walk_at "rd"
  refine r_new1 (K := K) fun Xa2 z_BadFix kXa2 w_BadFix => ?_
  have eXa2 : Er K Xa2 z_BadFix C2 := .inl ⟨_, w_BadFix⟩
  have eXa0 := eXa0.kp kXa2
  have eXa1 := eXa1.kp kXa2
  have KKXa2 := KKXa1.trans kXa2
  walk_at "rd"
  with_reducible refine r_newE ?_
  walk_at "rd"
  refine r_new1 (K := K) fun Xa3 z_BadNumber kXa3 w_BadNumber => ?_
  have eXa3 : Er K Xa3 z_BadNumber C3 := .inl ⟨_, w_BadNumber⟩
  have eXa0 := eXa0.kp kXa3
  have eXa1 := eXa1.kp kXa3
  have eXa2 := eXa2.kp kXa3
  have KKXa3 := KKXa2.trans kXa3
  walk_at "rd"
  with_reducible refine r_newE ?_
  walk_at "rd"
  refine r_new1 (K := K) fun Xa4 z_BadReadings kXa4 w_BadReadings => ?_
  have eXa4 : Er K Xa4 z_BadReadings C4 := .inl ⟨_, w_BadReadings⟩
  have eXa0 := eXa0.kp kXa4
  have eXa1 := eXa1.kp kXa4
  have eXa2 := eXa2.kp kXa4
  have eXa3 := eXa3.kp kXa4
  have KKXa4 := KKXa3.trans kXa4
  walk_at "rd"
  with_reducible refine r_newE ?_
  walk_at "rd"
  refine r_new1 (K := K) fun Xa5 z_BadLength kXa5 w_BadLength => ?_
  have eXa5 : Er K Xa5 z_BadLength C5 := .inl ⟨_, w_BadLength⟩
  have eXa0 := eXa0.kp kXa5
  have eXa1 := eXa1.kp kXa5
  have eXa2 := eXa2.kp kXa5
  have eXa3 := eXa3.kp kXa5
  have eXa4 := eXa4.kp kXa5
  have KKXa5 := KKXa4.trans kXa5
  walk_at "rd"
  with_reducible refine r_newE ?_
  walk_at "rd"
  refine r_new1 (K := K) fun Xa6 z_BadVectors kXa6 w_BadVectors => ?_
  have eXa6 : Er K Xa6 z_BadVectors C6 := .inl ⟨_, w_BadVectors⟩
  have eXa0 := eXa0.kp kXa6
  have eXa1 := eXa1.kp kXa6
  have eXa2 := eXa2.kp kXa6
  have eXa3 := eXa3.kp kXa6
  have eXa4 := eXa4.kp kXa6
  have eXa5 := eXa5.kp kXa6
  have KKXa6 := KKXa5.trans kXa6
  walk_at "rd"
  refine ⟨by simp [sizeLine_eq], fun lXa hlXa => ?_⟩
  have klXa : Kp [] Xa6 (upd Xa6 lXa (.lst [z_BadText, z_BadProgram, z_BadFix, z_BadNumber, z_BadReadings, z_BadLength, z_BadVectors])) := Kp.nil.new hlXa
  have mlXa : upd Xa6 lXa (.lst [z_BadText, z_BadProgram, z_BadFix, z_BadNumber, z_BadReadings, z_BadLength, z_BadVectors]) lXa = some (.lst [z_BadText, z_BadProgram, z_BadFix, z_BadNumber, z_BadReadings, z_BadLength, z_BadVectors]) := upd_same
  have PXa : Paired (fun z C => Er K (upd Xa6 lXa (.lst [z_BadText, z_BadProgram, z_BadFix, z_BadNumber, z_BadReadings, z_BadLength, z_BadVectors])) z C) [z_BadText, z_BadProgram, z_BadFix, z_BadNumber, z_BadReadings, z_BadLength, z_BadVectors] [C0, C1, C2, C3, C4, C5, C6] := (.cons (eXa0.kp klXa) (.cons (eXa1.kp klXa) (.cons (eXa2.kp klXa) (.cons (eXa3.kp klXa) (.cons (eXa4.kp klXa) (.cons (eXa5.kp klXa) (.cons (eXa6.kp klXa) .nil)))))))
  have KKLXa := KKXa6.trans klXa
  generalize upd Xa6 lXa (.lst [z_BadText, z_BadProgram, z_BadFix, z_BadNumber, z_BadReadings, z_BadLength, z_BadVectors]) = LXa at klXa mlXa PXa KKLXa ⊢
  have S := PXa
  have m_old := mlXa
  have T := KKLXa
  clear PXa KKLXa klXa hlXa
  have KKLXa : Kp [] LXa LXa := Kp.nil
  walk_at "rd"
  with_reducible refine r_newE ?_
  walk_at "rd"
  refine r_new1 (K := K) fun Xb0 z_BadVector kXb0 w_BadVector => ?_
  have eXb0 : Er K Xb0 z_BadVector C7 := .inl ⟨_, w_BadVector⟩
  have KKXb0 := KKLXa.trans kXb0
  walk_at "rd"
  with_reducible refine r_newE ?_
  walk_at "rd"
  refine r_new1 (K := K) fun Xb1 z_OtherLength kXb1 w_OtherLength => ?_
  have eXb1 : Er K Xb1 z_OtherLength C8 := .inl ⟨_, w_OtherLength⟩
  have eXb0 := eXb0.kp kXb1
  have KKXb1 := KKXb0.trans kXb1
  walk_at "rd"
  with_reducible refine r_newE ?_
  walk_at "rd"
  refine r_new1 (K := K) fun Xb2 z_NoReader kXb2 w_NoReader => ?_
  have eXb2 : Er K Xb2 z_NoReader C9 := .inl ⟨_, w_NoReader⟩
  have eXb0 := eXb0.kp kXb2
  have eXb1 := eXb1.kp kXb2
  have KKXb2 := KKXb1.trans kXb2
  walk_at "rd"
  with_reducible refine r_newE ?_
  walk_at "rd"
  refine r_new1 (K := K) fun Xb3 z_IsHeld kXb3 w_IsHeld => ?_
  have eXb3 : Er K Xb3 z_IsHeld C10 := .inl ⟨_, w_IsHeld⟩
  have eXb0 := eXb0.kp kXb3
  have eXb1 := eXb1.kp kXb3
  have eXb2 := eXb2.kp kXb3
  have KKXb3 := KKXb2.trans kXb3
  walk_at "rd"
  with_reducible refine r_newE ?_
  walk_at "rd"
  refine r_new1 (K := K) fun Xb4 z_NotHeld kXb4 w_NotHeld => ?_
  have eXb4 : Er K Xb4 z_NotHeld C11 := .inl ⟨_, w_NotHeld⟩
  have eXb0 := eXb0.kp kXb4
  have eXb1 := eXb1.kp kXb4
  have eXb2 := eXb2.kp kXb4
  have eXb3 := eXb3.kp kXb4
  have KKXb4 := KKXb3.trans kXb4
  walk_at "rd"
  with_reducible refine r_newE ?_
  walk_at "rd"
  refine r_new2 (K := K) fun Xb5 z_Loose kXb5 w_Loose => ?_
  have eXb5 : Er K Xb5 z_Loose C12 := .inl ⟨_, w_Loose⟩
  have eXb0 := eXb0.kp kXb5
  have eXb1 := eXb1.kp kXb5
  have eXb2 := eXb2.kp kXb5
  have eXb3 := eXb3.kp kXb5
  have eXb4 := eXb4.kp kXb5
  have KKXb5 := KKXb4.trans kXb5
  walk_at "rd"
  intro a_Busy ha_Busy
  have kXb6 : Kp [] Xb5 (upd Xb5 a_Busy (ExO (.ref C13) a_Busy)) := Kp.nil.new ha_Busy
  have eXb6 : Er K (upd Xb5 a_Busy (ExO (.ref C13) a_Busy)) (.ref a_Busy) C13 := .inr ⟨_, rfl, upd_same⟩
  generalize upd Xb5 a_Busy (ExO (.ref C13) a_Busy) = Xb6 at kXb6 eXb6 ⊢
  have eXb0 := eXb0.kp kXb6
  have eXb1 := eXb1.kp kXb6
  have eXb2 := eXb2.kp kXb6
  have eXb3 := eXb3.kp kXb6
  have eXb4 := eXb4.kp kXb6
  have eXb5 := eXb5.kp kXb6
  have KKXb6 := KKXb5.trans kXb6
  walk_at "rd"
  refine ⟨by simp [sizeLine_eq], fun lXb hlXb => ?_⟩
  have klXb : Kp [] Xb6 (upd Xb6 lXb (.lst [z_BadVector, z_OtherLength, z_NoReader, z_IsHeld, z_NotHeld, z_Loose, V.ref a_Busy])) := Kp.nil.new hlXb
  have mlXb : upd Xb6 lXb (.lst [z_BadVector, z_OtherLength, z_NoReader, z_IsHeld, z_NotHeld, z_Loose, V.ref a_Busy]) lXb = some (.lst [z_BadVector, z_OtherLength, z_NoReader, z_IsHeld, z_NotHeld, z_Loose, V.ref a_Busy]) := upd_same
  have PXb : Paired (fun z C => Er K (upd Xb6 lXb (.lst [z_BadVector, z_OtherLength, z_NoReader, z_IsHeld, z_NotHeld, z_Loose, V.ref a_Busy])) z C) [z_BadVector, z_OtherLength, z_NoReader, z_IsHeld, z_NotHeld, z_Loose, V.ref a_Busy] [C7, C8, C9, C10, C11, C12, C13] := (.cons (eXb0.kp klXb) (.cons (eXb1.kp klXb) (.cons (eXb2.kp klXb) (.cons (eXb3.kp klXb) (.cons (eXb4.kp klXb) (.cons (eXb5.kp klXb) (.cons (eXb6.kp klXb) .nil)))))))
  have KKLXb := KKXb6.trans klXb
  generalize upd Xb6 lXb (.lst [z_BadVector, z_OtherLength, z_NoReader, z_IsHeld, z_NotHeld, z_Loose, V.ref a_Busy]) = LXb at klXb mlXb PXb KKLXb ⊢
  have S := L2.Paired.mapP S fun _ _ q => q.kp KKLXb
  have m_old := KKLXb.get m_old (by simp)
  have T := T.trans KKLXb
  refine r_cat m_old mlXb (by simp [sizeLine_eq]) fun rXb hrXb => ?_
  have krXb : Kp [] LXb (upd LXb rXb (.lst ([z_BadText, z_BadProgram, z_BadFix, z_BadNumber, z_BadReadings, z_BadLength, z_BadVectors] ++ [z_BadVector, z_OtherLength, z_NoReader, z_IsHeld, z_NotHeld, z_Loose, V.ref a_Busy]))) := Kp.nil.new hrXb
  have m_old : upd LXb rXb (.lst ([z_BadText, z_BadProgram, z_BadFix, z_BadNumber, z_BadReadings, z_BadLength, z_BadVectors] ++ [z_BadVector, z_OtherLength, z_NoReader, z_IsHeld, z_NotHeld, z_Loose, V.ref a_Busy])) rXb = some (.lst [z_BadText, z_BadProgram, z_BadFix, z_BadNumber, z_BadReadings, z_BadLength, z_BadVectors, z_BadVector, z_OtherLength, z_NoReader, z_IsHeld, z_NotHeld, z_Loose, V.ref a_Busy]) := upd_same
  have S : Paired (fun z C => Er K (upd LXb rXb (.lst ([z_BadText, z_BadProgram, z_BadFix, z_BadNumber, z_BadReadings, z_BadLength, z_BadVectors] ++ [z_BadVector, z_OtherLength, z_NoReader, z_IsHeld, z_NotHeld, z_Loose, V.ref a_Busy]))) z C) [z_BadText, z_BadProgram, z_BadFix, z_BadNumber, z_BadReadings, z_BadLength, z_BadVectors, z_BadVector, z_OtherLength, z_NoReader, z_IsHeld, z_NotHeld, z_Loose, V.ref a_Busy] [C0, C1, C2, C3, C4, C5, C6, C7, C8, C9, C10, C11, C12, C13] := L2.Paired.mapP (S.app PXb) fun _ _ q => q.kp krXb
  have T := T.trans krXb
  generalize upd LXb rXb (.lst ([z_BadText, z_BadProgram, z_BadFix, z_BadNumber, z_BadReadings, z_BadLength, z_BadVectors] ++ [z_BadVector, z_OtherLength, z_NoReader, z_IsHeld, z_NotHeld, z_Loose, V.ref a_Busy])) = RXb at krXb m_old S T ⊢
  clear PXb KKLXb klXb hlXb
  have KKRXb : Kp [] RXb RXb := Kp.nil
  walk_at "rd"
  intro a_TooManyEdits ha_TooManyEdits
  have kXc0 : Kp [] RXb (upd RXb a_TooManyEdits (ExO (.ref C14) a_TooManyEdits)) := Kp.nil.new ha_TooManyEdits
  have eXc0 : Er K (upd RXb a_TooManyEdits (ExO (.ref C14) a_TooManyEdits)) (.ref a_TooManyEdits) C14 := .inr ⟨_, rfl, upd_same⟩
  generalize upd RXb a_TooManyEdits (ExO (.ref C14) a_TooManyEdits) = Xc0 at kXc0 eXc0 ⊢
  have KKXc0 := KKRXb.trans kXc0
  walk_at "rd"
  intro a_NothingToUndo ha_NothingToUndo
  have kXc1 : Kp [] Xc0 (upd Xc0 a_NothingToUndo (ExO (.ref C15) a_NothingToUndo)) := Kp.nil.new ha_NothingToUndo
  have eXc1 : Er K (upd Xc0 a_NothingToUndo (ExO (.ref C15) a_NothingToUndo)) (.ref a_NothingToUndo) C15 := .inr ⟨_, rfl, upd_same⟩
  generalize upd Xc0 a_NothingToUndo (ExO (.ref C15) a_NothingToUndo) = Xc1 at kXc1 eXc1 ⊢
  have eXc0 := eXc0.kp kXc1
  have KKXc1 := KKXc0.trans kXc1
  walk_at "rd"
  intro a_NothingToRedo ha_NothingToRedo
  have kXc2 : Kp [] Xc1 (upd Xc1 a_NothingToRedo (ExO (.ref C16) a_NothingToRedo)) := Kp.nil.new ha_NothingToRedo
  have eXc2 : Er K (upd Xc1 a_NothingToRedo (ExO (.ref C16) a_NothingToRedo)) (.ref a_NothingToRedo) C16 := .inr ⟨_, rfl, upd_same⟩
  generalize upd Xc1 a_NothingToRedo (ExO (.ref C16) a_NothingToRedo) = Xc2 at kXc2 eXc2 ⊢
  have eXc0 := eXc0.kp kXc2
  have eXc1 := eXc1.kp kXc2
  have KKXc2 := KKXc1.trans kXc2
  walk_at "rd"
  intro a_BadEdits ha_BadEdits
  have kXc3 : Kp [] Xc2 (upd Xc2 a_BadEdits (ExO (.ref C17) a_BadEdits)) := Kp.nil.new ha_BadEdits
  have eXc3 : Er K (upd Xc2 a_BadEdits (ExO (.ref C17) a_BadEdits)) (.ref a_BadEdits) C17 := .inr ⟨_, rfl, upd_same⟩
  generalize upd Xc2 a_BadEdits (ExO (.ref C17) a_BadEdits) = Xc3 at kXc3 eXc3 ⊢
  have eXc0 := eXc0.kp kXc3
  have eXc1 := eXc1.kp kXc3
  have eXc2 := eXc2.kp kXc3
  have KKXc3 := KKXc2.trans kXc3
  walk_at "rd"
  with_reducible refine r_newE ?_
  walk_at "rd"
  refine r_new1 (K := K) fun Xc4 z_BadEdit kXc4 w_BadEdit => ?_
  have eXc4 : Er K Xc4 z_BadEdit C18 := .inl ⟨_, w_BadEdit⟩
  have eXc0 := eXc0.kp kXc4
  have eXc1 := eXc1.kp kXc4
  have eXc2 := eXc2.kp kXc4
  have eXc3 := eXc3.kp kXc4
  have KKXc4 := KKXc3.trans kXc4
  walk_at "rd"
  with_reducible refine r_newE ?_
  walk_at "rd"
  refine r_new1 (K := K) fun Xc5 z_Rejected kXc5 w_Rejected => ?_
  have eXc5 : Er K Xc5 z_Rejected C19 := .inl ⟨_, w_Rejected⟩
  have eXc0 := eXc0.kp kXc5
  have eXc1 := eXc1.kp kXc5
  have eXc2 := eXc2.kp kXc5
  have eXc3 := eXc3.kp kXc5
  have eXc4 := eXc4.kp kXc5
  have KKXc5 := KKXc4.trans kXc5
  walk_at "rd"
  refine ⟨by simp [sizeLine_eq], fun lXc hlXc => ?_⟩
  have klXc : Kp [] Xc5 (upd Xc5 lXc (.lst [V.ref a_TooManyEdits, V.ref a_NothingToUndo, V.ref a_NothingToRedo, V.ref a_BadEdits, z_BadEdit, z_Rejected])) := Kp.nil.new hlXc
  have mlXc : upd Xc5 lXc (.lst [V.ref a_TooManyEdits, V.ref a_NothingToUndo, V.ref a_NothingToRedo, V.ref a_BadEdits, z_BadEdit, z_Rejected]) lXc = some (.lst [V.ref a_TooManyEdits, V.ref a_NothingToUndo, V.ref a_NothingToRedo, V.ref a_BadEdits, z_BadEdit, z_Rejected]) := upd_same
  have PXc : Paired (fun z C => Er K (upd Xc5 lXc (.lst [V.ref a_TooManyEdits, V.ref a_NothingToUndo, V.ref a_NothingToRedo, V.ref a_BadEdits, z_BadEdit, z_Rejected])) z C) [V.ref a_TooManyEdits, V.ref a_NothingToUndo, V.ref a_NothingToRedo, V.ref a_BadEdits, z_BadEdit, z_Rejected] [C14, C15, C16, C17, C18, C19] := (.cons (eXc0.kp klXc) (.cons (eXc1.kp klXc) (.cons (eXc2.kp klXc) (.cons (eXc3.kp klXc) (.cons (eXc4.kp klXc) (.cons (eXc5.kp klXc) .nil))))))
  have KKLXc := KKXc5.trans klXc
  generalize upd Xc5 lXc (.lst [V.ref a_TooManyEdits, V.ref a_NothingToUndo, V.ref a_NothingToRedo, V.ref a_BadEdits, z_BadEdit, z_Rejected]) = LXc at klXc mlXc PXc KKLXc ⊢
  have S := L2.Paired.mapP S fun _ _ q => q.kp KKLXc
  have m_old := KKLXc.get m_old (by simp)
  have T := T.trans KKLXc
  refine r_cat m_old mlXc (by simp [sizeLine_eq]) fun rXc hrXc => ?_
  have krXc : Kp [] LXc (upd LXc rXc (.lst ([z_BadText, z_BadProgram, z_BadFix, z_BadNumber, z_BadReadings, z_BadLength, z_BadVectors, z_BadVector, z_OtherLength, z_NoReader, z_IsHeld, z_NotHeld, z_Loose, V.ref a_Busy] ++ [V.ref a_TooManyEdits, V.ref a_NothingToUndo, V.ref a_NothingToRedo, V.ref a_BadEdits, z_BadEdit, z_Rejected]))) := Kp.nil.new hrXc
  have m_old : upd LXc rXc (.lst ([z_BadText, z_BadProgram, z_BadFix, z_BadNumber, z_BadReadings, z_BadLength, z_BadVectors, z_BadVector, z_OtherLength, z_NoReader, z_IsHeld, z_NotHeld, z_Loose, V.ref a_Busy] ++ [V.ref a_TooManyEdits, V.ref a_NothingToUndo, V.ref a_NothingToRedo, V.ref a_BadEdits, z_BadEdit, z_Rejected])) rXc = some (.lst [z_BadText, z_BadProgram, z_BadFix, z_BadNumber, z_BadReadings, z_BadLength, z_BadVectors, z_BadVector, z_OtherLength, z_NoReader, z_IsHeld, z_NotHeld, z_Loose, V.ref a_Busy, V.ref a_TooManyEdits, V.ref a_NothingToUndo, V.ref a_NothingToRedo, V.ref a_BadEdits, z_BadEdit, z_Rejected]) := upd_same
  have S : Paired (fun z C => Er K (upd LXc rXc (.lst ([z_BadText, z_BadProgram, z_BadFix, z_BadNumber, z_BadReadings, z_BadLength, z_BadVectors, z_BadVector, z_OtherLength, z_NoReader, z_IsHeld, z_NotHeld, z_Loose, V.ref a_Busy] ++ [V.ref a_TooManyEdits, V.ref a_NothingToUndo, V.ref a_NothingToRedo, V.ref a_BadEdits, z_BadEdit, z_Rejected]))) z C) [z_BadText, z_BadProgram, z_BadFix, z_BadNumber, z_BadReadings, z_BadLength, z_BadVectors, z_BadVector, z_OtherLength, z_NoReader, z_IsHeld, z_NotHeld, z_Loose, V.ref a_Busy, V.ref a_TooManyEdits, V.ref a_NothingToUndo, V.ref a_NothingToRedo, V.ref a_BadEdits, z_BadEdit, z_Rejected] [C0, C1, C2, C3, C4, C5, C6, C7, C8, C9, C10, C11, C12, C13, C14, C15, C16, C17, C18, C19] := L2.Paired.mapP (S.app PXc) fun _ _ q => q.kp krXc
  have T := T.trans krXc
  generalize upd LXc rXc (.lst ([z_BadText, z_BadProgram, z_BadFix, z_BadNumber, z_BadReadings, z_BadLength, z_BadVectors, z_BadVector, z_OtherLength, z_NoReader, z_IsHeld, z_NotHeld, z_Loose, V.ref a_Busy] ++ [V.ref a_TooManyEdits, V.ref a_NothingToUndo, V.ref a_NothingToRedo, V.ref a_BadEdits, z_BadEdit, z_Rejected])) = RXc at krXc m_old S T ⊢
  clear PXc KKLXc klXc hlXc
  generalize [z_BadText, z_BadProgram, z_BadFix, z_BadNumber, z_BadReadings, z_BadLength, z_BadVectors, z_BadVector, z_OtherLength, z_NoReader, z_IsHeld, z_NotHeld, z_Loose, V.ref a_Busy, V.ref a_TooManyEdits, V.ref a_NothingToUndo, V.ref a_NothingToRedo, V.ref a_BadEdits, z_BadEdit, z_Rejected] = zs at S m_old
  have hn : [C0, C1, C2, C3, C4, C5, C6, C7, C8, C9, C10, C11, C12, C13, C14, C15, C16, C17, C18, C19].Nodup := (List.nodup_append.mp hnd).2.1
  have hR : CR ∉ [C0, C1, C2, C3, C4, C5, C6, C7, C8, C9, C10, C11, C12, C13, C14, C15, C16, C17, C18, C19] := fun z => (List.nodup_append.mp hnd).2.2 CR (by simp) CR z rfl
  have all : ∀ D ∈ [C0, C1, C2, C3, C4, C5, C6, C7, C8, C9, C10, C11, C12, C13, C14, C15, C16, C17, C18, C19], ∃ x, EFC K mg x D "ValueError.__new__" veT (.ref CR :: veT) := by
    intro D hD
    simp only [List.mem_cons, List.not_mem_nil, or_false] at hD
    rcases hD with rfl | rfl | rfl | rfl | rfl | rfl | rfl | rfl | rfl | rfl | rfl | rfl | rfl | rfl | rfl | rfl | rfl | rfl | rfl | rfl
    · exact ⟨_, e_BadText⟩
    · exact ⟨_, e_BadProgram⟩
    · exact ⟨_, e_BadFix⟩
    · exact ⟨_, e_BadNumber⟩
    · exact ⟨_, e_BadReadings⟩
    · exact ⟨_, e_BadLength⟩
    · exact ⟨_, e_BadVectors⟩
    · exact ⟨_, e_BadVector⟩
    · exact ⟨_, e_OtherLength⟩
    · exact ⟨_, e_NoReader⟩
    · exact ⟨_, e_IsHeld⟩
    · exact ⟨_, e_NotHeld⟩
    · exact ⟨_, e_Loose⟩
    · exact ⟨_, e_Busy⟩
    · exact ⟨_, e_TooManyEdits⟩
    · exact ⟨_, e_NothingToUndo⟩
    · exact ⟨_, e_NothingToRedo⟩
    · exact ⟨_, e_BadEdits⟩
    · exact ⟨_, e_BadEdit⟩
    · exact ⟨_, e_Rejected⟩
  have hPn : ∀ D ∈ [C0, C1, C2, C3, C4, C5, C6, C7, C8, C9, C10, C11, C12, C13, C14, C15, C16, C17, C18, C19], CP ≠ D ∧ CV ≠ D ∧ CR ≠ D := fun D hD => ⟨fun z => (List.nodup_append.mp hnd).2.2 CP (by simp) D hD z, fun z => (List.nodup_append.mp hnd).2.2 CV (by simp) D hD z, fun z => (List.nodup_append.mp hnd).2.2 CR (by simp) D hD z⟩
  have hPV : CR ≠ CP ∧ CR ≠ CV ∧ CP ≠ CV := by
    have z := (List.nodup_append.mp hnd).1
    simp only [List.nodup_cons, List.mem_cons, List.not_mem_nil, or_false, not_or] at z
    exact ⟨z.1.1, z.1.2, z.2.1⟩
  have allP : ∀ D ∈ [C0, C1, C2, C3, C4, C5, C6, C7, C8, C9, C10, C11, C12, C13, C14, C15, C16, C17, C18, C19], PySem.W.kitOne K (.ref CP) (.ref D) = some false ∧ PySem.W.kitOne K (.ref CV) (.ref D) = some false ∧ PySem.W.kitOne K (.ref CR) (.ref D) = some false := by
    intro D hD
    obtain ⟨xd, eD⟩ := all D hD
    obtain ⟨n1, n2, n3⟩ := hPn D hD
    exact ⟨(e_NoPlace.one eD).trans (congrArg some (offL n1)), (e_NoVersion.one eD).trans (congrArg some (offL n2)), (e_ReadError.one eD).trans (congrArg some (offV n3))⟩
  generalize hCs : [C0, C1, C2, C3, C4, C5, C6, C7, C8, C9, C10, C11, C12, C13, C14, C15, C16, C17, C18, C19] = Cs at S hn hR all allP G_law_kinds
  have hl : Cs.length = 20 := by rw [← hCs]; rfl
  clear hCs hnd
  have zl : zs.length = 20 := by rw [S.length, hl]
  walk_at "rd"
  refine r_ForR (fun i σ H' => ∃ (y2 y3 y4 : Option V), σ = [some v, some (.ref rXc), y2, y3, y4] ∧ Kp [] RXc H') (by omega) (by omega) ⟨_, _, _, rfl, Kp.nil⟩ ?_ ?_
  · rintro i σ H1 hi ⟨y2, y3, y4, rfl, k1⟩
    have hi20 : i < 20 := hi
    obtain ⟨D, hD⟩ : ∃ D, Cs[i]? = some D := ⟨Cs[i], List.getElem?_eq_getElem (by omega)⟩
    have hz : zs[i]? = some zs[i] := List.getElem?_eq_getElem (by omega)
    obtain ⟨D', hD', hE⟩ := L2.paired_get S hz
    obtain rfl : D' = D := Option.some.inj (hD'.symm.trans hD)
    obtain ⟨xn, eD⟩ := all D' (List.mem_of_getElem? hD)
    have hm1 := k1.get m_old (by simp)
    have hE1 := hE.kp k1
    have ai : atI zs i = some zs[i] := atI_nat hz
    walk_at "rd"
    refine ⟨zs[i], D', isK CR D', rfl, hE1, eD.exc ob (by decide +kernel) (by decide +kernel), fun C hC => ?_, fun H2 p2 k2 hp2 e2 => ?_⟩
    · obtain ⟨xc, eC⟩ := all C hC
      exact eD.one eC
    rw [isK_row hn hR hl hD] at e2
    walk_at "rd"
    refine r_LcR (by omega) (by omega) fun p3 hp3 => ⟨fun l H' => Kp [] H2 H' ∧ H' p3 = some (.lst ((List.range l).map fun j => V.bl (decide (j = i)))), ⟨Kp.nil.new hp3, upd_same⟩, ?_, ?_⟩
    · rintro l H3 hl3 ⟨k3, e3⟩
      have hl20 : l < 20 := hl3
      walk_at "rd"
      refine r_LcEnd e3 (by rw [List.length_map, List.length_range, sizeLine_eq]; omega) ⟨k3.own hp3, ?_⟩
      rw [upd_same, List.range_succ, List.map_append]
      have ed : decide (V.int (l : Int) = V.int (i : Int)) = decide (l = i) := decide_eq_decide.mpr ⟨fun z => by injection z with z; omega, fun z => by rw [z]⟩
      rw [ed]
      rfl
    · rintro H3 ⟨k3, e3⟩
      have e23 := k3.get e2 (by simp)
      have d2 : Dp K H3 (.ref p2) (.list (bk i)) := bk_dp e23
      have d3 : Dp K H3 (.ref p3) (.list (bk i)) := bk_dp e3
      refine r_neD d2 d3 (bk_ok i hi20).2 (bk_ok i hi20).2 ?_
      rw [(bk_ok i hi20).1]
      have k13 := k2.trans k3
      have hm3 := k13.get hm1 (by simp)
      have ty3 := (hE1.kp k13).ty (eD.exc ob (by decide +kernel) (by decide +kernel))
      clear d2 d3 e2 e3 e23 hp2 hp3
      walk_at "rd"
      refine r_isG (b := false) (.ty _) ty3 ((eD.oneT (by decide +kernel)).trans (congrArg some (by decide +kernel))) ?_
      walk_at "rd"
      refine r_isG (b := true) (.own _) ty3 ((eD.one e_ReadError).trans (congrArg some (by simp))) ?_
      walk_at "rd"
      refine r_isG (b := true) (.ty _) ty3 ((eD.oneT (by decide +kernel)).trans (congrArg some (by decide +kernel))) ?_
      walk_at "rd"
      exact ⟨_, _, _, rfl, k1.trans k13⟩
  · rintro σ H1 ⟨y2, y3, y4, rfl, k1⟩
    have T1 := T.trans k1
    clear S m_old k1 T all
    have KKH1 : Kp [] H1 H1 := Kp.nil
    walk_at "rd"
    with_reducible refine r_newE ?_
    walk_at "rd"
    refine r_new1 (K := K) fun Xd0 z_NoPlace kXd0 w_NoPlace => ?_
    have eXd0 : Er K Xd0 z_NoPlace CP := .inl ⟨_, w_NoPlace⟩
    have KKXd0 := KKH1.trans kXd0
    walk_at "rd"
    with_reducible refine r_newE ?_
    walk_at "rd"
    refine r_new1 (K := K) fun Xd1 z_NoVersion kXd1 w_NoVersion => ?_
    have eXd1 : Er K Xd1 z_NoVersion CV := .inl ⟨_, w_NoVersion⟩
    have eXd0 := eXd0.kp kXd1
    have KKXd1 := KKXd0.trans kXd1
    walk_at "rd"
    intro a_ReadError ha_ReadError
    have kXd2 : Kp [] Xd1 (upd Xd1 a_ReadError (ExO (.ref CR) a_ReadError)) := Kp.nil.new ha_ReadError
    have eXd2 : Er K (upd Xd1 a_ReadError (ExO (.ref CR) a_ReadError)) (.ref a_ReadError) CR := .inr ⟨_, rfl, upd_same⟩
    generalize upd Xd1 a_ReadError (ExO (.ref CR) a_ReadError) = Xd2 at kXd2 eXd2 ⊢
    have eXd0 := eXd0.kp kXd2
    have eXd1 := eXd1.kp kXd2
    have KKXd2 := KKXd1.trans kXd2
    walk_at "rd"
    refine ⟨by simp [sizeLine_eq], fun lXd hlXd => ?_⟩
    have klXd : Kp [] Xd2 (upd Xd2 lXd (.lst [z_NoPlace, z_NoVersion, V.ref a_ReadError])) := Kp.nil.new hlXd
    have mlXd : upd Xd2 lXd (.lst [z_NoPlace, z_NoVersion, V.ref a_ReadError]) lXd = some (.lst [z_NoPlace, z_NoVersion, V.ref a_ReadError]) := upd_same
    have PXd : Paired (fun z C => Er K (upd Xd2 lXd (.lst [z_NoPlace, z_NoVersion, V.ref a_ReadError])) z C) [z_NoPlace, z_NoVersion, V.ref a_ReadError] [CP, CV, CR] := (.cons (eXd0.kp klXd) (.cons (eXd1.kp klXd) (.cons (eXd2.kp klXd) .nil)))
    have KKLXd := KKXd2.trans klXd
    generalize upd Xd2 lXd (.lst [z_NoPlace, z_NoVersion, V.ref a_ReadError]) = LXd at klXd mlXd PXd KKLXd ⊢
    refine r_ForL (SqL.of mlXd) (fun i σ H' => ∃ (y2 y3 y4 : Option V), σ = [some v, some (.ref rXc), y2, y3, y4] ∧ Kp [] LXd H') ⟨_, _, _, rfl, Kp.nil⟩ ?_ ?_ ?_
    · rintro i σ H2 ⟨y2, y3, y4, rfl, k2⟩
      exact SqL.of (k2.get mlXd (by simp))
    · rintro i x σ H2 hx ⟨y2, y3, y4, rfl, k2⟩
      obtain ⟨D, hD, hE⟩ := L2.paired_get PXd hx
      have hE2 := hE.kp k2
      have hD3 : D = CP ∨ D = CV ∨ D = CR := by
        have z := List.mem_of_getElem? hD
        simpa using z
      have hoff : ∀ C ∈ Cs, PySem.W.kitOne K (.ref D) (.ref C) = some false := by
        intro C hC
        obtain ⟨q1, q2, q3⟩ := allP C hC
        rcases hD3 with rfl | rfl | rfl
        · exact q1
        · exact q2
        · exact q3
      have hex : ExcC K D := by
        rcases hD3 with rfl | rfl | rfl
        · exact e_NoPlace.exc ob (by decide +kernel) (by decide +kernel)
        · exact e_NoVersion.exc ob (by decide +kernel) (by decide +kernel)
        · exact e_ReadError.exc ob (by decide +kernel) (by decide +kernel)
      walk_at "rd"
      refine ⟨x, D, fun _ => false, rfl, hE2, hex, hoff, fun H3 p2 k3 hp2 e2 => ?_⟩
      walk_at "rd"
      have hall : (Cs.map fun _ => V.bl false).all flatV = true := List.all_eq_true.mpr fun z hz => by
        obtain ⟨_, _, rfl⟩ := List.mem_map.mp hz
        rfl
      have hany : inV (.bl true) (Cs.map fun _ => V.bl false) = false := List.any_eq_false.mpr fun z hz => by
        obtain ⟨_, _, rfl⟩ := List.mem_map.mp hz
        decide
      refine r_inF (.inl (SqL.of e2)) rfl hall hany ?_
      walk_at "rd"
      exact ⟨_, _, _, rfl, k2.trans k3⟩
    · rintro σ H2 ⟨y2, y3, y4, rfl, k2⟩
      have T2 := (T1.trans KKLXd).trans k2
      clear PXd mlXd k2 KKLXd
      have KKH2 : Kp [] H2 H2 := Kp.nil
      walk_at "rd"
      with_reducible refine r_newE ?_
      walk_at "rd"
      refine r_new1 (K := K) fun Xe0 z_NoPlace kXe0 w_NoPlace => ?_
      have eXe0 : Er K Xe0 z_NoPlace CP := .inl ⟨_, w_NoPlace⟩
      have KKXe0 := KKH2.trans kXe0
      walk_at "rd"
      with_reducible refine r_newE ?_
      walk_at "rd"
      refine r_new1 (K := K) fun Xe1 z_NoVersion kXe1 w_NoVersion => ?_
      have eXe1 : Er K Xe1 z_NoVersion CV := .inl ⟨_, w_NoVersion⟩
      have eXe0 := eXe0.kp kXe1
      have KKXe1 := KKXe0.trans kXe1
      walk_at "rd"
      refine ⟨by simp [sizeLine_eq], fun lXe hlXe => ?_⟩
      have klXe : Kp [] Xe1 (upd Xe1 lXe (.lst [z_NoPlace, z_NoVersion])) := Kp.nil.new hlXe
      have mlXe : upd Xe1 lXe (.lst [z_NoPlace, z_NoVersion]) lXe = some (.lst [z_NoPlace, z_NoVersion]) := upd_same
      have PXe : Paired (fun z C => Er K (upd Xe1 lXe (.lst [z_NoPlace, z_NoVersion])) z C) [z_NoPlace, z_NoVersion] [CP, CV] := (.cons (eXe0.kp klXe) (.cons (eXe1.kp klXe) .nil))
      have KKLXe := KKXe1.trans klXe
      generalize upd Xe1 lXe (.lst [z_NoPlace, z_NoVersion]) = LXe at klXe mlXe PXe KKLXe ⊢
      refine r_ForL (SqL.of mlXe) (fun i σ H' => ∃ (y2 y3 y4 : Option V), σ = [some v, some (.ref rXc), y2, y3, y4] ∧ Kp [] LXe H') ⟨_, _, _, rfl, Kp.nil⟩ ?_ ?_ ?_
      · rintro i σ H3 ⟨y2, y3, y4, rfl, k3⟩
        exact SqL.of (k3.get mlXe (by simp))
      · rintro i x σ H3 hx ⟨y2, y3, y4, rfl, k3⟩
        obtain ⟨D, hD, hE⟩ := L2.paired_get PXe hx
        have hE2 := hE.kp k3
        have hD3 : D = CP ∨ D = CV := by
          have z := List.mem_of_getElem? hD
          simpa using z
        have hex : ExcC K D ∧ PySem.W.kitOne K (.ref D) (.type "LookupError") = some true ∧ PySem.W.kitOne K (.ref D) (.type "ValueError") = some false ∧ PySem.W.kitOne K (.ref D) (.ref CR) = some false := by
          rcases hD3 with rfl | rfl
          · exact ⟨e_NoPlace.exc ob (by decide +kernel) (by decide +kernel), (e_NoPlace.oneT (by decide +kernel)).trans (congrArg some (by decide +kernel)), (e_NoPlace.oneT (by decide +kernel)).trans (congrArg some (by decide +kernel)),
              (e_NoPlace.one e_ReadError).trans (congrArg some (offL (Ne.symm hPV.1)))⟩
          · exact ⟨e_NoVersion.exc ob (by decide +kernel) (by decide +kernel), (e_NoVersion.oneT (by decide +kernel)).trans (congrArg some (by decide +kernel)), (e_NoVersion.oneT (by decide +kernel)).trans (congrArg some (by decide +kernel)),
              (e_NoVersion.one e_ReadError).trans (congrArg some (offL (Ne.symm hPV.2.1)))⟩
        obtain ⟨hx1, hx2, hx3, hx4⟩ := hex
        have ty := hE2.ty hx1
        walk_at "rd"
        refine r_isG (b := true) (.ty _) ty hx2 ?_
        walk_at "rd"
        refine r_isG (b := false) (.ty _) ty hx3 ?_
        walk_at "rd"
        refine r_isG (b := false) (.own _) ty hx4 ?_
        walk_at "rd"
        exact ⟨_, _, _, rfl, k3⟩
      · rintro σ H3 ⟨y2, y3, y4, rfl, k3⟩
        have T3 := (T2.trans KKLXe).trans k3
        clear PXe mlXe k3 KKLXe
        have KKH3 : Kp [] H3 H3 := Kp.nil
        walk_at "rd"
        intro a_ReadError ha_ReadError
        have kXf0 : Kp [] H3 (upd H3 a_ReadError (ExO (.ref CR) a_ReadError)) := Kp.nil.new ha_ReadError
        have eXf0 : Er K (upd H3 a_ReadError (ExO (.ref CR) a_ReadError)) (.ref a_ReadError) CR := .inr ⟨_, rfl, upd_same⟩
        generalize upd H3 a_ReadError (ExO (.ref CR) a_ReadError) = Xf0 at kXf0 eXf0 ⊢
        have KKXf0 := KKH3.trans kXf0
        have tyf := eXf0.ty (e_ReadError.exc ob (by decide +kernel) (by decide +kernel))
        refine r_isG (b := false) (.ty _) tyf ((e_ReadError.oneT (by decide +kernel)).trans (congrArg some (by decide +kernel))) ?_
        have KKXf0' : Kp [] Xf0 Xf0 := Kp.nil
        walk_at "rd"
        intro a_ReadError ha_ReadError
        have kXg0 : Kp [] Xf0 (upd Xf0 a_ReadError (ExO (.ref CR) a_ReadError)) := Kp.nil.new ha_ReadError
        have eXg0 : Er K (upd Xf0 a_ReadError (ExO (.ref CR) a_ReadError)) (.ref a_ReadError) CR := .inr ⟨_, rfl, upd_same⟩
        generalize upd Xf0 a_ReadError (ExO (.ref CR) a_ReadError) = Xg0 at kXg0 eXg0 ⊢
        have KKXg0 := KKXf0.trans kXg0
        have tyg := eXg0.ty (e_ReadError.exc ob (by decide +kernel) (by decide +kernel))
        refine r_isG (b := true) (.ty _) tyg ((e_ReadError.oneT (by decide +kernel)).trans (congrArg some (by decide +kernel))) ?_
        walk_at "rd"
        with_reducible refine r_newE ?_
        walk_at "rd"
        refine r_new1 (K := K) fun Xh0 z_NoPlace kXh0 w_NoPlace => ?_
        have eXh0 : Er K Xh0 z_NoPlace CP := .inl ⟨_, w_NoPlace⟩
        have KKXh0 := KKXg0.trans kXh0
        walk_at "rd"
        have tyh := eXh0.ty (e_NoPlace.exc ob (by decide +kernel) (by decide +kernel))
        refine r_isG (b := false) (.own _) tyh ((e_NoPlace.one e_NoVersion).trans (congrArg some (offL hPV.2.2))) ?_
        walk_at "rd"
        with_reducible refine r_newE ?_
        walk_at "rd"
        refine r_new1 (K := K) fun Xi0 z_NoVersion kXi0 w_NoVersion => ?_
        have eXi0 : Er K Xi0 z_NoVersion CV := .inl ⟨_, w_NoVersion⟩
        have KKXi0 := KKXh0.trans kXi0
        walk_at "rd"
        have tyi := eXi0.ty (e_NoVersion.exc ob (by decide +kernel) (by decide +kernel))
        refine r_isG (b := false) (.own _) tyi ((e_NoVersion.one e_NoPlace).trans (congrArg some (offL (Ne.symm hPV.2.2)))) ?_
        walk_at "rd"
        exact k _ (T3.trans KKXi0)
theorem ok_law_fields_right (D : Df K mg "_law_fields_right" s_law_fields_right P_law_fields_right) (B : Blt mg) (hM : ∃ mm, base.Ns sysModules mm) {CR C0 C1 C2 C3 C4 C5 C6 C7 C8 C9 C10 C11 C12 C18 C19 CP CV : Addr}
    (e_BadText : EFC K mg "BadText" C0 "ValueError.__new__" veT (.ref CR :: veT)) (e_BadProgram : EFC K mg "BadProgram" C1 "ValueError.__new__" veT (.ref CR :: veT)) (e_BadFix : EFC K mg "BadFix" C2 "ValueError.__new__" veT (.ref CR :: veT)) (e_BadNumber : EFC K mg "BadNumber" C3 "ValueError.__new__" veT (.ref CR :: veT)) (e_BadReadings : EFC K mg "BadReadings" C4 "ValueError.__new__" veT (.ref CR :: veT)) (e_BadLength : EFC K mg "BadLength" C5 "ValueError.__new__" veT (.ref CR :: veT)) (e_BadVectors : EFC K mg "BadVectors" C6 "ValueError.__new__" veT (.ref CR :: veT)) (e_BadVector : EFC K mg "BadVector" C7 "ValueError.__new__" veT (.ref CR :: veT)) (e_OtherLength : EFC K mg "OtherLength" C8 "ValueError.__new__" veT (.ref CR :: veT)) (e_NoReader : EFC K mg "NoReader" C9 "ValueError.__new__" veT (.ref CR :: veT)) (e_IsHeld : EFC K mg "IsHeld" C10 "ValueError.__new__" veT (.ref CR :: veT)) (e_NotHeld : EFC K mg "NotHeld" C11 "ValueError.__new__" veT (.ref CR :: veT)) (e_Loose : EFC K mg "Loose" C12 "ValueError.__new__" veT (.ref CR :: veT)) (e_BadEdit : EFC K mg "BadEdit" C18 "ValueError.__new__" veT (.ref CR :: veT)) (e_Rejected : EFC K mg "Rejected" C19 "ValueError.__new__" veT (.ref CR :: veT)) (e_NoPlace : EFC K mg "NoPlace" CP "LookupError.__new__" leT leT) (e_NoVersion : EFC K mg "NoVersion" CV "LookupError.__new__" leT leT)
    (GBadText : HasG P w K mg base "BadText" C0 "ValueError.__new__" "ValueError.__init__" veT ["self", "line"] 1 (spErr C0 "line")) (GBadProgram : HasG P w K mg base "BadProgram" C1 "ValueError.__new__" "ValueError.__init__" veT ["self", "error"] 1 (spErr C1 "error")) (GBadFix : HasG P w K mg base "BadFix" C2 "ValueError.__new__" "ValueError.__init__" veT ["self", "value"] 1 (spErr C2 "value")) (GBadNumber : HasG P w K mg base "BadNumber" C3 "ValueError.__new__" "ValueError.__init__" veT ["self", "number"] 1 (spErr C3 "number")) (GBadReadings : HasG P w K mg base "BadReadings" C4 "ValueError.__new__" "ValueError.__init__" veT ["self", "readings"] 1 (spErr C4 "readings")) (GBadLength : HasG P w K mg base "BadLength" C5 "ValueError.__new__" "ValueError.__init__" veT ["self", "length"] 1 (spErr C5 "length")) (GBadVectors : HasG P w K mg base "BadVectors" C6 "ValueError.__new__" "ValueError.__init__" veT ["self", "index"] 1 (spErr C6 "index")) (GBadVector : HasG P w K mg base "BadVector" C7 "ValueError.__new__" "ValueError.__init__" veT ["self", "vector"] 1 (spErr C7 "vector")) (GOtherLength : HasG P w K mg base "OtherLength" C8 "ValueError.__new__" "ValueError.__init__" veT ["self", "length"] 1 (spErr C8 "length")) (GNoReader : HasG P w K mg base "NoReader" C9 "ValueError.__new__" "ValueError.__init__" veT ["self", "place"] 1 (spErr C9 "place")) (GIsHeld : HasG P w K mg base "IsHeld" C10 "ValueError.__new__" "ValueError.__init__" veT ["self", "place"] 1 (spErr C10 "place")) (GNotHeld : HasG P w K mg base "NotHeld" C11 "ValueError.__new__" "ValueError.__init__" veT ["self", "place"] 1 (spErr C11 "place")) (GLoose : HasG P w K mg base "Loose" C12 "ValueError.__new__" "ValueError.__init__" veT ["self", "number", "index"] 1 (spErr2 C12 "number" "index")) (GBadEdit : HasG P w K mg base "BadEdit" C18 "ValueError.__new__" "ValueError.__init__" veT ["self", "index"] 1 (spErr C18 "index")) (GRejected : HasG P w K mg base "Rejected" C19 "ValueError.__new__" "ValueError.__init__" veT ["self", "index"] 1 (spErr C19 "index")) (GNoPlace : HasG P w K mg base "NoPlace" CP "LookupError.__new__" "LookupError.__init__" leT ["self", "place"] 1 (spErr CP "place")) (GNoVersion : HasG P w K mg base "NoVersion" CV "LookupError.__new__" "LookupError.__init__" leT ["self", "version"] 1 (spErr CV "version"))
    (n_BadText_line : PySem.W.findIn K (.ref C0) "line" = some none) (n_BadProgram_error : PySem.W.findIn K (.ref C1) "error" = some none) (n_BadFix_value : PySem.W.findIn K (.ref C2) "value" = some none) (n_BadNumber_number : PySem.W.findIn K (.ref C3) "number" = some none) (n_BadReadings_readings : PySem.W.findIn K (.ref C4) "readings" = some none) (n_BadLength_length : PySem.W.findIn K (.ref C5) "length" = some none) (n_BadVectors_index : PySem.W.findIn K (.ref C6) "index" = some none) (n_BadVector_vector : PySem.W.findIn K (.ref C7) "vector" = some none) (n_OtherLength_length : PySem.W.findIn K (.ref C8) "length" = some none) (n_NoReader_place : PySem.W.findIn K (.ref C9) "place" = some none) (n_IsHeld_place : PySem.W.findIn K (.ref C10) "place" = some none) (n_NotHeld_place : PySem.W.findIn K (.ref C11) "place" = some none) (n_Loose_number : PySem.W.findIn K (.ref C12) "number" = some none) (n_Loose_index : PySem.W.findIn K (.ref C12) "index" = some none) (n_BadEdit_index : PySem.W.findIn K (.ref C18) "index" = some none) (n_Rejected_index : PySem.W.findIn K (.ref C19) "index" = some none) (n_NoPlace_place : PySem.W.findIn K (.ref CP) "place" = some none) (n_NoVersion_version : PySem.W.findIn K (.ref CV) "version" = some none) :
    Has P w K mg base CX0 "_law_fields_right" P_law_fields_right 3 (spFields K) := by
  refine D.has sc_law_fields_right (fun vs H Q E h => ?_) (fun f cdv A outer s H vs Q E hr h => ?_)
  · obtain ⟨v, u, x, rfl, _⟩ := h
    rfl
  obtain ⟨v, u, x, rfl, hv, hx, k⟩ := h
  refine ⟨_, (pss_cons (ps_set (i := 2) sc_law_fields_right.nd rfl (Or.inl rfl) (pe_lst (pa_cons (pe_exf (pe_newE GBadText (hr.mono (by omega)) (by rfl) (pa_cons (pv 0) pa_nil))) (pa_cons (pe_exf (pe_newE GBadProgram (hr.mono (by omega)) (by rfl) (pa_cons (pv 0) pa_nil))) (pa_cons (pe_exf (pe_newE GBadFix (hr.mono (by omega)) (by rfl) (pa_cons (pv 0) pa_nil))) (pa_cons (pe_exf (pe_newE GBadNumber (hr.mono (by omega)) (by rfl) (pa_cons (pv 0) pa_nil))) (pa_cons (pe_exf (pe_newE GBadReadings (hr.mono (by omega)) (by rfl) (pa_cons (pv 0) pa_nil))) pa_nil)))))))
      (pss_cons (ps_set (i := 2) sc_law_fields_right.nd rfl (Or.inl rfl) (pe_op op_cat (pv 2) (pe_lst (pa_cons (pe_exf (pe_newE GBadLength (hr.mono (by omega)) (by rfl) (pa_cons (pv 0) pa_nil))) (pa_cons (pe_exf (pe_newE GBadVectors (hr.mono (by omega)) (by rfl) (pa_cons (pv 0) pa_nil))) (pa_cons (pe_exf (pe_newE GBadVector (hr.mono (by omega)) (by rfl) (pa_cons (pv 0) pa_nil))) (pa_cons (pe_exf (pe_newE GOtherLength (hr.mono (by omega)) (by rfl) (pa_cons (pv 0) pa_nil))) pa_nil)))))))
      (pss_cons (ps_set (i := 2) sc_law_fields_right.nd rfl (Or.inl rfl) (pe_op op_cat (pv 2) (pe_lst (pa_cons (pe_exf (pe_newE GNoReader (hr.mono (by omega)) (by rfl) (pa_cons (pv 0) pa_nil))) (pa_cons (pe_exf (pe_newE GIsHeld (hr.mono (by omega)) (by rfl) (pa_cons (pv 0) pa_nil))) (pa_cons (pe_exf (pe_newE GNotHeld (hr.mono (by omega)) (by rfl) (pa_cons (pv 0) pa_nil))) (pa_cons (pe_exf (pe_newE GLoose (hr.mono (by omega)) (by rfl) (pa_cons (pv 0) (pa_cons (pv 1) pa_nil)))) (pa_cons (pe_exf (pe_newE GLoose (hr.mono (by omega)) (by rfl) (pa_cons (pv 1) (pa_cons (pv 0) pa_nil)))) pa_nil))))))))
      (pss_cons (ps_set (i := 2) sc_law_fields_right.nd rfl (Or.inl rfl) (pe_op op_cat (pv 2) (pe_lst (pa_cons (pe_exf (pe_newE GBadEdit (hr.mono (by omega)) (by rfl) (pa_cons (pv 0) pa_nil))) (pa_cons (pe_exf (pe_newE GRejected (hr.mono (by omega)) (by rfl) (pa_cons (pv 0) pa_nil))) (pa_cons (pe_exf (pe_newE GNoPlace (hr.mono (by omega)) (by rfl) (pa_cons (pv 0) pa_nil))) (pa_cons (pe_exf (pe_newE GNoVersion (hr.mono (by omega)) (by rfl) (pa_cons (pv 0) pa_nil))) pa_nil)))))))
      (pss_one (ps_ret (pe_cmpR (op_eqV hr.h64) (pe_lc (own := [("_law_one_here", 3)]) (g := gName 3) (by rfl) sc_law_fields_right.nd (pi_list (pv 2)) (blkOk_by (own := [("_law_one_here", 3)]) (N := N_law_fields_right) (sc := defScope s_law_fields_right) (by decide +kernel)) (fun _ _ _ _ _ => (pg_name (i := 3) sc_law_fields_right.nd rfl (Or.inl rfl))) (fun _ _ _ _ _ => pts_nil) (fun _ _ _ _ _ => (pe_callB (c_repr3k rfl hr hM) (by rfl) B.repr (by decide +kernel) (pa_cons (pv 3) pa_nil)))) (pe_op op_rep (pe_lst (pa_cons (pe_callB (c_repr3 hr hM) (by rfl) B.repr (by decide +kernel) (pa_cons (pv 0) pa_nil)) pa_nil)) (pe_callB c_len (by rfl) B.len (by decide +kernel) (pa_cons (pv 2) pa_nil))) (nomark _)))))))), ?_⟩
  have KKH : Kp [] H H := Kp.nil
  walk_at "rd"
  with_reducible refine r_newE ?_
  walk_at "rd"
  refine r_new1 (K := K) fun Ya0 zYa0 kYa0 wYa0 => ?_
  have KKYa0 := KKH.trans kYa0
  refine r_exf wYa0 (e_BadText.xf (by decide +kernel)) n_BadText_line (by rfl) ?_
  clear wYa0
  walk_at "rd"
  with_reducible refine r_newE ?_
  walk_at "rd"
  refine r_new1 (K := K) fun Ya1 zYa1 kYa1 wYa1 => ?_
  have KKYa1 := KKYa0.trans kYa1
  refine r_exf wYa1 (e_BadProgram.xf (by decide +kernel)) n_BadProgram_error (by rfl) ?_
  clear wYa1
  walk_at "rd"
  with_reducible refine r_newE ?_
  walk_at "rd"
  refine r_new1 (K := K) fun Ya2 zYa2 kYa2 wYa2 => ?_
  have KKYa2 := KKYa1.trans kYa2
  refine r_exf wYa2 (e_BadFix.xf (by decide +kernel)) n_BadFix_value (by rfl) ?_
  clear wYa2
  walk_at "rd"
  with_reducible refine r_newE ?_
  walk_at "rd"
  refine r_new1 (K := K) fun Ya3 zYa3 kYa3 wYa3 => ?_
  have KKYa3 := KKYa2.trans kYa3
  refine r_exf wYa3 (e_BadNumber.xf (by decide +kernel)) n_BadNumber_number (by rfl) ?_
  clear wYa3
  walk_at "rd"
  with_reducible refine r_newE ?_
  walk_at "rd"
  refine r_new1 (K := K) fun Ya4 zYa4 kYa4 wYa4 => ?_
  have KKYa4 := KKYa3.trans kYa4
  refine r_exf wYa4 (e_BadReadings.xf (by decide +kernel)) n_BadReadings_readings (by rfl) ?_
  clear wYa4
  walk_at "rd"
  refine ⟨by simp [sizeLine_eq], fun lYa hlYa => ?_⟩
  have klYa : Kp [] Ya4 (upd Ya4 lYa (.lst (List.replicate 5 v))) := Kp.nil.new hlYa
  have mlYa : upd Ya4 lYa (.lst (List.replicate 5 v)) lYa = some (.lst (List.replicate 5 v)) := upd_same
  have KKLYa := KKYa4.trans klYa
  generalize eLYa : upd Ya4 lYa (.lst (List.replicate 5 v)) = LYa at klYa mlYa KKLYa 
  rw [show upd Ya4 lYa (.lst [v, v, v, v, v]) = LYa from eLYa]
  have m_old := mlYa
  walk_at "rd"
  with_reducible refine r_newE ?_
  walk_at "rd"
  refine r_new1 (K := K) fun Yb0 zYb0 kYb0 wYb0 => ?_
  have m_old := kYb0.get m_old (by simp)
  have KKYb0 := KKLYa.trans kYb0
  refine r_exf wYb0 (e_BadLength.xf (by decide +kernel)) n_BadLength_length (by rfl) ?_
  clear wYb0
  walk_at "rd"
  with_reducible refine r_newE ?_
  walk_at "rd"
  refine r_new1 (K := K) fun Yb1 zYb1 kYb1 wYb1 => ?_
  have m_old := kYb1.get m_old (by simp)
  have KKYb1 := KKYb0.trans kYb1
  refine r_exf wYb1 (e_BadVectors.xf (by decide +kernel)) n_BadVectors_index (by rfl) ?_
  clear wYb1
  walk_at "rd"
  with_reducible refine r_newE ?_
  walk_at "rd"
  refine r_new1 (K := K) fun Yb2 zYb2 kYb2 wYb2 => ?_
  have m_old := kYb2.get m_old (by simp)
  have KKYb2 := KKYb1.trans kYb2
  refine r_exf wYb2 (e_BadVector.xf (by decide +kernel)) n_BadVector_vector (by rfl) ?_
  clear wYb2
  walk_at "rd"
  with_reducible refine r_newE ?_
  walk_at "rd"
  refine r_new1 (K := K) fun Yb3 zYb3 kYb3 wYb3 => ?_
  have m_old := kYb3.get m_old (by simp)
  have KKYb3 := KKYb2.trans kYb3
  refine r_exf wYb3 (e_OtherLength.xf (by decide +kernel)) n_OtherLength_length (by rfl) ?_
  clear wYb3
  walk_at "rd"
  refine ⟨by simp [sizeLine_eq], fun lYb hlYb => ?_⟩
  have klYb : Kp [] Yb3 (upd Yb3 lYb (.lst (List.replicate 4 v))) := Kp.nil.new hlYb
  have mlYb : upd Yb3 lYb (.lst (List.replicate 4 v)) lYb = some (.lst (List.replicate 4 v)) := upd_same
  have m_old := klYb.get m_old (by simp)
  have KKLYb := KKYb3.trans klYb
  generalize eLYb : upd Yb3 lYb (.lst (List.replicate 4 v)) = LYb at klYb mlYb KKLYb m_old
  rw [show upd Yb3 lYb (.lst [v, v, v, v]) = LYb from eLYb]
  refine r_cat m_old mlYb (by simp [sizeLine_eq]) fun rYb hrYb => ?_
  rw [show List.replicate 5 v ++ List.replicate 4 v = List.replicate 9 v from rfl]
  have krYb : Kp [] LYb (upd LYb rYb (.lst (List.replicate 9 v))) := Kp.nil.new hrYb
  have m_old : upd LYb rYb (.lst (List.replicate 9 v)) rYb = some (.lst (List.replicate 9 v)) := upd_same
  have KKRYb := KKLYb.trans krYb
  generalize upd LYb rYb (.lst (List.replicate 9 v)) = RYb at krYb m_old KKRYb ⊢
  walk_at "rd"
  with_reducible refine r_newE ?_
  walk_at "rd"
  refine r_new1 (K := K) fun Yc0 zYc0 kYc0 wYc0 => ?_
  have m_old := kYc0.get m_old (by simp)
  have KKYc0 := KKRYb.trans kYc0
  refine r_exf wYc0 (e_NoReader.xf (by decide +kernel)) n_NoReader_place (by rfl) ?_
  clear wYc0
  walk_at "rd"
  with_reducible refine r_newE ?_
  walk_at "rd"
  refine r_new1 (K := K) fun Yc1 zYc1 kYc1 wYc1 => ?_
  have m_old := kYc1.get m_old (by simp)
  have KKYc1 := KKYc0.trans kYc1
  refine r_exf wYc1 (e_IsHeld.xf (by decide +kernel)) n_IsHeld_place (by rfl) ?_
  clear wYc1
  walk_at "rd"
  with_reducible refine r_newE ?_
  walk_at "rd"
  refine r_new1 (K := K) fun Yc2 zYc2 kYc2 wYc2 => ?_
  have m_old := kYc2.get m_old (by simp)
  have KKYc2 := KKYc1.trans kYc2
  refine r_exf wYc2 (e_NotHeld.xf (by decide +kernel)) n_NotHeld_place (by rfl) ?_
  clear wYc2
  walk_at "rd"
  with_reducible refine r_newE ?_
  walk_at "rd"
  refine r_new2 (K := K) fun Yc3 zYc3 kYc3 wYc3 => ?_
  have m_old := kYc3.get m_old (by simp)
  have KKYc3 := KKYc2.trans kYc3
  refine r_exf wYc3 (e_Loose.xf (by decide +kernel)) n_Loose_number (by rfl) ?_
  clear wYc3
  walk_at "rd"
  with_reducible refine r_newE ?_
  walk_at "rd"
  refine r_new2 (K := K) fun Yc4 zYc4 kYc4 wYc4 => ?_
  have m_old := kYc4.get m_old (by simp)
  have KKYc4 := KKYc3.trans kYc4
  refine r_exf wYc4 (e_Loose.xf (by decide +kernel)) n_Loose_index (by rfl) ?_
  clear wYc4
  walk_at "rd"
  refine ⟨by simp [sizeLine_eq], fun lYc hlYc => ?_⟩
  have klYc : Kp [] Yc4 (upd Yc4 lYc (.lst (List.replicate 5 v))) := Kp.nil.new hlYc
  have mlYc : upd Yc4 lYc (.lst (List.replicate 5 v)) lYc = some (.lst (List.replicate 5 v)) := upd_same
  have m_old := klYc.get m_old (by simp)
  have KKLYc := KKYc4.trans klYc
  generalize eLYc : upd Yc4 lYc (.lst (List.replicate 5 v)) = LYc at klYc mlYc KKLYc m_old
  rw [show upd Yc4 lYc (.lst [v, v, v, v, v]) = LYc from eLYc]
  refine r_cat m_old mlYc (by simp [sizeLine_eq]) fun rYc hrYc => ?_
  rw [show List.replicate 9 v ++ List.replicate 5 v = List.replicate 14 v from rfl]
  have krYc : Kp [] LYc (upd LYc rYc (.lst (List.replicate 14 v))) := Kp.nil.new hrYc
  have m_old : upd LYc rYc (.lst (List.replicate 14 v)) rYc = some (.lst (List.replicate 14 v)) := upd_same
  have KKRYc := KKLYc.trans krYc
  generalize upd LYc rYc (.lst (List.replicate 14 v)) = RYc at krYc m_old KKRYc ⊢
  walk_at "rd"
  with_reducible refine r_newE ?_
  walk_at "rd"
  refine r_new1 (K := K) fun Yd0 zYd0 kYd0 wYd0 => ?_
  have m_old := kYd0.get m_old (by simp)
  have KKYd0 := KKRYc.trans kYd0
  refine r_exf wYd0 (e_BadEdit.xf (by decide +kernel)) n_BadEdit_index (by rfl) ?_
  clear wYd0
  walk_at "rd"
  with_reducible refine r_newE ?_
  walk_at "rd"
  refine r_new1 (K := K) fun Yd1 zYd1 kYd1 wYd1 => ?_
  have m_old := kYd1.get m_old (by simp)
  have KKYd1 := KKYd0.trans kYd1
  refine r_exf wYd1 (e_Rejected.xf (by decide +kernel)) n_Rejected_index (by rfl) ?_
  clear wYd1
  walk_at "rd"
  with_reducible refine r_newE ?_
  walk_at "rd"
  refine r_new1 (K := K) fun Yd2 zYd2 kYd2 wYd2 => ?_
  have m_old := kYd2.get m_old (by simp)
  have KKYd2 := KKYd1.trans kYd2
  refine r_exf wYd2 (e_NoPlace.xf (by decide +kernel)) n_NoPlace_place (by rfl) ?_
  clear wYd2
  walk_at "rd"
  with_reducible refine r_newE ?_
  walk_at "rd"
  refine r_new1 (K := K) fun Yd3 zYd3 kYd3 wYd3 => ?_
  have m_old := kYd3.get m_old (by simp)
  have KKYd3 := KKYd2.trans kYd3
  refine r_exf wYd3 (e_NoVersion.xf (by decide +kernel)) n_NoVersion_version (by rfl) ?_
  clear wYd3
  walk_at "rd"
  refine ⟨by simp [sizeLine_eq], fun lYd hlYd => ?_⟩
  have klYd : Kp [] Yd3 (upd Yd3 lYd (.lst (List.replicate 4 v))) := Kp.nil.new hlYd
  have mlYd : upd Yd3 lYd (.lst (List.replicate 4 v)) lYd = some (.lst (List.replicate 4 v)) := upd_same
  have m_old := klYd.get m_old (by simp)
  have KKLYd := KKYd3.trans klYd
  generalize eLYd : upd Yd3 lYd (.lst (List.replicate 4 v)) = LYd at klYd mlYd KKLYd m_old
  rw [show upd Yd3 lYd (.lst [v, v, v, v]) = LYd from eLYd]
  refine r_cat m_old mlYd (by simp [sizeLine_eq]) fun rYd hrYd => ?_
  rw [show List.replicate 14 v ++ List.replicate 4 v = List.replicate 18 v from rfl]
  have krYd : Kp [] LYd (upd LYd rYd (.lst (List.replicate 18 v))) := Kp.nil.new hrYd
  have m_old : upd LYd rYd (.lst (List.replicate 18 v)) rYd = some (.lst (List.replicate 18 v)) := upd_same
  have KKRYd := KKLYd.trans krYd
  generalize upd LYd rYd (.lst (List.replicate 18 v)) = RYd at krYd m_old KKRYd ⊢
  clear n_BadText_line n_BadProgram_error n_BadFix_value n_BadNumber_number n_BadReadings_readings n_BadLength_length n_BadVectors_index n_BadVector_vector n_OtherLength_length n_NoReader_place n_IsHeld_place n_NotHeld_place n_Loose_number n_Loose_index n_BadEdit_index n_Rejected_index n_NoPlace_place n_NoVersion_version
  walk_at "rd"
  refine r_LcL (SqL.of m_old) fun q hq => ⟨fun i H' => Kp [] RYd H' ∧ H' q = some (.lst (List.replicate i (.str x.shown))), ⟨Kp.nil.new hq, upd_same⟩, fun i H' h => SqL.of (h.1.get m_old (by simp)), ?_, ?_⟩
  · rintro i y H' hy ⟨k1, e1⟩
    have hi : i < 18 := by
      have z := (List.getElem?_eq_some_iff.mp hy).1
      rwa [List.length_replicate] at z
    obtain rfl := List.eq_of_mem_replicate (List.mem_of_getElem? hy)
    have hv1 := (hv.kp0 KKRYd).kp0 k1
    walk_at "rd"
    refine r_repr3 hv1 hx.shw (by omega) (by omega) ?_
    refine r_LcEnd e1 (by rw [List.length_replicate, sizeLine_eq]; omega) ⟨k1.own hq, ?_⟩
    rw [upd_same, List.replicate_succ']
  · rintro H' ⟨k1, e1⟩
    have hv1 := (hv.kp0 KKRYd).kp0 k1
    have K1 := KKRYd.trans k1
    have m1 := k1.get m_old (by simp)
    walk_at "rd"
    refine r_repr3 hv1 hx.shw (by omega) (by omega) ?_
    walk_at "rd"
    refine ⟨by simp [sizeLine_eq], fun p1 hp1 => ?_⟩
    have k2 : Kp [] H' (upd H' p1 (.lst [V.str x.shown])) := Kp.nil.new hp1
    have m2 := k2.get m1 (by simp)
    have e2 := k2.get e1 (by simp)
    have e3 : upd H' p1 (.lst [V.str x.shown]) p1 = some (.lst [V.str x.shown]) := upd_same
    generalize upd H' p1 (.lst [V.str x.shown]) = H2 at k2 m2 e2 e3 ⊢
    walk_at "rd"
    refine r_rep e3 (by rw [List.length_replicate]; decide) (by rw [List.length_replicate]; decide) (Nat.le_of_ble_eq_true rfl) fun p2 hp2 => ?_
    have k3 : Kp [] H2 (upd H2 p2 (.lst (List.replicate 18 (V.str x.shown)))) := Kp.nil.new hp2
    rw [show (List.replicate (Int.toNat ((List.replicate 18 v).length : Nat)) [V.str x.shown]).flatten = List.replicate 18 (V.str x.shown) from rfl]
    refine r_eqRep (k3.get e2 (by simp)) upd_same ?_
    exact k _ ((K1.trans k2).trans k3)
theorem ok_law_bounds (D : Df K mg "_law_bounds" s_law_bounds P_law_bounds) {CBn CSb : Addr} {mB mS uB uS : Value}
    (b_MAX_NAME : ∃ t, mg "MAX_NAME" = some (.int 8 t)) (b_MAX_WORD : ∃ t, mg "MAX_WORD" = some (.int 8 t)) (b_MAX_TIMES : ∃ t, mg "MAX_TIMES" = some (.int 8 t)) (b_MAX_DEEP : ∃ t, mg "MAX_DEEP" = some (.int 3 t)) (b_MAX_NOTS : ∃ t, mg "MAX_NOTS" = some (.int 2 t)) (b_MAX_BY : ∃ t, mg "MAX_BY" = some (.int 6 t)) (b_MAX_PLACES : ∃ t, mg "MAX_PLACES" = some (.int 24 t)) (b_MAX_WEIGHT : ∃ t, mg "MAX_WEIGHT" = some (.int 30 t)) (b_MAX_RESTS : ∃ t, mg "MAX_RESTS" = some (.int 2 t)) (b_MAX_COMPARINGS : ∃ t, mg "MAX_COMPARINGS" = some (.int 2 t)) (b_MAX_NEST : ∃ t, mg "MAX_NEST" = some (.int 3 t)) (b_MAX_LENGTH : ∃ t, mg "MAX_LENGTH" = some (.int 30 t)) (b_MAX_MODULUS : ∃ t, mg "MAX_MODULUS" = some (.int 1000 t)) (b_MAX_PERIOD : ∃ t, mg "MAX_PERIOD" = some (.int 1000000 t)) (b_MAX_EDITS : ∃ t, mg "MAX_EDITS" = some (.int 60 t)) (b_BATCH : ∃ t, mg "BATCH" = some (.int 20 t))
    (g_Bench : mg "Bench" = some (.ref CBn)) (g_SureBench : mg "SureBench" = some (.ref CSb)) (r_B : ClX.CRead K CBn mB) (r_S : ClX.CRead K CSb mS) (v_B : ClX.CVal K CBn mB "MOST_EDITS" (.int 60) uB) (v_S : ClX.CVal K CSb mS "MOST_EDITS" (.int 60) uS) :
    Has P w K mg base CX0 "_law_bounds" P_law_bounds 1 spBounds := by
  obtain ⟨_, g_MAX_NAME⟩ := b_MAX_NAME
  obtain ⟨_, g_MAX_WORD⟩ := b_MAX_WORD
  obtain ⟨_, g_MAX_TIMES⟩ := b_MAX_TIMES
  obtain ⟨_, g_MAX_DEEP⟩ := b_MAX_DEEP
  obtain ⟨_, g_MAX_NOTS⟩ := b_MAX_NOTS
  obtain ⟨_, g_MAX_BY⟩ := b_MAX_BY
  obtain ⟨_, g_MAX_PLACES⟩ := b_MAX_PLACES
  obtain ⟨_, g_MAX_WEIGHT⟩ := b_MAX_WEIGHT
  obtain ⟨_, g_MAX_RESTS⟩ := b_MAX_RESTS
  obtain ⟨_, g_MAX_COMPARINGS⟩ := b_MAX_COMPARINGS
  obtain ⟨_, g_MAX_NEST⟩ := b_MAX_NEST
  obtain ⟨_, g_MAX_LENGTH⟩ := b_MAX_LENGTH
  obtain ⟨_, g_MAX_MODULUS⟩ := b_MAX_MODULUS
  obtain ⟨_, g_MAX_PERIOD⟩ := b_MAX_PERIOD
  obtain ⟨_, g_MAX_EDITS⟩ := b_MAX_EDITS
  obtain ⟨_, g_BATCH⟩ := b_BATCH
  refine D.has sc_law_bounds (fun vs H Q E h => ?_) (fun f cdv A outer s H vs Q E hr h => ?_)
  · obtain ⟨rfl, _⟩ := h
    rfl
  obtain ⟨rfl, k⟩ := h
  refine ⟨_, (pss_cons (ps_set (i := 0) sc_law_bounds.nd rfl (Or.inl rfl) (pe_lst (pa_cons (pe_gint (by rfl) g_MAX_NAME) (pa_cons (pe_gint (by rfl) g_MAX_WORD) (pa_cons (pe_gint (by rfl) g_MAX_TIMES) (pa_cons (pe_gint (by rfl) g_MAX_DEEP) (pa_cons (pe_gint (by rfl) g_MAX_NOTS) (pa_cons (pe_gint (by rfl) g_MAX_BY) (pa_cons (pe_gint (by rfl) g_MAX_PLACES) (pa_cons (pe_gint (by rfl) g_MAX_WEIGHT) (pa_cons (pe_gint (by rfl) g_MAX_RESTS) pa_nil)))))))))))
      (pss_cons (ps_set (i := 0) sc_law_bounds.nd rfl (Or.inl rfl) (pe_op op_cat (pv 0) (pe_lst (pa_cons (pe_gint (by rfl) g_MAX_COMPARINGS) (pa_cons (pe_gint (by rfl) g_MAX_NEST) (pa_cons (pe_gint (by rfl) g_MAX_LENGTH) (pa_cons (pe_gint (by rfl) g_MAX_MODULUS) (pa_cons (pe_gint (by rfl) g_MAX_PERIOD) (pa_cons (pe_gint (by rfl) g_MAX_EDITS) (pa_cons (pe_gint (by rfl) g_BATCH) pa_nil))))))))))
      (pss_one (ps_ret (pe_op op_cat (pv 0) (pe_lst (pa_cons (ClX.pe_cval (pe_gref (by rfl) g_Bench)) (pa_cons (ClX.pe_cval (pe_gref (by rfl) g_SureBench)) pa_nil)))))))), ?_⟩
  walk_at "rd"
  refine ⟨by simp [sizeLine_eq], fun p0 hp0 => ?_⟩
  have k0 : Kp [] H (upd H p0 (.lst [V.int 8, V.int 8, V.int 8, V.int 3, V.int 2, V.int 6, V.int 24, V.int 30, V.int 2])) := Kp.nil.new hp0
  have m0 : upd H p0 (.lst [V.int 8, V.int 8, V.int 8, V.int 3, V.int 2, V.int 6, V.int 24, V.int 30, V.int 2]) p0 = some (.lst [V.int 8, V.int 8, V.int 8, V.int 3, V.int 2, V.int 6, V.int 24, V.int 30, V.int 2]) := upd_same
  generalize upd H p0 (.lst [V.int 8, V.int 8, V.int 8, V.int 3, V.int 2, V.int 6, V.int 24, V.int 30, V.int 2]) = H0 at k0 m0  ⊢
  have o0 := m0
  have K0 := k0
  walk_at "rd"
  refine ⟨by simp [sizeLine_eq], fun p1 hp1 => ?_⟩
  have k1 : Kp [] H0 (upd H0 p1 (.lst [V.int 2, V.int 3, V.int 30, V.int 1000, V.int 1000000, V.int 60, V.int 20])) := Kp.nil.new hp1
  have m1 : upd H0 p1 (.lst [V.int 2, V.int 3, V.int 30, V.int 1000, V.int 1000000, V.int 60, V.int 20]) p1 = some (.lst [V.int 2, V.int 3, V.int 30, V.int 1000, V.int 1000000, V.int 60, V.int 20]) := upd_same
  have o1 := k1.get o0 (by simp)
  generalize upd H0 p1 (.lst [V.int 2, V.int 3, V.int 30, V.int 1000, V.int 1000000, V.int 60, V.int 20]) = H1 at k1 m1 o1 ⊢
  refine r_cat o1 m1 (by simp [sizeLine_eq]) fun q1 hq1 => ?_
  have l1 : Kp [] H1 (upd H1 q1 (.lst ([V.int 8, V.int 8, V.int 8, V.int 3, V.int 2, V.int 6, V.int 24, V.int 30, V.int 2] ++ [V.int 2, V.int 3, V.int 30, V.int 1000, V.int 1000000, V.int 60, V.int 20]))) := Kp.nil.new hq1
  have o1 : upd H1 q1 (.lst ([V.int 8, V.int 8, V.int 8, V.int 3, V.int 2, V.int 6, V.int 24, V.int 30, V.int 2] ++ [V.int 2, V.int 3, V.int 30, V.int 1000, V.int 1000000, V.int 60, V.int 20])) q1 = some (.lst [V.int 8, V.int 8, V.int 8, V.int 3, V.int 2, V.int 6, V.int 24, V.int 30, V.int 2, V.int 2, V.int 3, V.int 30, V.int 1000, V.int 1000000, V.int 60, V.int 20]) := upd_same
  have K1 := (K0.trans k1).trans l1
  generalize upd H1 q1 (.lst ([V.int 8, V.int 8, V.int 8, V.int 3, V.int 2, V.int 6, V.int 24, V.int 30, V.int 2] ++ [V.int 2, V.int 3, V.int 30, V.int 1000, V.int 1000000, V.int 60, V.int 20])) = G1 at l1 o1 K1 ⊢
  walk_at "rd"
  refine ⟨CBn, mB, .int 60, uB, rfl, r_B, v_B, ?_⟩
  walk_at "rd"
  refine ⟨CSb, mS, .int 60, uS, rfl, r_S, v_S, ?_⟩
  walk_at "rd"
  refine ⟨by simp [sizeLine_eq], fun p2 hp2 => ?_⟩
  have k2 : Kp [] G1 (upd G1 p2 (.lst [V.int 60, V.int 60])) := Kp.nil.new hp2
  have m2 : upd G1 p2 (.lst [V.int 60, V.int 60]) p2 = some (.lst [V.int 60, V.int 60]) := upd_same
  have o2 := k2.get o1 (by simp)
  generalize upd G1 p2 (.lst [V.int 60, V.int 60]) = H2 at k2 m2 o2 ⊢
  refine r_cat o2 m2 (by simp [sizeLine_eq]) fun q2 hq2 => ?_
  exact k _ _ ((K1.trans k2).own (((K1.trans k2)).freeM Ms.nil hq2)) (((K1.trans k2)).freeM Ms.nil hq2) upd_same
theorem ok_BadText_init {C CR : Addr} (D : DfM K C "__init__" "BadText.__init__" sBadText___init__ PBadText___init__) (B : Blt mg) (T : OexC K C) (hno : PySem.W.findIn K (.ref C) "line" = some none) (g_R : mg "ReadError" = some (.ref CR)) (rd : PySem.W.readsIn K CR (.type "type") = true)
    (sp : PySem.W.specialIn K (.ref CR) "__getattribute__" = some (some (.builtin "type.__getattribute__"))) (vV : PySem.W.findCls K (.ref CR) (.type "type") "__init__" = some (.val (.builtin "ValueError.__init__"))) :
    HasM P w K mg base CX0 C "__init__" PBadText___init__ 1 (spErr C "line") := by
  refine D.has scBadText___init__ (fun vs H Q E h => ?_) (fun f cdv A outer s H vs Q E hr h => ?_)
  · obtain ⟨a, v, rfl, _⟩ := h
    rfl
  obtain ⟨a, v, rfl, ha, k⟩ := h
  refine ⟨_, (pss_cons (ps_expr (pe_reinit (by rfl) g_R rd sp vV (pa_cons (pv 0) (pa_cons pe_str pa_nil)))) (pss_one (ps_ost (pv 0) (pv 1)))), ?_⟩
  refine ⟨_, rfl, ?_⟩
  refine ⟨a, C, [.str "BadText"], rfl, by simp, T, ha, ?_⟩
  refine ⟨_, rfl, _, rfl, a, C, rfl, T, hno, .inl ⟨ha, fun dx hdx hne => ?_⟩⟩
  exact k dx hdx hne
theorem ok_BadProgram_init {C CR : Addr} (D : DfM K C "__init__" "BadProgram.__init__" sBadProgram___init__ PBadProgram___init__) (B : Blt mg) (T : OexC K C) (hno : PySem.W.findIn K (.ref C) "error" = some none) (g_R : mg "ReadError" = some (.ref CR)) (rd : PySem.W.readsIn K CR (.type "type") = true)
    (sp : PySem.W.specialIn K (.ref CR) "__getattribute__" = some (some (.builtin "type.__getattribute__"))) (vV : PySem.W.findCls K (.ref CR) (.type "type") "__init__" = some (.val (.builtin "ValueError.__init__"))) :
    HasM P w K mg base CX0 C "__init__" PBadProgram___init__ 1 (spErr C "error") := by
  refine D.has scBadProgram___init__ (fun vs H Q E h => ?_) (fun f cdv A outer s H vs Q E hr h => ?_)
  · obtain ⟨a, v, rfl, _⟩ := h
    rfl
  obtain ⟨a, v, rfl, ha, k⟩ := h
  refine ⟨_, (pss_cons (ps_expr (pe_reinit (by rfl) g_R rd sp vV (pa_cons (pv 0) (pa_cons pe_str pa_nil)))) (pss_one (ps_ost (pv 0) (pv 1)))), ?_⟩
  refine ⟨_, rfl, ?_⟩
  refine ⟨a, C, [.str "BadProgram"], rfl, by simp, T, ha, ?_⟩
  refine ⟨_, rfl, _, rfl, a, C, rfl, T, hno, .inl ⟨ha, fun dx hdx hne => ?_⟩⟩
  exact k dx hdx hne
theorem ok_BadFix_init {C CR : Addr} (D : DfM K C "__init__" "BadFix.__init__" sBadFix___init__ PBadFix___init__) (B : Blt mg) (T : OexC K C) (hno : PySem.W.findIn K (.ref C) "value" = some none) (g_R : mg "ReadError" = some (.ref CR)) (rd : PySem.W.readsIn K CR (.type "type") = true)
    (sp : PySem.W.specialIn K (.ref CR) "__getattribute__" = some (some (.builtin "type.__getattribute__"))) (vV : PySem.W.findCls K (.ref CR) (.type "type") "__init__" = some (.val (.builtin "ValueError.__init__"))) :
    HasM P w K mg base CX0 C "__init__" PBadFix___init__ 1 (spErr C "value") := by
  refine D.has scBadFix___init__ (fun vs H Q E h => ?_) (fun f cdv A outer s H vs Q E hr h => ?_)
  · obtain ⟨a, v, rfl, _⟩ := h
    rfl
  obtain ⟨a, v, rfl, ha, k⟩ := h
  refine ⟨_, (pss_cons (ps_expr (pe_reinit (by rfl) g_R rd sp vV (pa_cons (pv 0) (pa_cons pe_str pa_nil)))) (pss_one (ps_ost (pv 0) (pv 1)))), ?_⟩
  refine ⟨_, rfl, ?_⟩
  refine ⟨a, C, [.str "BadFix"], rfl, by simp, T, ha, ?_⟩
  refine ⟨_, rfl, _, rfl, a, C, rfl, T, hno, .inl ⟨ha, fun dx hdx hne => ?_⟩⟩
  exact k dx hdx hne
theorem ok_BadNumber_init {C CR : Addr} (D : DfM K C "__init__" "BadNumber.__init__" sBadNumber___init__ PBadNumber___init__) (B : Blt mg) (T : OexC K C) (hno : PySem.W.findIn K (.ref C) "number" = some none) (g_R : mg "ReadError" = some (.ref CR)) (rd : PySem.W.readsIn K CR (.type "type") = true)
    (sp : PySem.W.specialIn K (.ref CR) "__getattribute__" = some (some (.builtin "type.__getattribute__"))) (vV : PySem.W.findCls K (.ref CR) (.type "type") "__init__" = some (.val (.builtin "ValueError.__init__"))) :
    HasM P w K mg base CX0 C "__init__" PBadNumber___init__ 1 (spErr C "number") := by
  refine D.has scBadNumber___init__ (fun vs H Q E h => ?_) (fun f cdv A outer s H vs Q E hr h => ?_)
  · obtain ⟨a, v, rfl, _⟩ := h
    rfl
  obtain ⟨a, v, rfl, ha, k⟩ := h
  refine ⟨_, (pss_cons (ps_expr (pe_reinit (by rfl) g_R rd sp vV (pa_cons (pv 0) (pa_cons pe_str pa_nil)))) (pss_one (ps_ost (pv 0) (pv 1)))), ?_⟩
  refine ⟨_, rfl, ?_⟩
  refine ⟨a, C, [.str "BadNumber"], rfl, by simp, T, ha, ?_⟩
  refine ⟨_, rfl, _, rfl, a, C, rfl, T, hno, .inl ⟨ha, fun dx hdx hne => ?_⟩⟩
  exact k dx hdx hne
theorem ok_BadReadings_init {C CR : Addr} (D : DfM K C "__init__" "BadReadings.__init__" sBadReadings___init__ PBadReadings___init__) (B : Blt mg) (T : OexC K C) (hno : PySem.W.findIn K (.ref C) "readings" = some none) (g_R : mg "ReadError" = some (.ref CR)) (rd : PySem.W.readsIn K CR (.type "type") = true)
    (sp : PySem.W.specialIn K (.ref CR) "__getattribute__" = some (some (.builtin "type.__getattribute__"))) (vV : PySem.W.findCls K (.ref CR) (.type "type") "__init__" = some (.val (.builtin "ValueError.__init__"))) :
    HasM P w K mg base CX0 C "__init__" PBadReadings___init__ 1 (spErr C "readings") := by
  refine D.has scBadReadings___init__ (fun vs H Q E h => ?_) (fun f cdv A outer s H vs Q E hr h => ?_)
  · obtain ⟨a, v, rfl, _⟩ := h
    rfl
  obtain ⟨a, v, rfl, ha, k⟩ := h
  refine ⟨_, (pss_cons (ps_expr (pe_reinit (by rfl) g_R rd sp vV (pa_cons (pv 0) (pa_cons pe_str pa_nil)))) (pss_one (ps_ost (pv 0) (pv 1)))), ?_⟩
  refine ⟨_, rfl, ?_⟩
  refine ⟨a, C, [.str "BadReadings"], rfl, by simp, T, ha, ?_⟩
  refine ⟨_, rfl, _, rfl, a, C, rfl, T, hno, .inl ⟨ha, fun dx hdx hne => ?_⟩⟩
  exact k dx hdx hne
theorem ok_BadLength_init {C CR : Addr} (D : DfM K C "__init__" "BadLength.__init__" sBadLength___init__ PBadLength___init__) (B : Blt mg) (T : OexC K C) (hno : PySem.W.findIn K (.ref C) "length" = some none) (g_R : mg "ReadError" = some (.ref CR)) (rd : PySem.W.readsIn K CR (.type "type") = true)
    (sp : PySem.W.specialIn K (.ref CR) "__getattribute__" = some (some (.builtin "type.__getattribute__"))) (vV : PySem.W.findCls K (.ref CR) (.type "type") "__init__" = some (.val (.builtin "ValueError.__init__"))) :
    HasM P w K mg base CX0 C "__init__" PBadLength___init__ 1 (spErr C "length") := by
  refine D.has scBadLength___init__ (fun vs H Q E h => ?_) (fun f cdv A outer s H vs Q E hr h => ?_)
  · obtain ⟨a, v, rfl, _⟩ := h
    rfl
  obtain ⟨a, v, rfl, ha, k⟩ := h
  refine ⟨_, (pss_cons (ps_expr (pe_reinit (by rfl) g_R rd sp vV (pa_cons (pv 0) (pa_cons pe_str pa_nil)))) (pss_one (ps_ost (pv 0) (pv 1)))), ?_⟩
  refine ⟨_, rfl, ?_⟩
  refine ⟨a, C, [.str "BadLength"], rfl, by simp, T, ha, ?_⟩
  refine ⟨_, rfl, _, rfl, a, C, rfl, T, hno, .inl ⟨ha, fun dx hdx hne => ?_⟩⟩
  exact k dx hdx hne
theorem ok_BadVectors_init {C CR : Addr} (D : DfM K C "__init__" "BadVectors.__init__" sBadVectors___init__ PBadVectors___init__) (B : Blt mg) (T : OexC K C) (hno : PySem.W.findIn K (.ref C) "index" = some none) (g_R : mg "ReadError" = some (.ref CR)) (rd : PySem.W.readsIn K CR (.type "type") = true)
    (sp : PySem.W.specialIn K (.ref CR) "__getattribute__" = some (some (.builtin "type.__getattribute__"))) (vV : PySem.W.findCls K (.ref CR) (.type "type") "__init__" = some (.val (.builtin "ValueError.__init__"))) :
    HasM P w K mg base CX0 C "__init__" PBadVectors___init__ 1 (spErr C "index") := by
  refine D.has scBadVectors___init__ (fun vs H Q E h => ?_) (fun f cdv A outer s H vs Q E hr h => ?_)
  · obtain ⟨a, v, rfl, _⟩ := h
    rfl
  obtain ⟨a, v, rfl, ha, k⟩ := h
  refine ⟨_, (pss_cons (ps_expr (pe_reinit (by rfl) g_R rd sp vV (pa_cons (pv 0) (pa_cons pe_str pa_nil)))) (pss_one (ps_ost (pv 0) (pv 1)))), ?_⟩
  refine ⟨_, rfl, ?_⟩
  refine ⟨a, C, [.str "BadVectors"], rfl, by simp, T, ha, ?_⟩
  refine ⟨_, rfl, _, rfl, a, C, rfl, T, hno, .inl ⟨ha, fun dx hdx hne => ?_⟩⟩
  exact k dx hdx hne
theorem ok_BadVector_init {C CR : Addr} (D : DfM K C "__init__" "BadVector.__init__" sBadVector___init__ PBadVector___init__) (B : Blt mg) (T : OexC K C) (hno : PySem.W.findIn K (.ref C) "vector" = some none) (g_R : mg "ReadError" = some (.ref CR)) (rd : PySem.W.readsIn K CR (.type "type") = true)
    (sp : PySem.W.specialIn K (.ref CR) "__getattribute__" = some (some (.builtin "type.__getattribute__"))) (vV : PySem.W.findCls K (.ref CR) (.type "type") "__init__" = some (.val (.builtin "ValueError.__init__"))) :
    HasM P w K mg base CX0 C "__init__" PBadVector___init__ 1 (spErr C "vector") := by
  refine D.has scBadVector___init__ (fun vs H Q E h => ?_) (fun f cdv A outer s H vs Q E hr h => ?_)
  · obtain ⟨a, v, rfl, _⟩ := h
    rfl
  obtain ⟨a, v, rfl, ha, k⟩ := h
  refine ⟨_, (pss_cons (ps_expr (pe_reinit (by rfl) g_R rd sp vV (pa_cons (pv 0) (pa_cons pe_str pa_nil)))) (pss_one (ps_ost (pv 0) (pv 1)))), ?_⟩
  refine ⟨_, rfl, ?_⟩
  refine ⟨a, C, [.str "BadVector"], rfl, by simp, T, ha, ?_⟩
  refine ⟨_, rfl, _, rfl, a, C, rfl, T, hno, .inl ⟨ha, fun dx hdx hne => ?_⟩⟩
  exact k dx hdx hne
theorem ok_OtherLength_init {C CR : Addr} (D : DfM K C "__init__" "OtherLength.__init__" sOtherLength___init__ POtherLength___init__) (B : Blt mg) (T : OexC K C) (hno : PySem.W.findIn K (.ref C) "length" = some none) (g_R : mg "ReadError" = some (.ref CR)) (rd : PySem.W.readsIn K CR (.type "type") = true)
    (sp : PySem.W.specialIn K (.ref CR) "__getattribute__" = some (some (.builtin "type.__getattribute__"))) (vV : PySem.W.findCls K (.ref CR) (.type "type") "__init__" = some (.val (.builtin "ValueError.__init__"))) :
    HasM P w K mg base CX0 C "__init__" POtherLength___init__ 1 (spErr C "length") := by
  refine D.has scOtherLength___init__ (fun vs H Q E h => ?_) (fun f cdv A outer s H vs Q E hr h => ?_)
  · obtain ⟨a, v, rfl, _⟩ := h
    rfl
  obtain ⟨a, v, rfl, ha, k⟩ := h
  refine ⟨_, (pss_cons (ps_expr (pe_reinit (by rfl) g_R rd sp vV (pa_cons (pv 0) (pa_cons pe_str pa_nil)))) (pss_one (ps_ost (pv 0) (pv 1)))), ?_⟩
  refine ⟨_, rfl, ?_⟩
  refine ⟨a, C, [.str "OtherLength"], rfl, by simp, T, ha, ?_⟩
  refine ⟨_, rfl, _, rfl, a, C, rfl, T, hno, .inl ⟨ha, fun dx hdx hne => ?_⟩⟩
  exact k dx hdx hne
theorem ok_NoReader_init {C CR : Addr} (D : DfM K C "__init__" "NoReader.__init__" sNoReader___init__ PNoReader___init__) (B : Blt mg) (T : OexC K C) (hno : PySem.W.findIn K (.ref C) "place" = some none) (g_R : mg "ReadError" = some (.ref CR)) (rd : PySem.W.readsIn K CR (.type "type") = true)
    (sp : PySem.W.specialIn K (.ref CR) "__getattribute__" = some (some (.builtin "type.__getattribute__"))) (vV : PySem.W.findCls K (.ref CR) (.type "type") "__init__" = some (.val (.builtin "ValueError.__init__"))) :
    HasM P w K mg base CX0 C "__init__" PNoReader___init__ 1 (spErr C "place") := by
  refine D.has scNoReader___init__ (fun vs H Q E h => ?_) (fun f cdv A outer s H vs Q E hr h => ?_)
  · obtain ⟨a, v, rfl, _⟩ := h
    rfl
  obtain ⟨a, v, rfl, ha, k⟩ := h
  refine ⟨_, (pss_cons (ps_expr (pe_reinit (by rfl) g_R rd sp vV (pa_cons (pv 0) (pa_cons pe_str pa_nil)))) (pss_one (ps_ost (pv 0) (pv 1)))), ?_⟩
  refine ⟨_, rfl, ?_⟩
  refine ⟨a, C, [.str "NoReader"], rfl, by simp, T, ha, ?_⟩
  refine ⟨_, rfl, _, rfl, a, C, rfl, T, hno, .inl ⟨ha, fun dx hdx hne => ?_⟩⟩
  exact k dx hdx hne
theorem ok_IsHeld_init {C CR : Addr} (D : DfM K C "__init__" "IsHeld.__init__" sIsHeld___init__ PIsHeld___init__) (B : Blt mg) (T : OexC K C) (hno : PySem.W.findIn K (.ref C) "place" = some none) (g_R : mg "ReadError" = some (.ref CR)) (rd : PySem.W.readsIn K CR (.type "type") = true)
    (sp : PySem.W.specialIn K (.ref CR) "__getattribute__" = some (some (.builtin "type.__getattribute__"))) (vV : PySem.W.findCls K (.ref CR) (.type "type") "__init__" = some (.val (.builtin "ValueError.__init__"))) :
    HasM P w K mg base CX0 C "__init__" PIsHeld___init__ 1 (spErr C "place") := by
  refine D.has scIsHeld___init__ (fun vs H Q E h => ?_) (fun f cdv A outer s H vs Q E hr h => ?_)
  · obtain ⟨a, v, rfl, _⟩ := h
    rfl
  obtain ⟨a, v, rfl, ha, k⟩ := h
  refine ⟨_, (pss_cons (ps_expr (pe_reinit (by rfl) g_R rd sp vV (pa_cons (pv 0) (pa_cons pe_str pa_nil)))) (pss_one (ps_ost (pv 0) (pv 1)))), ?_⟩
  refine ⟨_, rfl, ?_⟩
  refine ⟨a, C, [.str "IsHeld"], rfl, by simp, T, ha, ?_⟩
  refine ⟨_, rfl, _, rfl, a, C, rfl, T, hno, .inl ⟨ha, fun dx hdx hne => ?_⟩⟩
  exact k dx hdx hne
theorem ok_NotHeld_init {C CR : Addr} (D : DfM K C "__init__" "NotHeld.__init__" sNotHeld___init__ PNotHeld___init__) (B : Blt mg) (T : OexC K C) (hno : PySem.W.findIn K (.ref C) "place" = some none) (g_R : mg "ReadError" = some (.ref CR)) (rd : PySem.W.readsIn K CR (.type "type") = true)
    (sp : PySem.W.specialIn K (.ref CR) "__getattribute__" = some (some (.builtin "type.__getattribute__"))) (vV : PySem.W.findCls K (.ref CR) (.type "type") "__init__" = some (.val (.builtin "ValueError.__init__"))) :
    HasM P w K mg base CX0 C "__init__" PNotHeld___init__ 1 (spErr C "place") := by
  refine D.has scNotHeld___init__ (fun vs H Q E h => ?_) (fun f cdv A outer s H vs Q E hr h => ?_)
  · obtain ⟨a, v, rfl, _⟩ := h
    rfl
  obtain ⟨a, v, rfl, ha, k⟩ := h
  refine ⟨_, (pss_cons (ps_expr (pe_reinit (by rfl) g_R rd sp vV (pa_cons (pv 0) (pa_cons pe_str pa_nil)))) (pss_one (ps_ost (pv 0) (pv 1)))), ?_⟩
  refine ⟨_, rfl, ?_⟩
  refine ⟨a, C, [.str "NotHeld"], rfl, by simp, T, ha, ?_⟩
  refine ⟨_, rfl, _, rfl, a, C, rfl, T, hno, .inl ⟨ha, fun dx hdx hne => ?_⟩⟩
  exact k dx hdx hne
theorem ok_Loose_init {C CR : Addr} (D : DfM K C "__init__" "Loose.__init__" sLoose___init__ PLoose___init__) (B : Blt mg) (T : OexC K C) (hno : PySem.W.findIn K (.ref C) "number" = some none) (hno2 : PySem.W.findIn K (.ref C) "index" = some none) (g_R : mg "ReadError" = some (.ref CR)) (rd : PySem.W.readsIn K CR (.type "type") = true)
    (sp : PySem.W.specialIn K (.ref CR) "__getattribute__" = some (some (.builtin "type.__getattribute__"))) (vV : PySem.W.findCls K (.ref CR) (.type "type") "__init__" = some (.val (.builtin "ValueError.__init__"))) :
    HasM P w K mg base CX0 C "__init__" PLoose___init__ 1 (spErr2 C "number" "index") := by
  refine D.has scLoose___init__ (fun vs H Q E h => ?_) (fun f cdv A outer s H vs Q E hr h => ?_)
  · obtain ⟨a, v, u, rfl, _⟩ := h
    rfl
  obtain ⟨a, v, u, rfl, ha, k⟩ := h
  refine ⟨_, (pss_cons (ps_expr (pe_reinit (by rfl) g_R rd sp vV (pa_cons (pv 0) (pa_cons pe_str pa_nil)))) (pss_cons (ps_ost (pv 0) (pv 1)) (pss_one (ps_ost (pv 0) (pv 2))))), ?_⟩
  refine ⟨_, rfl, ?_⟩
  refine ⟨a, C, [.str "Loose"], rfl, by simp, T, ha, ?_⟩
  refine ⟨_, rfl, _, rfl, a, C, rfl, T, hno, .inl ⟨ha, fun dx hdx hne => ?_⟩⟩
  refine ⟨_, rfl, _, rfl, a, C, rfl, T, hno2, .inr ⟨dx, [("number", v)], upd_same, ?_, by simp, ?_⟩⟩
  · rw [upd_ne hne, upd_same]
  · exact k dx hdx hne
theorem ok_BadEdit_init {C CR : Addr} (D : DfM K C "__init__" "BadEdit.__init__" sBadEdit___init__ PBadEdit___init__) (B : Blt mg) (T : OexC K C) (hno : PySem.W.findIn K (.ref C) "index" = some none) (g_R : mg "ReadError" = some (.ref CR)) (rd : PySem.W.readsIn K CR (.type "type") = true)
    (sp : PySem.W.specialIn K (.ref CR) "__getattribute__" = some (some (.builtin "type.__getattribute__"))) (vV : PySem.W.findCls K (.ref CR) (.type "type") "__init__" = some (.val (.builtin "ValueError.__init__"))) :
    HasM P w K mg base CX0 C "__init__" PBadEdit___init__ 1 (spErr C "index") := by
  refine D.has scBadEdit___init__ (fun vs H Q E h => ?_) (fun f cdv A outer s H vs Q E hr h => ?_)
  · obtain ⟨a, v, rfl, _⟩ := h
    rfl
  obtain ⟨a, v, rfl, ha, k⟩ := h
  refine ⟨_, (pss_cons (ps_expr (pe_reinit (by rfl) g_R rd sp vV (pa_cons (pv 0) (pa_cons pe_str pa_nil)))) (pss_one (ps_ost (pv 0) (pv 1)))), ?_⟩
  refine ⟨_, rfl, ?_⟩
  refine ⟨a, C, [.str "BadEdit"], rfl, by simp, T, ha, ?_⟩
  refine ⟨_, rfl, _, rfl, a, C, rfl, T, hno, .inl ⟨ha, fun dx hdx hne => ?_⟩⟩
  exact k dx hdx hne
theorem ok_Rejected_init {C CR : Addr} (D : DfM K C "__init__" "Rejected.__init__" sRejected___init__ PRejected___init__) (B : Blt mg) (T : OexC K C) (hno : PySem.W.findIn K (.ref C) "index" = some none) (g_R : mg "ReadError" = some (.ref CR)) (rd : PySem.W.readsIn K CR (.type "type") = true)
    (sp : PySem.W.specialIn K (.ref CR) "__getattribute__" = some (some (.builtin "type.__getattribute__"))) (vV : PySem.W.findCls K (.ref CR) (.type "type") "__init__" = some (.val (.builtin "ValueError.__init__"))) :
    HasM P w K mg base CX0 C "__init__" PRejected___init__ 1 (spErr C "index") := by
  refine D.has scRejected___init__ (fun vs H Q E h => ?_) (fun f cdv A outer s H vs Q E hr h => ?_)
  · obtain ⟨a, v, rfl, _⟩ := h
    rfl
  obtain ⟨a, v, rfl, ha, k⟩ := h
  refine ⟨_, (pss_cons (ps_expr (pe_reinit (by rfl) g_R rd sp vV (pa_cons (pv 0) (pa_cons pe_str pa_nil)))) (pss_one (ps_ost (pv 0) (pv 1)))), ?_⟩
  refine ⟨_, rfl, ?_⟩
  refine ⟨a, C, [.str "Rejected"], rfl, by simp, T, ha, ?_⟩
  refine ⟨_, rfl, _, rfl, a, C, rfl, T, hno, .inl ⟨ha, fun dx hdx hne => ?_⟩⟩
  exact k dx hdx hne
theorem ok_NoPlace_init {C : Addr} (D : DfM K C "__init__" "NoPlace.__init__" sNoPlace___init__ PNoPlace___init__) (B : Blt mg) (hLE : mg "LookupError" = none) (T : GexC K "LookupError.__new__" leT C) (hno : PySem.W.findIn K (.ref C) "place" = some none)
    (vV : PySem.W.findCls K (.type "LookupError") (.type "type") "__init__" = some (.val (.builtin "LookupError.__init__"))) :
    HasM P w K mg base CX0 C "__init__" PNoPlace___init__ 1 (spErr C "place") := by
  refine D.has scNoPlace___init__ (fun vs H Q E h => ?_) (fun f cdv A outer s H vs Q E hr h => ?_)
  · obtain ⟨a, v, rfl, _⟩ := h
    rfl
  obtain ⟨a, v, rfl, ha, k⟩ := h
  refine ⟨_, (pss_cons (ps_expr (pe_leinit (by rfl) hLE vV (pa_cons (pv 0) (pa_cons pe_str pa_nil)))) (pss_one (ps_gst leF (pv 0) (pv 1)))), ?_⟩
  refine ⟨_, rfl, ?_⟩
  refine ⟨a, C, [.str "NoPlace"], rfl, by simp, T, ha, ?_⟩
  refine ⟨_, rfl, _, rfl, a, C, rfl, T, hno, ha, fun dx hdx hne => ?_⟩
  exact k dx hdx hne
theorem ok_NoVersion_init {C : Addr} (D : DfM K C "__init__" "NoVersion.__init__" sNoVersion___init__ PNoVersion___init__) (B : Blt mg) (hLE : mg "LookupError" = none) (T : GexC K "LookupError.__new__" leT C) (hno : PySem.W.findIn K (.ref C) "version" = some none)
    (vV : PySem.W.findCls K (.type "LookupError") (.type "type") "__init__" = some (.val (.builtin "LookupError.__init__"))) :
    HasM P w K mg base CX0 C "__init__" PNoVersion___init__ 1 (spErr C "version") := by
  refine D.has scNoVersion___init__ (fun vs H Q E h => ?_) (fun f cdv A outer s H vs Q E hr h => ?_)
  · obtain ⟨a, v, rfl, _⟩ := h
    rfl
  obtain ⟨a, v, rfl, ha, k⟩ := h
  refine ⟨_, (pss_cons (ps_expr (pe_leinit (by rfl) hLE vV (pa_cons (pv 0) (pa_cons pe_str pa_nil)))) (pss_one (ps_gst leF (pv 0) (pv 1)))), ?_⟩
  refine ⟨_, rfl, ?_⟩
  refine ⟨a, C, [.str "NoVersion"], rfl, by simp, T, ha, ?_⟩
  refine ⟨_, rfl, _, rfl, a, C, rfl, T, hno, ha, fun dx hdx hne => ?_⟩
  exact k dx hdx hne
theorem ok_law (D : Df K mg "law" slaw Plaw) (B : Blt mg) (hM : ∃ mm, base.Ns sysModules mm) (G_law_deck : Has P w K mg base CX0 "_law_deck" ["_law_script"] 1 (spDeck K))
    (G_law_value : Has P w K mg base CX0 "_law_value" ["_law_deck_here"] 3 (spValue K)) (G_law_kinds_right : Has P w K mg base CX0 "_law_kinds_right" ["_law_a"] 3 spRight)
    (G_law_fields_right : Has P w K mg base CX0 "_law_fields_right" ["_law_a", "_law_b"] 3 (spFields K)) (G_law_bounds : Has P w K mg base CX0 "_law_bounds" [] 1 spBounds) :
    Has P w K mg base CX0 "law" Plaw 20 (spLaw K) := by
  refine D.has sclaw (fun vs H Q E h => ?_) (fun f cdv A outer s H vs Q E hr h => ?_)
  · obtain ⟨a, ns, rfl, _⟩ := h
    rfl
  obtain ⟨a, ns, rfl, hS, hl, k⟩ := h
  refine ⟨_, (pss_cons (ps_set (i := 1) sclaw.nd rfl (Or.inl rfl) (pe_f G_law_deck (hr.mono (by omega)) (by rfl) pass0 (pa_cons (pv 0) pa_nil)))
      (pss_cons (ps_for PassesOwn.never rfl (pi_range1 (by rfl) B.range (pa_cons pe_int pa_nil)) (pg_name (i := 2) sclaw.nd rfl (Or.inl rfl))
        (pss_cons (ps_par (i := 3) (j := 4) (by rfl) sclaw.nd rfl rfl (by decide) rfl rfl (pa_cons (pe_f G_law_value (hr.mono (by omega)) (by rfl) pass0 (pa_cons (pv 1) pa_nil)) (pa_cons (pe_f G_law_value (hr.mono (by omega)) (by rfl) pass0 (pa_cons (pv 1) pa_nil)) pa_nil)) (by rfl))
      (pss_one (ps_if (PW.pt (pw_or (pt_not (pt_val (pe_f G_law_kinds_right (hr.mono (by omega)) (by rfl) pass0 (pa_cons (pv 3) pa_nil)))) (pw_or1 (pt_not (pt_val (pe_f G_law_fields_right (hr.mono (by omega)) (by rfl) pass0 (pa_cons (pv 3) (pa_cons (pv 4) pa_nil)))))))) (pss_one (ps_ret pe_bl))
        pss_nil))))
      (pss_one (ps_ret (pe_cmpR op_eq (pe_callB (c_repr3 hr hM) (by rfl) B.repr (by decide +kernel) (pa_cons (pe_f0 G_law_bounds (hr.mono (by omega)) (by rfl) pass0) pa_nil)) (pe_callB (c_repr3 hr hM) (by rfl) B.repr (by decide +kernel) (pa_cons (pe_lst (pa_cons pe_int (pa_cons pe_int (pa_cons pe_int (pa_cons pe_int (pa_cons pe_int (pa_cons pe_int (pa_cons pe_int (pa_cons pe_int (pa_cons pe_int (pa_cons pe_int (pa_cons pe_int (pa_cons pe_int (pa_cons pe_int (pa_cons (pe_op op_pow pe_int pe_int) (pa_cons pe_int (pa_cons pe_int (pa_cons pe_int (pa_cons pe_int pa_nil))))))))))))))))))) pa_nil)) (nomark _)))))), ?_⟩
  walk_at "rd"
  refine ⟨a, ns, rfl, hS, hl, fun H1 d c hd hc Dk k1 => ?_⟩
  walk_at "rd"
  refine r_ForR (fun i σ H' => ∃ (n : Int) (y2 y3 y4 : Option V), σ = [some (.ref a), some (.ref d), y2, y3, y4] ∧ Deck H' d c n ∧ n ≤ 20 * i) (by omega) (by omega) ⟨0, _, _, _, rfl, Dk, by omega⟩ ?_ ?_
  · rintro i σ H2 hi ⟨n, y2, y3, y4, rfl, D2, hn⟩
    have hi4 : i < 4 := hi
    walk_at "rd"
    refine ⟨d, c, n, rfl, D2, by omega, fun H3 v x n3 D3 n3a n3b k3 hv hx => ?_⟩
    walk_at "rd"
    refine ⟨d, c, n3, rfl, D3, by omega, fun H4 u y n4 D4 n4a n4b k4 hu hy => ?_⟩
    have hv4 := hv.kp k4
    walk_at "rd"
    refine ⟨v, rfl, fun H5 k5 => ?_⟩
    walk_at "rd"
    refine ⟨v, u, x, rfl, (hv4.kp0 k5).nil, hx, fun H6 k6 => ?_⟩
    walk_at "rd"
    exact ⟨n4, _, _, _, rfl, (D4.kp k5 (by simp) (by simp)).kp k6 (by simp) (by simp), by omega⟩
  · rintro σ H2 ⟨n, y2, y3, y4, rfl, D2, hn⟩
    have dw : ∀ (H' : Hp) (p : Addr), H' p = some (.lst (bndL.map V.int)) → Dw [] K H' (.ref p) (.list (bndL.map PyData.int)) := fun H' p e => .lst e (by simp) (by rw [List.length_map, List.length_map]) fun i v e q q' => by
      rw [List.getElem?_map] at q q'
      cases z : bndL[i]? with
      | none => rw [z] at q; cases q
      | some j =>
        rw [z] at q q'
        cases q
        cases q'
        exact .int j
    have sh : ShwD (.list (bndL.map PyData.int)) 5 1000 := ⟨by decide +kernel, by decide +kernel, by decide +kernel⟩
    walk_at "rd"
    refine ⟨rfl, fun H3 p k3 hp e3 => ?_⟩
    walk_at "rd"
    refine r_repr3 (dw H3 p e3) sh (by omega) (by omega) ?_
    walk_at "rd"
    rotate_left
    · exact c_pow (by decide) (by decide) (by decide)
    refine ⟨by simp [sizeLine_eq], fun p2 hp2 => ?_⟩
    walk_at "rd"
    refine r_repr3 (dw _ p2 upd_same) sh (by omega) (by omega) ?_
    walk_at "rd"
    exact k _
end
end Aw
open PySem PySem.W PySem.Calls PyProof.Rows in
set_option maxRecDepth 100000 in
set_option maxHeartbeats 0 in
theorem PySem.Challenge.cw_anewread_k00_errors_made_by_hand_holds : PySem.Challenge.rw_anewread_k00_errors_made_by_hand.Holds := by
  w_on; o_law
  refine HandSHeadRun.head_any (r := Aw.hdR) (q := Aw.hdV) (H := Aw.hookX Aw.hdA Aw.hdC Aw.hdF) (ob := Aw.obX Aw.hdA Aw.hdC Aw.hdF) (M := 14000) (loose := Aw.hdN) (d := HandSHeadRun.topDef Aw.hdR.prog 147) (kwd := []) (Aw.obX_eq Aw.hdA Aw.hdC Aw.hdF)
    (by kernel_rfl) (fun s => by kernel_rfl) Aw.hd_run (by kernel_rfl) (by kernel_rfl) (by kernel_rfl) (by rfl) (by first | assumption | decide +kernel) (by decide +kernel) ⟨rfl, rfl, rfl, rfl, rfl, by decide +kernel⟩ ?hw ?hc
  case hw => w_witness2
  case hc =>
    refine Aw.walkGE (l := PySem.Challenge.rw_anewread_k00_errors_made_by_hand) (k := 20) (x := "_law_script") rfl (by kernel_rfl) (by kernel_rfl) ⟨⟨rfl, by decide, by decide⟩, rfl⟩ ?F (by kernel_rfl)
    intro w mg h Y G
    obtain ⟨K, KX, c⟩ := Y
    refine ⟨K, KX, fun base _ _ hSys => ?_⟩
    have f_b_len : (He.Fa.free "len").ok K = true := c.fact 0
    have f_b_int : (He.Fa.free "int").ok K = true := c.fact 1
    have f_b_abs : (He.Fa.free "abs").ok K = true := c.fact 2
    have f_b_str : (He.Fa.free "str").ok K = true := c.fact 3
    have f_b_bool : (He.Fa.free "bool").ok K = true := c.fact 4
    have f_b_range : (He.Fa.free "range").ok K = true := c.fact 5
    have f_b_isinstance : (He.Fa.free "isinstance").ok K = true := c.fact 6
    have f_b_tuple : (He.Fa.free "tuple").ok K = true := c.fact 7
    have f_b_list : (He.Fa.free "list").ok K = true := c.fact 8
    have f_b_repr : (He.Fa.free "repr").ok K = true := c.fact 9
    have f_b_zip : (He.Fa.free "zip").ok K = true := c.fact 10
    have f_b_enumerate : (He.Fa.free "enumerate").ok K = true := c.fact 11
    have f_b_sum : (He.Fa.free "sum").ok K = true := c.fact 12
    have f_b_min : (He.Fa.free "min").ok K = true := c.fact 13
    have f_b_max : (He.Fa.free "max").ok K = true := c.fact 14
    have f_b_all : (He.Fa.free "all").ok K = true := c.fact 15
    have f_b_any : (He.Fa.free "any").ok K = true := c.fact 16
    have f_b_sorted : (He.Fa.free "sorted").ok K = true := c.fact 17
    have f_b_dict : (He.Fa.free "dict").ok K = true := c.fact 18
    have f_d__law_deck : (He.Fa.glo "_law_deck").ok K = true := c.fact 19
    have f_d__law_draw : (He.Fa.glo "_law_draw").ok K = true := c.fact 20
    have f_d__law_one : (He.Fa.glo "_law_one").ok K = true := c.fact 21
    have f_d__law_value : (He.Fa.glo "_law_value").ok K = true := c.fact 22
    have f_d__law_kinds : (He.Fa.glo "_law_kinds").ok K = true := c.fact 23
    have f_d__law_kinds_right : (He.Fa.glo "_law_kinds_right").ok K = true := c.fact 24
    have f_d__law_fields_right : (He.Fa.glo "_law_fields_right").ok K = true := c.fact 25
    have f_d__law_bounds : (He.Fa.glo "_law_bounds").ok K = true := c.fact 26
    have f_d_BadText___init__ : (He.Fa.meth "BadText" "__init__").ok K = true := c.fact 27
    have f_d_BadProgram___init__ : (He.Fa.meth "BadProgram" "__init__").ok K = true := c.fact 28
    have f_d_BadFix___init__ : (He.Fa.meth "BadFix" "__init__").ok K = true := c.fact 29
    have f_d_BadNumber___init__ : (He.Fa.meth "BadNumber" "__init__").ok K = true := c.fact 30
    have f_d_BadReadings___init__ : (He.Fa.meth "BadReadings" "__init__").ok K = true := c.fact 31
    have f_d_BadLength___init__ : (He.Fa.meth "BadLength" "__init__").ok K = true := c.fact 32
    have f_d_BadVectors___init__ : (He.Fa.meth "BadVectors" "__init__").ok K = true := c.fact 33
    have f_d_BadVector___init__ : (He.Fa.meth "BadVector" "__init__").ok K = true := c.fact 34
    have f_d_OtherLength___init__ : (He.Fa.meth "OtherLength" "__init__").ok K = true := c.fact 35
    have f_d_NoReader___init__ : (He.Fa.meth "NoReader" "__init__").ok K = true := c.fact 36
    have f_d_IsHeld___init__ : (He.Fa.meth "IsHeld" "__init__").ok K = true := c.fact 37
    have f_d_NotHeld___init__ : (He.Fa.meth "NotHeld" "__init__").ok K = true := c.fact 38
    have f_d_Loose___init__ : (He.Fa.meth "Loose" "__init__").ok K = true := c.fact 39
    have f_d_BadEdit___init__ : (He.Fa.meth "BadEdit" "__init__").ok K = true := c.fact 40
    have f_d_Rejected___init__ : (He.Fa.meth "Rejected" "__init__").ok K = true := c.fact 41
    have f_d_NoPlace___init__ : (He.Fa.meth "NoPlace" "__init__").ok K = true := c.fact 42
    have f_d_NoVersion___init__ : (He.Fa.meth "NoVersion" "__init__").ok K = true := c.fact 43
    have f_d_law : (He.Fa.glo "law").ok K = true := c.fact 44
    have f_e_ReadError : Aw.efcB "ReadError" "ValueError.__new__" Aw.veT (fun _ => Aw.veT) K = true := c.fact 45
    have f_q_ReadError : PySem.W.excIn K (He.ga K "ReadError") Aw.veT "ValueError.__new__" = true := c.fact 46
    have f_e_BadText : Aw.efcB "BadText" "ValueError.__new__" Aw.veT (fun K => .ref (He.ga K "ReadError") :: Aw.veT) K = true := c.fact 47
    have f_n_BadText_line : (He.Fa.noat "BadText" "line").ok K = true := c.fact 48
    have f_e_BadProgram : Aw.efcB "BadProgram" "ValueError.__new__" Aw.veT (fun K => .ref (He.ga K "ReadError") :: Aw.veT) K = true := c.fact 49
    have f_n_BadProgram_error : (He.Fa.noat "BadProgram" "error").ok K = true := c.fact 50
    have f_e_BadFix : Aw.efcB "BadFix" "ValueError.__new__" Aw.veT (fun K => .ref (He.ga K "ReadError") :: Aw.veT) K = true := c.fact 51
    have f_n_BadFix_value : (He.Fa.noat "BadFix" "value").ok K = true := c.fact 52
    have f_e_BadNumber : Aw.efcB "BadNumber" "ValueError.__new__" Aw.veT (fun K => .ref (He.ga K "ReadError") :: Aw.veT) K = true := c.fact 53
    have f_n_BadNumber_number : (He.Fa.noat "BadNumber" "number").ok K = true := c.fact 54
    have f_e_BadReadings : Aw.efcB "BadReadings" "ValueError.__new__" Aw.veT (fun K => .ref (He.ga K "ReadError") :: Aw.veT) K = true := c.fact 55
    have f_n_BadReadings_readings : (He.Fa.noat "BadReadings" "readings").ok K = true := c.fact 56
    have f_e_BadLength : Aw.efcB "BadLength" "ValueError.__new__" Aw.veT (fun K => .ref (He.ga K "ReadError") :: Aw.veT) K = true := c.fact 57
    have f_n_BadLength_length : (He.Fa.noat "BadLength" "length").ok K = true := c.fact 58
    have f_e_BadVectors : Aw.efcB "BadVectors" "ValueError.__new__" Aw.veT (fun K => .ref (He.ga K "ReadError") :: Aw.veT) K = true := c.fact 59
    have f_n_BadVectors_index : (He.Fa.noat "BadVectors" "index").ok K = true := c.fact 60
    have f_e_BadVector : Aw.efcB "BadVector" "ValueError.__new__" Aw.veT (fun K => .ref (He.ga K "ReadError") :: Aw.veT) K = true := c.fact 61
    have f_n_BadVector_vector : (He.Fa.noat "BadVector" "vector").ok K = true := c.fact 62
    have f_e_OtherLength : Aw.efcB "OtherLength" "ValueError.__new__" Aw.veT (fun K => .ref (He.ga K "ReadError") :: Aw.veT) K = true := c.fact 63
    have f_n_OtherLength_length : (He.Fa.noat "OtherLength" "length").ok K = true := c.fact 64
    have f_e_NoReader : Aw.efcB "NoReader" "ValueError.__new__" Aw.veT (fun K => .ref (He.ga K "ReadError") :: Aw.veT) K = true := c.fact 65
    have f_n_NoReader_place : (He.Fa.noat "NoReader" "place").ok K = true := c.fact 66
    have f_e_IsHeld : Aw.efcB "IsHeld" "ValueError.__new__" Aw.veT (fun K => .ref (He.ga K "ReadError") :: Aw.veT) K = true := c.fact 67
    have f_n_IsHeld_place : (He.Fa.noat "IsHeld" "place").ok K = true := c.fact 68
    have f_e_NotHeld : Aw.efcB "NotHeld" "ValueError.__new__" Aw.veT (fun K => .ref (He.ga K "ReadError") :: Aw.veT) K = true := c.fact 69
    have f_n_NotHeld_place : (He.Fa.noat "NotHeld" "place").ok K = true := c.fact 70
    have f_e_Loose : Aw.efcB "Loose" "ValueError.__new__" Aw.veT (fun K => .ref (He.ga K "ReadError") :: Aw.veT) K = true := c.fact 71
    have f_n_Loose_number : (He.Fa.noat "Loose" "number").ok K = true := c.fact 72
    have f_n_Loose_index : (He.Fa.noat "Loose" "index").ok K = true := c.fact 73
    have f_e_Busy : Aw.efcB "Busy" "ValueError.__new__" Aw.veT (fun K => .ref (He.ga K "ReadError") :: Aw.veT) K = true := c.fact 74
    have f_q_Busy : PySem.W.excIn K (He.ga K "Busy") Aw.veT "ValueError.__new__" = true := c.fact 75
    have f_e_TooManyEdits : Aw.efcB "TooManyEdits" "ValueError.__new__" Aw.veT (fun K => .ref (He.ga K "ReadError") :: Aw.veT) K = true := c.fact 76
    have f_q_TooManyEdits : PySem.W.excIn K (He.ga K "TooManyEdits") Aw.veT "ValueError.__new__" = true := c.fact 77
    have f_e_NothingToUndo : Aw.efcB "NothingToUndo" "ValueError.__new__" Aw.veT (fun K => .ref (He.ga K "ReadError") :: Aw.veT) K = true := c.fact 78
    have f_q_NothingToUndo : PySem.W.excIn K (He.ga K "NothingToUndo") Aw.veT "ValueError.__new__" = true := c.fact 79
    have f_e_NothingToRedo : Aw.efcB "NothingToRedo" "ValueError.__new__" Aw.veT (fun K => .ref (He.ga K "ReadError") :: Aw.veT) K = true := c.fact 80
    have f_q_NothingToRedo : PySem.W.excIn K (He.ga K "NothingToRedo") Aw.veT "ValueError.__new__" = true := c.fact 81
    have f_e_BadEdits : Aw.efcB "BadEdits" "ValueError.__new__" Aw.veT (fun K => .ref (He.ga K "ReadError") :: Aw.veT) K = true := c.fact 82
    have f_q_BadEdits : PySem.W.excIn K (He.ga K "BadEdits") Aw.veT "ValueError.__new__" = true := c.fact 83
    have f_e_BadEdit : Aw.efcB "BadEdit" "ValueError.__new__" Aw.veT (fun K => .ref (He.ga K "ReadError") :: Aw.veT) K = true := c.fact 84
    have f_n_BadEdit_index : (He.Fa.noat "BadEdit" "index").ok K = true := c.fact 85
    have f_e_Rejected : Aw.efcB "Rejected" "ValueError.__new__" Aw.veT (fun K => .ref (He.ga K "ReadError") :: Aw.veT) K = true := c.fact 86
    have f_n_Rejected_index : (He.Fa.noat "Rejected" "index").ok K = true := c.fact 87
    have f_e_NoPlace : Aw.efcB "NoPlace" "LookupError.__new__" Aw.leT (fun _ => Aw.leT) K = true := c.fact 88
    have f_n_NoPlace_place : (He.Fa.noat "NoPlace" "place").ok K = true := c.fact 89
    have f_e_NoVersion : Aw.efcB "NoVersion" "LookupError.__new__" Aw.leT (fun _ => Aw.leT) K = true := c.fact 90
    have f_n_NoVersion_version : (He.Fa.noat "NoVersion" "version").ok K = true := c.fact 91
    have f_rd : PySem.W.readsIn K (He.ga K "ReadError") (.type "type") = true := c.fact 92
    have f_spG : He.eqO (PySem.W.specialIn K (.ref (He.ga K "ReadError")) "__getattribute__") (some (some (.builtin "type.__getattribute__"))) = true := c.fact 93
    have f_vV : Aw.valB K (.ref (He.ga K "ReadError")) (.type "type") "__init__" (.builtin "ValueError.__init__") = true := c.fact 94
    have f_vL : Aw.valB K (.type "LookupError") (.type "type") "__init__" (.builtin "LookupError.__init__") = true := c.fact 95
    have f_hn : He.eqO (PySem.W.specialIn K (.builtin "object.__class__") "__get__") (some (some (.builtin "getset_descriptor.__get__"))) = true := c.fact 96
    have f_ht : decide (PySem.W.takesIn K (.builtin "object.__class__") = some true) = true := c.fact 97
    have f_hVE : (He.Fa.free "ValueError").ok K = true := c.fact 98
    have f_hLE : (He.Fa.free "LookupError").ok K = true := c.fact 99
    have f_nd : Aw.apartB ["ReadError", "NoPlace", "NoVersion", "BadText", "BadProgram", "BadFix", "BadNumber", "BadReadings", "BadLength", "BadVectors", "BadVector", "OtherLength", "NoReader", "IsHeld", "NotHeld", "Loose", "Busy", "TooManyEdits", "NothingToUndo", "NothingToRedo", "BadEdits", "BadEdit", "Rejected"] K = true := c.fact 100
    have f_cB : Aw.cintB "Bench" "MOST_EDITS" 60 K = true := c.fact 101
    have f_cS : Aw.cintB "SureBench" "MOST_EDITS" 60 K = true := c.fact 102
    have f_i_MAX_NAME : (He.Fa.int "MAX_NAME" 8).ok K = true := c.fact 103
    have f_i_MAX_WORD : (He.Fa.int "MAX_WORD" 8).ok K = true := c.fact 104
    have f_i_MAX_TIMES : (He.Fa.int "MAX_TIMES" 8).ok K = true := c.fact 105
    have f_i_MAX_DEEP : (He.Fa.int "MAX_DEEP" 3).ok K = true := c.fact 106
    have f_i_MAX_NOTS : (He.Fa.int "MAX_NOTS" 2).ok K = true := c.fact 107
    have f_i_MAX_BY : (He.Fa.int "MAX_BY" 6).ok K = true := c.fact 108
    have f_i_MAX_PLACES : (He.Fa.int "MAX_PLACES" 24).ok K = true := c.fact 109
    have f_i_MAX_WEIGHT : (He.Fa.int "MAX_WEIGHT" 30).ok K = true := c.fact 110
    have f_i_MAX_RESTS : (He.Fa.int "MAX_RESTS" 2).ok K = true := c.fact 111
    have f_i_MAX_COMPARINGS : (He.Fa.int "MAX_COMPARINGS" 2).ok K = true := c.fact 112
    have f_i_MAX_NEST : (He.Fa.int "MAX_NEST" 3).ok K = true := c.fact 113
    have f_i_MAX_LENGTH : (He.Fa.int "MAX_LENGTH" 30).ok K = true := c.fact 114
    have f_i_MAX_MODULUS : (He.Fa.int "MAX_MODULUS" 1000).ok K = true := c.fact 115
    have f_i_MAX_PERIOD : (He.Fa.int "MAX_PERIOD" 1000000).ok K = true := c.fact 116
    have f_i_MAX_EDITS : (He.Fa.int "MAX_EDITS" 60).ok K = true := c.fact 117
    have f_i_BATCH : (He.Fa.int "BATCH" 20).ok K = true := c.fact 118
    obtain ⟨fd__law_deck, FD__law_deck⟩ := c.def_ 0
    have D_law_deck : Aw.Df K mg "_law_deck" Aw.s_law_deck Aw.P_law_deck := Aw.df_hd KX G FD__law_deck f_d__law_deck (by exact fun _ _ _ _ _ _ us hl => match us, hl with | [_], _ => rfl)
    obtain ⟨fd__law_draw, FD__law_draw⟩ := c.def_ 1
    have D_law_draw : Aw.Df K mg "_law_draw" Aw.s_law_draw Aw.P_law_draw := Aw.df_hd KX G FD__law_draw f_d__law_draw (by exact fun _ _ _ _ _ _ us hl => match us, hl with | [_, _], _ => rfl)
    obtain ⟨fd__law_one, FD__law_one⟩ := c.def_ 2
    have D_law_one : Aw.Df K mg "_law_one" Aw.s_law_one Aw.P_law_one := Aw.df_hd KX G FD__law_one f_d__law_one (by exact fun _ _ _ _ _ _ us hl => match us, hl with | [_, _], _ => rfl)
    obtain ⟨fd__law_value, FD__law_value⟩ := c.def_ 3
    have D_law_value : Aw.Df K mg "_law_value" Aw.s_law_value Aw.P_law_value := Aw.df_hd KX G FD__law_value f_d__law_value (by exact fun _ _ _ _ _ _ us hl => match us, hl with | [_], _ => rfl)
    obtain ⟨fd__law_kinds, FD__law_kinds⟩ := c.def_ 4
    have D_law_kinds : Aw.Df K mg "_law_kinds" Aw.s_law_kinds Aw.P_law_kinds := Aw.df_hd KX G FD__law_kinds f_d__law_kinds (by exact fun _ _ _ _ _ _ us hl => match us, hl with | [_], _ => rfl)
    obtain ⟨fd__law_kinds_right, FD__law_kinds_right⟩ := c.def_ 5
    have D_law_kinds_right : Aw.Df K mg "_law_kinds_right" Aw.s_law_kinds_right Aw.P_law_kinds_right := Aw.df_hd KX G FD__law_kinds_right f_d__law_kinds_right (by exact fun _ _ _ _ _ _ us hl => match us, hl with | [_], _ => rfl)
    obtain ⟨fd__law_fields_right, FD__law_fields_right⟩ := c.def_ 6
    have D_law_fields_right : Aw.Df K mg "_law_fields_right" Aw.s_law_fields_right Aw.P_law_fields_right := Aw.df_hd KX G FD__law_fields_right f_d__law_fields_right (by exact fun _ _ _ _ _ _ us hl => match us, hl with | [_, _], _ => rfl)
    obtain ⟨fd__law_bounds, FD__law_bounds⟩ := c.def_ 7
    have D_law_bounds : Aw.Df K mg "_law_bounds" Aw.s_law_bounds Aw.P_law_bounds := Aw.df_hd KX G FD__law_bounds f_d__law_bounds (by exact fun _ _ _ _ _ _ us hl => match us, hl with | [], _ => rfl)
    obtain ⟨fd_BadText___init__, FD_BadText___init__⟩ := c.def_ 8
    have DBadText___init__ : Aw.DfM K (He.ga K "BadText") "__init__" "BadText.__init__" Aw.sBadText___init__ Aw.PBadText___init__ := Aw.dfm_hd FD_BadText___init__ f_d_BadText___init__ (by exact fun _ _ _ _ _ _ us hl => match us, hl with | [_, _], _ => rfl)
    obtain ⟨fd_BadProgram___init__, FD_BadProgram___init__⟩ := c.def_ 9
    have DBadProgram___init__ : Aw.DfM K (He.ga K "BadProgram") "__init__" "BadProgram.__init__" Aw.sBadProgram___init__ Aw.PBadProgram___init__ := Aw.dfm_hd FD_BadProgram___init__ f_d_BadProgram___init__ (by exact fun _ _ _ _ _ _ us hl => match us, hl with | [_, _], _ => rfl)
    obtain ⟨fd_BadFix___init__, FD_BadFix___init__⟩ := c.def_ 10
    have DBadFix___init__ : Aw.DfM K (He.ga K "BadFix") "__init__" "BadFix.__init__" Aw.sBadFix___init__ Aw.PBadFix___init__ := Aw.dfm_hd FD_BadFix___init__ f_d_BadFix___init__ (by exact fun _ _ _ _ _ _ us hl => match us, hl with | [_, _], _ => rfl)
    obtain ⟨fd_BadNumber___init__, FD_BadNumber___init__⟩ := c.def_ 11
    have DBadNumber___init__ : Aw.DfM K (He.ga K "BadNumber") "__init__" "BadNumber.__init__" Aw.sBadNumber___init__ Aw.PBadNumber___init__ := Aw.dfm_hd FD_BadNumber___init__ f_d_BadNumber___init__ (by exact fun _ _ _ _ _ _ us hl => match us, hl with | [_, _], _ => rfl)
    obtain ⟨fd_BadReadings___init__, FD_BadReadings___init__⟩ := c.def_ 12
    have DBadReadings___init__ : Aw.DfM K (He.ga K "BadReadings") "__init__" "BadReadings.__init__" Aw.sBadReadings___init__ Aw.PBadReadings___init__ := Aw.dfm_hd FD_BadReadings___init__ f_d_BadReadings___init__ (by exact fun _ _ _ _ _ _ us hl => match us, hl with | [_, _], _ => rfl)
    obtain ⟨fd_BadLength___init__, FD_BadLength___init__⟩ := c.def_ 13
    have DBadLength___init__ : Aw.DfM K (He.ga K "BadLength") "__init__" "BadLength.__init__" Aw.sBadLength___init__ Aw.PBadLength___init__ := Aw.dfm_hd FD_BadLength___init__ f_d_BadLength___init__ (by exact fun _ _ _ _ _ _ us hl => match us, hl with | [_, _], _ => rfl)
    obtain ⟨fd_BadVectors___init__, FD_BadVectors___init__⟩ := c.def_ 14
    have DBadVectors___init__ : Aw.DfM K (He.ga K "BadVectors") "__init__" "BadVectors.__init__" Aw.sBadVectors___init__ Aw.PBadVectors___init__ := Aw.dfm_hd FD_BadVectors___init__ f_d_BadVectors___init__ (by exact fun _ _ _ _ _ _ us hl => match us, hl with | [_, _], _ => rfl)
    obtain ⟨fd_BadVector___init__, FD_BadVector___init__⟩ := c.def_ 15
    have DBadVector___init__ : Aw.DfM K (He.ga K "BadVector") "__init__" "BadVector.__init__" Aw.sBadVector___init__ Aw.PBadVector___init__ := Aw.dfm_hd FD_BadVector___init__ f_d_BadVector___init__ (by exact fun _ _ _ _ _ _ us hl => match us, hl with | [_, _], _ => rfl)
    obtain ⟨fd_OtherLength___init__, FD_OtherLength___init__⟩ := c.def_ 16
    have DOtherLength___init__ : Aw.DfM K (He.ga K "OtherLength") "__init__" "OtherLength.__init__" Aw.sOtherLength___init__ Aw.POtherLength___init__ := Aw.dfm_hd FD_OtherLength___init__ f_d_OtherLength___init__ (by exact fun _ _ _ _ _ _ us hl => match us, hl with | [_, _], _ => rfl)
    obtain ⟨fd_NoReader___init__, FD_NoReader___init__⟩ := c.def_ 17
    have DNoReader___init__ : Aw.DfM K (He.ga K "NoReader") "__init__" "NoReader.__init__" Aw.sNoReader___init__ Aw.PNoReader___init__ := Aw.dfm_hd FD_NoReader___init__ f_d_NoReader___init__ (by exact fun _ _ _ _ _ _ us hl => match us, hl with | [_, _], _ => rfl)
    obtain ⟨fd_IsHeld___init__, FD_IsHeld___init__⟩ := c.def_ 18
    have DIsHeld___init__ : Aw.DfM K (He.ga K "IsHeld") "__init__" "IsHeld.__init__" Aw.sIsHeld___init__ Aw.PIsHeld___init__ := Aw.dfm_hd FD_IsHeld___init__ f_d_IsHeld___init__ (by exact fun _ _ _ _ _ _ us hl => match us, hl with | [_, _], _ => rfl)
    obtain ⟨fd_NotHeld___init__, FD_NotHeld___init__⟩ := c.def_ 19
    have DNotHeld___init__ : Aw.DfM K (He.ga K "NotHeld") "__init__" "NotHeld.__init__" Aw.sNotHeld___init__ Aw.PNotHeld___init__ := Aw.dfm_hd FD_NotHeld___init__ f_d_NotHeld___init__ (by exact fun _ _ _ _ _ _ us hl => match us, hl with | [_, _], _ => rfl)
    obtain ⟨fd_Loose___init__, FD_Loose___init__⟩ := c.def_ 20
    have DLoose___init__ : Aw.DfM K (He.ga K "Loose") "__init__" "Loose.__init__" Aw.sLoose___init__ Aw.PLoose___init__ := Aw.dfm_hd FD_Loose___init__ f_d_Loose___init__ (by exact fun _ _ _ _ _ _ us hl => match us, hl with | [_, _, _], _ => rfl)
    obtain ⟨fd_BadEdit___init__, FD_BadEdit___init__⟩ := c.def_ 21
    have DBadEdit___init__ : Aw.DfM K (He.ga K "BadEdit") "__init__" "BadEdit.__init__" Aw.sBadEdit___init__ Aw.PBadEdit___init__ := Aw.dfm_hd FD_BadEdit___init__ f_d_BadEdit___init__ (by exact fun _ _ _ _ _ _ us hl => match us, hl with | [_, _], _ => rfl)
    obtain ⟨fd_Rejected___init__, FD_Rejected___init__⟩ := c.def_ 22
    have DRejected___init__ : Aw.DfM K (He.ga K "Rejected") "__init__" "Rejected.__init__" Aw.sRejected___init__ Aw.PRejected___init__ := Aw.dfm_hd FD_Rejected___init__ f_d_Rejected___init__ (by exact fun _ _ _ _ _ _ us hl => match us, hl with | [_, _], _ => rfl)
    obtain ⟨fd_NoPlace___init__, FD_NoPlace___init__⟩ := c.def_ 23
    have DNoPlace___init__ : Aw.DfM K (He.ga K "NoPlace") "__init__" "NoPlace.__init__" Aw.sNoPlace___init__ Aw.PNoPlace___init__ := Aw.dfm_hd FD_NoPlace___init__ f_d_NoPlace___init__ (by exact fun _ _ _ _ _ _ us hl => match us, hl with | [_, _], _ => rfl)
    obtain ⟨fd_NoVersion___init__, FD_NoVersion___init__⟩ := c.def_ 24
    have DNoVersion___init__ : Aw.DfM K (He.ga K "NoVersion") "__init__" "NoVersion.__init__" Aw.sNoVersion___init__ Aw.PNoVersion___init__ := Aw.dfm_hd FD_NoVersion___init__ f_d_NoVersion___init__ (by exact fun _ _ _ _ _ _ us hl => match us, hl with | [_, _], _ => rfl)
    obtain ⟨fd_law, FD_law⟩ := c.def_ 25
    have Dlaw : Aw.Df K mg "law" Aw.slaw Aw.Plaw := Aw.df_hd KX G FD_law f_d_law (by exact fun _ _ _ _ _ _ us hl => match us, hl with | [_], _ => rfl)
    have B : Aw.Blt mg := ⟨He.free_ok KX G f_b_len, He.free_ok KX G f_b_int, He.free_ok KX G f_b_abs, He.free_ok KX G f_b_str, He.free_ok KX G f_b_bool, He.free_ok KX G f_b_range, He.free_ok KX G f_b_isinstance, He.free_ok KX G f_b_tuple, He.free_ok KX G f_b_list, He.free_ok KX G f_b_repr, He.free_ok KX G f_b_zip, He.free_ok KX G f_b_enumerate, He.free_ok KX G f_b_sum, He.free_ok KX G f_b_min, He.free_ok KX G f_b_max, He.free_ok KX G f_b_all, He.free_ok KX G f_b_any, He.free_ok KX G f_b_sorted, He.free_ok KX G f_b_dict⟩
    have e_ReadError := Aw.efc_hd KX G f_e_ReadError
    have e_BadText := Aw.efc_hd KX G f_e_BadText
    have n_BadText_line := He.noat_ok f_n_BadText_line
    have e_BadProgram := Aw.efc_hd KX G f_e_BadProgram
    have n_BadProgram_error := He.noat_ok f_n_BadProgram_error
    have e_BadFix := Aw.efc_hd KX G f_e_BadFix
    have n_BadFix_value := He.noat_ok f_n_BadFix_value
    have e_BadNumber := Aw.efc_hd KX G f_e_BadNumber
    have n_BadNumber_number := He.noat_ok f_n_BadNumber_number
    have e_BadReadings := Aw.efc_hd KX G f_e_BadReadings
    have n_BadReadings_readings := He.noat_ok f_n_BadReadings_readings
    have e_BadLength := Aw.efc_hd KX G f_e_BadLength
    have n_BadLength_length := He.noat_ok f_n_BadLength_length
    have e_BadVectors := Aw.efc_hd KX G f_e_BadVectors
    have n_BadVectors_index := He.noat_ok f_n_BadVectors_index
    have e_BadVector := Aw.efc_hd KX G f_e_BadVector
    have n_BadVector_vector := He.noat_ok f_n_BadVector_vector
    have e_OtherLength := Aw.efc_hd KX G f_e_OtherLength
    have n_OtherLength_length := He.noat_ok f_n_OtherLength_length
    have e_NoReader := Aw.efc_hd KX G f_e_NoReader
    have n_NoReader_place := He.noat_ok f_n_NoReader_place
    have e_IsHeld := Aw.efc_hd KX G f_e_IsHeld
    have n_IsHeld_place := He.noat_ok f_n_IsHeld_place
    have e_NotHeld := Aw.efc_hd KX G f_e_NotHeld
    have n_NotHeld_place := He.noat_ok f_n_NotHeld_place
    have e_Loose := Aw.efc_hd KX G f_e_Loose
    have n_Loose_number := He.noat_ok f_n_Loose_number
    have n_Loose_index := He.noat_ok f_n_Loose_index
    have e_Busy := Aw.efc_hd KX G f_e_Busy
    have e_TooManyEdits := Aw.efc_hd KX G f_e_TooManyEdits
    have e_NothingToUndo := Aw.efc_hd KX G f_e_NothingToUndo
    have e_NothingToRedo := Aw.efc_hd KX G f_e_NothingToRedo
    have e_BadEdits := Aw.efc_hd KX G f_e_BadEdits
    have e_BadEdit := Aw.efc_hd KX G f_e_BadEdit
    have n_BadEdit_index := He.noat_ok f_n_BadEdit_index
    have e_Rejected := Aw.efc_hd KX G f_e_Rejected
    have n_Rejected_index := He.noat_ok f_n_Rejected_index
    have e_NoPlace := Aw.efc_hd KX G f_e_NoPlace
    have n_NoPlace_place := He.noat_ok f_n_NoPlace_place
    have e_NoVersion := Aw.efc_hd KX G f_e_NoVersion
    have n_NoVersion_version := He.noat_ok f_n_NoVersion_version
    have hVE := He.free_ok KX G f_hVE
    have hLE := He.free_ok KX G f_hLE
    have ob : Aw.ObC K := ⟨He.eqO_ok f_hn, of_decide_eq_true f_ht⟩
    have vV := Aw.valB_ok f_vV
    have vL := Aw.valB_ok f_vL
    have spG := He.eqO_ok f_spG
    have hnd : ([He.ga K "ReadError", He.ga K "NoPlace", He.ga K "NoVersion"] ++ [He.ga K "BadText", He.ga K "BadProgram", He.ga K "BadFix", He.ga K "BadNumber", He.ga K "BadReadings", He.ga K "BadLength", He.ga K "BadVectors", He.ga K "BadVector", He.ga K "OtherLength", He.ga K "NoReader", He.ga K "IsHeld", He.ga K "NotHeld", He.ga K "Loose", He.ga K "Busy", He.ga K "TooManyEdits", He.ga K "NothingToUndo", He.ga K "NothingToRedo", He.ga K "BadEdits", He.ga K "BadEdit", He.ga K "Rejected"]).Nodup := of_decide_eq_true f_nd
    obtain ⟨gB, rB, uB, vB⟩ := Aw.cint_hd f_cB
    obtain ⟨gS, rS, uS, vS⟩ := Aw.cint_hd f_cS
    have b_MAX_NAME := He.int_ok KX G f_i_MAX_NAME
    have b_MAX_WORD := He.int_ok KX G f_i_MAX_WORD
    have b_MAX_TIMES := He.int_ok KX G f_i_MAX_TIMES
    have b_MAX_DEEP := He.int_ok KX G f_i_MAX_DEEP
    have b_MAX_NOTS := He.int_ok KX G f_i_MAX_NOTS
    have b_MAX_BY := He.int_ok KX G f_i_MAX_BY
    have b_MAX_PLACES := He.int_ok KX G f_i_MAX_PLACES
    have b_MAX_WEIGHT := He.int_ok KX G f_i_MAX_WEIGHT
    have b_MAX_RESTS := He.int_ok KX G f_i_MAX_RESTS
    have b_MAX_COMPARINGS := He.int_ok KX G f_i_MAX_COMPARINGS
    have b_MAX_NEST := He.int_ok KX G f_i_MAX_NEST
    have b_MAX_LENGTH := He.int_ok KX G f_i_MAX_LENGTH
    have b_MAX_MODULUS := He.int_ok KX G f_i_MAX_MODULUS
    have b_MAX_PERIOD := He.int_ok KX G f_i_MAX_PERIOD
    have b_MAX_EDITS := He.int_ok KX G f_i_MAX_EDITS
    have b_BATCH := He.int_ok KX G f_i_BATCH
    have G1 := Aw.ok_law_deck (P := PySem.Challenge.pw_anewread_k00_errors_made_by_hand) (w := w) (base := base) D_law_deck B
    have G2 := Aw.ok_law_draw (P := PySem.Challenge.pw_anewread_k00_errors_made_by_hand) (w := w) (base := base) D_law_draw B
    have G3 := Aw.ok_law_one D_law_one B G2
    have G4 := Aw.ok_law_value D_law_value B G2 G3
    have G5 := Aw.ok_law_kinds (P := PySem.Challenge.pw_anewread_k00_errors_made_by_hand) (w := w) (base := base) D_law_kinds B e_BadText.at_ e_BadProgram.at_ e_BadFix.at_ e_BadNumber.at_ e_BadReadings.at_ e_BadLength.at_ e_BadVectors.at_ e_BadVector.at_ e_OtherLength.at_ e_NoReader.at_ e_IsHeld.at_ e_NotHeld.at_ e_Loose.at_ e_Busy.at_ e_TooManyEdits.at_ e_NothingToUndo.at_ e_NothingToRedo.at_ e_BadEdits.at_ e_BadEdit.at_ e_Rejected.at_
    have GBadText := Aw.HasG.of Aw.veF e_BadText (Aw.ok_BadText_init (P := PySem.Challenge.pw_anewread_k00_errors_made_by_hand) (w := w) (base := base) DBadText___init__ B e_BadText.oex n_BadText_line e_ReadError.at_ f_rd spG vV)
    have GBadProgram := Aw.HasG.of Aw.veF e_BadProgram (Aw.ok_BadProgram_init (P := PySem.Challenge.pw_anewread_k00_errors_made_by_hand) (w := w) (base := base) DBadProgram___init__ B e_BadProgram.oex n_BadProgram_error e_ReadError.at_ f_rd spG vV)
    have GBadFix := Aw.HasG.of Aw.veF e_BadFix (Aw.ok_BadFix_init (P := PySem.Challenge.pw_anewread_k00_errors_made_by_hand) (w := w) (base := base) DBadFix___init__ B e_BadFix.oex n_BadFix_value e_ReadError.at_ f_rd spG vV)
    have GBadNumber := Aw.HasG.of Aw.veF e_BadNumber (Aw.ok_BadNumber_init (P := PySem.Challenge.pw_anewread_k00_errors_made_by_hand) (w := w) (base := base) DBadNumber___init__ B e_BadNumber.oex n_BadNumber_number e_ReadError.at_ f_rd spG vV)
    have GBadReadings := Aw.HasG.of Aw.veF e_BadReadings (Aw.ok_BadReadings_init (P := PySem.Challenge.pw_anewread_k00_errors_made_by_hand) (w := w) (base := base) DBadReadings___init__ B e_BadReadings.oex n_BadReadings_readings e_ReadError.at_ f_rd spG vV)
    have GBadLength := Aw.HasG.of Aw.veF e_BadLength (Aw.ok_BadLength_init (P := PySem.Challenge.pw_anewread_k00_errors_made_by_hand) (w := w) (base := base) DBadLength___init__ B e_BadLength.oex n_BadLength_length e_ReadError.at_ f_rd spG vV)
    have GBadVectors := Aw.HasG.of Aw.veF e_BadVectors (Aw.ok_BadVectors_init (P := PySem.Challenge.pw_anewread_k00_errors_made_by_hand) (w := w) (base := base) DBadVectors___init__ B e_BadVectors.oex n_BadVectors_index e_ReadError.at_ f_rd spG vV)
    have GBadVector := Aw.HasG.of Aw.veF e_BadVector (Aw.ok_BadVector_init (P := PySem.Challenge.pw_anewread_k00_errors_made_by_hand) (w := w) (base := base) DBadVector___init__ B e_BadVector.oex n_BadVector_vector e_ReadError.at_ f_rd spG vV)
    have GOtherLength := Aw.HasG.of Aw.veF e_OtherLength (Aw.ok_OtherLength_init (P := PySem.Challenge.pw_anewread_k00_errors_made_by_hand) (w := w) (base := base) DOtherLength___init__ B e_OtherLength.oex n_OtherLength_length e_ReadError.at_ f_rd spG vV)
    have GNoReader := Aw.HasG.of Aw.veF e_NoReader (Aw.ok_NoReader_init (P := PySem.Challenge.pw_anewread_k00_errors_made_by_hand) (w := w) (base := base) DNoReader___init__ B e_NoReader.oex n_NoReader_place e_ReadError.at_ f_rd spG vV)
    have GIsHeld := Aw.HasG.of Aw.veF e_IsHeld (Aw.ok_IsHeld_init (P := PySem.Challenge.pw_anewread_k00_errors_made_by_hand) (w := w) (base := base) DIsHeld___init__ B e_IsHeld.oex n_IsHeld_place e_ReadError.at_ f_rd spG vV)
    have GNotHeld := Aw.HasG.of Aw.veF e_NotHeld (Aw.ok_NotHeld_init (P := PySem.Challenge.pw_anewread_k00_errors_made_by_hand) (w := w) (base := base) DNotHeld___init__ B e_NotHeld.oex n_NotHeld_place e_ReadError.at_ f_rd spG vV)
    have GLoose := Aw.HasG.of Aw.veF e_Loose (Aw.ok_Loose_init (P := PySem.Challenge.pw_anewread_k00_errors_made_by_hand) (w := w) (base := base) DLoose___init__ B e_Loose.oex n_Loose_number n_Loose_index e_ReadError.at_ f_rd spG vV)
    have GBadEdit := Aw.HasG.of Aw.veF e_BadEdit (Aw.ok_BadEdit_init (P := PySem.Challenge.pw_anewread_k00_errors_made_by_hand) (w := w) (base := base) DBadEdit___init__ B e_BadEdit.oex n_BadEdit_index e_ReadError.at_ f_rd spG vV)
    have GRejected := Aw.HasG.of Aw.veF e_Rejected (Aw.ok_Rejected_init (P := PySem.Challenge.pw_anewread_k00_errors_made_by_hand) (w := w) (base := base) DRejected___init__ B e_Rejected.oex n_Rejected_index e_ReadError.at_ f_rd spG vV)
    have GNoPlace := Aw.HasG.of Aw.leF e_NoPlace (Aw.ok_NoPlace_init (P := PySem.Challenge.pw_anewread_k00_errors_made_by_hand) (w := w) (base := base) DNoPlace___init__ B hLE e_NoPlace.gex n_NoPlace_place vL)
    have GNoVersion := Aw.HasG.of Aw.leF e_NoVersion (Aw.ok_NoVersion_init (P := PySem.Challenge.pw_anewread_k00_errors_made_by_hand) (w := w) (base := base) DNoVersion___init__ B hLE e_NoVersion.gex n_NoVersion_version vL)
    have G6 := Aw.ok_law_kinds_right D_law_kinds_right B ob hVE hLE e_BadText e_BadProgram e_BadFix e_BadNumber e_BadReadings e_BadLength e_BadVectors e_BadVector e_OtherLength e_NoReader e_IsHeld e_NotHeld e_Loose e_Busy e_TooManyEdits e_NothingToUndo e_NothingToRedo e_BadEdits e_BadEdit e_Rejected e_ReadError e_NoPlace e_NoVersion GBadText GBadProgram GBadFix GBadNumber GBadReadings GBadLength GBadVectors GBadVector GOtherLength GNoReader GIsHeld GNotHeld GLoose GBadEdit GRejected GNoPlace GNoVersion f_q_Busy f_q_TooManyEdits f_q_NothingToUndo f_q_NothingToRedo f_q_BadEdits f_q_ReadError hnd G5
    have G7 := Aw.ok_law_fields_right D_law_fields_right B hSys e_BadText e_BadProgram e_BadFix e_BadNumber e_BadReadings e_BadLength e_BadVectors e_BadVector e_OtherLength e_NoReader e_IsHeld e_NotHeld e_Loose e_BadEdit e_Rejected e_NoPlace e_NoVersion GBadText GBadProgram GBadFix GBadNumber GBadReadings GBadLength GBadVectors GBadVector GOtherLength GNoReader GIsHeld GNotHeld GLoose GBadEdit GRejected GNoPlace GNoVersion n_BadText_line n_BadProgram_error n_BadFix_value n_BadNumber_number n_BadReadings_readings n_BadLength_length n_BadVectors_index n_BadVector_vector n_OtherLength_length n_NoReader_place n_IsHeld_place n_NotHeld_place n_Loose_number n_Loose_index n_BadEdit_index n_Rejected_index n_NoPlace_place n_NoVersion_version
    have G8 := Aw.ok_law_bounds (P := PySem.Challenge.pw_anewread_k00_errors_made_by_hand) (w := w) (base := base) D_law_bounds b_MAX_NAME b_MAX_WORD b_MAX_TIMES b_MAX_DEEP b_MAX_NOTS b_MAX_BY b_MAX_PLACES b_MAX_WEIGHT b_MAX_RESTS b_MAX_COMPARINGS b_MAX_NEST b_MAX_LENGTH b_MAX_MODULUS b_MAX_PERIOD b_MAX_EDITS b_BATCH (He.glo_ok KX G gB) (He.glo_ok KX G gS) rB rS vB vS
    exact Aw.ok_law Dlaw B hSys G1 G4 G6 G7 G8
