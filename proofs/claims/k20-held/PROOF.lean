import PyProof.Rows.All
import Wide.All
import OpenK.AllK
import Wide.FinOn
import KE.KStateDown
import HandS.Base
import HandS.Call
import HandS.Defaults
import HandS.Head0
import HandS.Head1
import HandS.Head2
import HandS.HeadHook1
import HandS.HeadHook2
import HandS.ForMost
import HandS.IsInst
import HandS.TupAny
import HandS.RaiseMore
import HandS.Conv
import HandS.WideBits
import HandS.More
import HandS.Style
import PyProof.NeKinds
import PyProof.StrLawsIn
import HandS.TupMul
import HandS.ListItems
import HandS.Zip
import KE.KDictList
import HandS.ReplaceLit
import HandS.ReplaceList
import HandS.NoneIn
import HandS.ExcInit
import HandS.ExcField
import HandS.ExcOwn
import HandS.TryMany
import HandS.WordsExc
import HandS.ExcIs
import HandS.ExcValue
import KE.KExcInit
import HandS.DeepEq
import HandS.ClsMeth
import HandS.GenList
import KE.GoesEnum
import PySem.Challenge.RW_anewread_k20_whole_held_places_go_with_t
set_option Elab.async false
set_option linter.all false
set_option maxRecDepth 100000
set_option maxHeartbeats 4000000
set_option autoImplicit false
namespace Aw
open PySem PySem.Spec PyProof.Rows L2
abbrev Fct : Type := PySem.W.Frag → Bool
abbrev AlX : Type := Bool × List He.FnW
def obsX (cs : List Fct) (fn : List He.DefD) (K : PySem.W.Frag) : AlX := ((cs.all fun c => c K) && fn.all fun d => d.ok K, fn.map fun d => He.fnW K d.at_)
def valX (fn : List He.DefD) : AlX := (true, fn.map He.DefD.val)
def SaysX (cs : List Fct) (fn : List He.DefD) (K : PySem.W.Frag) : Prop := obsX cs fn K = valX fn
def hookX (as : List Addr) (cs : List Fct) (fn : List He.DefD) : PySem.W.Hook where
  α := AlX
  obs := fun s => obsX cs fn (He.frG s.heap.get? as)
  val := fun _ => valX fn
  says := fun _ h => ∃ K : PySem.W.Frag, K.In h ∧ SaysX cs fn K
  of := fun _ _ e => ⟨_, He.frG_in, e⟩
  keeps := fun _ _ _ ⟨K, hK, c⟩ k => ⟨K, PySem.W.Frag.In.keeps hK k, c⟩
def obX (as : List Addr) (cs : List Fct) (fn : List He.DefD) (s : PySem.W.SharedT) : AlX := obsX cs fn (He.frG (HandSHeadRun.getT s) as)
theorem obX_eq (as : List Addr) (cs : List Fct) (fn : List He.DefD) (s : PySem.W.SharedT) : obX as cs fn s = (hookX as cs fn).obs s.abs := by
  have e : HandSHeadRun.getT s = s.abs.heap.get? := funext (HandSHeadRun.getT_eq s)
  unfold obX
  rw [e] <;> rfl
section
variable {cs : List Fct} {fn : List He.DefD} {K : PySem.W.Frag} {h : Heap} {mg : Str → Option Value}
theorem SaysX.fact (c : SaysX cs fn K) (i : Nat) {f : Fct} (e : cs[i]? = some f := by rfl) : f K = true := by
  have c1 := (He.ba (show ((cs.all fun c => c K) && fn.all fun d => d.ok K) = true from congrArg (fun z : AlX => z.1) c)).1
  exact List.all_eq_true.mp c1 f (List.mem_of_getElem? e)
theorem SaysX.def_ (c : SaysX cs fn K) (i : Nat) {d : He.DefD} (e : fn[i]? = some d := by rfl) : ∃ fd, FunD K d.name d.qual d.params d.body d.scope (d.dvs K) (d.kws K) (He.fAd K d.at_) fd := by
  have c2 := (He.ba (show ((cs.all fun c => c K) && fn.all fun d => d.ok K) = true from congrArg (fun z : AlX => z.1) c)).2
  have e1 : fn.map (fun d => He.fnW K d.at_) = fn.map He.DefD.val := congrArg (fun z : AlX => z.2) c
  have e2 : (fn.map fun d => He.fnW K d.at_)[i]? = (fn.map He.DefD.val)[i]? := by rw [e1]
  rw [List.getElem?_map, List.getElem?_map, e] at e2
  exact He.DefD.funD (Option.some.inj e2) (List.all_eq_true.mp c2 d (List.mem_of_getElem? e))
end
def rfB (tl : List Value) : List Value → Bool
  | .ref c :: r => rfB tl r || decide (tl = .ref c :: r)
  | l => decide (l = tl)
abbrev leT : List Value := [.type "LookupError", .type "Exception", .type "BaseException", .type "object"]
abbrev veT : List Value := [.type "ValueError", .type "Exception", .type "BaseException", .type "object"]
/-- the class at C, as an error's class stands -/
def excOB (K : PySem.W.Frag) (C : Addr) (newId : String) (tl : List Value) : Bool := match K.lookup C with
  | some ⟨.type t, _, .cls cd, sl⟩ => (match cd.mro, sl.toList with
    | .ref C' :: bm, [_, _, _, _, some (.builtin n), _] => decide (t = "type") && (decide (C' = C) && (decide (n = newId) && (!cd.hasDel && (cd.hasDict && rfB tl bm))))
    | _, _ => false)
  | _ => false
def mroTail (K : PySem.W.Frag) (C : Addr) : List Value := match PySem.W.clsIn K C with
  | some cd => cd.mro.tail
  | none => []
/-- an error's class: the module's name x -/
def efcB (x : Str) (newId : String) (tl : List Value) (bm : PySem.W.Frag → List Value) : Fct := fun K =>
  (He.Fa.glo x).ok K && (excOB K (He.ga K x) newId tl && (decide (mroTail K (He.ga K x) = bm K) && (He.eqO (PySem.W.findIn K (.ref (He.ga K x)) "__setattr__") (some (some (.builtin "object.__setattr__"))) &&
    (He.eqO (PySem.W.findIn K (.ref (He.ga K x)) "__getattribute__") (some (some (.builtin "BaseException.__getattribute__"))) && (He.eqO (PySem.W.findIn K (.ref (He.ga K x)) "__getattr__") (some none) &&
      (PySem.W.keepIn K (.ref (He.ga K x)) && (decide (PySem.W.typeIn K (.ref (He.ga K x)) = some (.type "type")) && (PySem.W.hasDictIn K (He.ga K x) &&
        He.eqO (PySem.W.findIn K (.ref (He.ga K x)) "__class__") (some (some (.builtin "object.__class__")))))))))))
def valB (K : PySem.W.Frag) (c mc : Value) (n : Str) (v : Value) : Bool := match PySem.W.findCls K c mc n with
  | some (.val u) => decide (u = v)
  | _ => false
def valsB : List Str → List Value → Bool
  | [], [] => true
  | x :: r, .str z _ :: s => decide (z = x) && valsB r s
  | _, _ => false
/-- a tuple of texts: the module's name x -/
def strsB (x : Str) (ws : List Str) : Fct := fun K => (He.Fa.glo x).ok K && (match K.lookup (He.ga K x) with
  | some ⟨.type t, _, .seq its _, _⟩ => decide (t = "tuple") && (decide (its.size ≤ 1000) && valsB ws its.toList)
  | _ => false)
/-- the state behind the top -/
noncomputable def hdEnd (r : PySem.W.OpenRow) (M : Nat) (w : World) (os : OsState) : Option PySem.W.SharedT := HandSHeadRun.endF (HandSHeadRun.stepQ (HandSHeadRun.denQ HandSHeadRun.tabQ) r.prog w) M r.prog w os
theorem run_of {r : PySem.W.OpenRow} {q : Program} {as : List Addr} {cs : List Fct} {fn : List He.DefD} {M : Nat} {loose : List PySem.Str} {w : World}
    (h1 : ∀ os, (hdEnd r M w os).map (fun s => HandSHeadRun.looksF r.prog (PySem.W.boot_heap w.params) s.abs) = some true)
    (h2 : ∀ os, (hdEnd r M w os).map (fun s => HandSHeadRun.seenQ q loose (importedModules r.prog.main.body) (fun s => PySem.W.xlAt q [] s && PySem.W.recOk r.toRowW.records s) s.abs) = some (PySem.W.openGood q loose))
    (h3 : ∀ os, (hdEnd r M w os).map (fun s => cs.all fun c => c (He.frG (HandSHeadRun.getT s) as)) = some true)
    (h4 : ∀ os, (hdEnd r M w os).map (fun s => fn.all fun d => d.ok (He.frG (HandSHeadRun.getT s) as)) = some true)
    (h5 : ∀ os, (hdEnd r M w os).map (fun s => fn.map fun d => He.fnW (He.frG (HandSHeadRun.getT s) as) d.at_) = some (fn.map He.DefD.val)) :
    HandSHeadRun.RunEq r q (hookX as cs fn) (obX as cs fn) M loose w := by
  intro os
  have a1 := h1 os
  have a2 := h2 os
  have a3 := h3 os
  have a4 := h4 os
  have a5 := h5 os
  show (hdEnd r M w os).map _ = _
  cases e : hdEnd r M w os with
  | none =>
    rw [e] at a1
    cases a1
  | some s =>
    rw [e] at a1 a2 a3 a4 a5
    have b1 := Option.some.inj a1
    have b2 := Option.some.inj a2
    have b3 := Option.some.inj a3
    have b4 := Option.some.inj a4
    have b5 := Option.some.inj a5
    have b6 : obX as cs fn s = valX fn := by
      unfold obX obsX valX
      dsimp only at b3 b4 b5
      rw [b3, b4, b5]
      rfl
    exact congrArg some (Prod.ext b1 (Prod.ext b2 b6))
end Aw
namespace Aw
open PySem L2
def topS (i : Nat) : Stmt := PySem.Challenge.pw_anewread_k20_whole_held_places_go_with_t.main.body.getD i (.Pass ⟨0, 0, 0, 0⟩)
abbrev sis_whole : Stmt := topS 34
abbrev Nis_whole : List Str := ["value", "least", "most"]
abbrev Pis_whole : List Str := ["value", "least", "most"]
theorem scis_whole : FnScope Nis_whole Pis_whole (defScope sis_whole) :=
  ⟨rfl, rfl, rfl, by decide +kernel, rfl, by decide +kernel, by decide +kernel⟩
abbrev sis_word : Stmt := topS 35
abbrev Nis_word : List Str := ["value", "sign"]
abbrev Pis_word : List Str := ["value"]
theorem scis_word : FnScope Nis_word Pis_word (defScope sis_word) :=
  ⟨rfl, rfl, rfl, by decide +kernel, rfl, by decide +kernel, by decide +kernel⟩
abbrev sis_name : Stmt := topS 36
abbrev Nis_name : List Str := ["value", "sign"]
abbrev Pis_name : List Str := ["value"]
theorem scis_name : FnScope Nis_name Pis_name (defScope sis_name) :=
  ⟨rfl, rfl, rfl, by decide +kernel, rfl, by decide +kernel, by decide +kernel⟩
abbrev sis_expression : Stmt := topS 37
abbrev Nis_expression : List Str := ["value", "left"]
abbrev Pis_expression : List Str := ["value", "left"]
theorem scis_expression : FnScope Nis_expression Pis_expression (defScope sis_expression) :=
  ⟨rfl, rfl, rfl, by decide +kernel, rfl, by decide +kernel, by decide +kernel⟩
abbrev sis_rest : Stmt := topS 38
abbrev Nis_rest : List Str := ["value"]
abbrev Pis_rest : List Str := ["value"]
theorem scis_rest : FnScope Nis_rest Pis_rest (defScope sis_rest) :=
  ⟨rfl, rfl, rfl, by decide +kernel, rfl, by decide +kernel, by decide +kernel⟩
abbrev sis_test : Stmt := topS 39
abbrev Nis_test : List Str := ["value", "nots"]
abbrev Pis_test : List Str := ["value", "nots"]
theorem scis_test : FnScope Nis_test Pis_test (defScope sis_test) :=
  ⟨rfl, rfl, rfl, by decide +kernel, rfl, by decide +kernel, by decide +kernel⟩
abbrev sis_plain : Stmt := topS 40
abbrev Nis_plain : List Str := ["value"]
abbrev Pis_plain : List Str := ["value"]
theorem scis_plain : FnScope Nis_plain Pis_plain (defScope sis_plain) :=
  ⟨rfl, rfl, rfl, by decide +kernel, rfl, by decide +kernel, by decide +kernel⟩
abbrev sis_statement : Stmt := topS 41
abbrev Nis_statement : List Str := ["value"]
abbrev Pis_statement : List Str := ["value"]
theorem scis_statement : FnScope Nis_statement Pis_statement (defScope sis_statement) :=
  ⟨rfl, rfl, rfl, by decide +kernel, rfl, by decide +kernel, by decide +kernel⟩
abbrev sblocks_of : Stmt := topS 42
abbrev Nblocks_of : List Str := ["statement"]
abbrev Pblocks_of : List Str := ["statement"]
theorem scblocks_of : FnScope Nblocks_of Pblocks_of (defScope sblocks_of) :=
  ⟨rfl, rfl, rfl, by decide +kernel, rfl, by decide +kernel, by decide +kernel⟩
abbrev sitems_within : Stmt := topS 43
abbrev Nitems_within : List Str := ["statement", "depth", "found", "block", "item"]
abbrev Pitems_within : List Str := ["statement", "depth"]
theorem scitems_within : FnScope Nitems_within Pitems_within (defScope sitems_within) :=
  ⟨rfl, rfl, rfl, by decide +kernel, rfl, by decide +kernel, by decide +kernel⟩
abbrev srows_of_programs : Stmt := topS 44
abbrev Nrows_of_programs : List Str := ["program", "left", "found", "item", "depth", "statement"]
abbrev Prows_of_programs : List Str := ["program"]
theorem scrows_of_programs : FnScope Nrows_of_programs Prows_of_programs (defScope srows_of_programs) :=
  ⟨rfl, rfl, rfl, by decide +kernel, rfl, by decide +kernel, by decide +kernel⟩
abbrev seach_statement : Stmt := topS 52
abbrev Neach_statement : List Str := ["program", "place", "depth", "statement"]
abbrev Peach_statement : List Str := ["program"]
theorem sceach_statement : GScope Neach_statement Peach_statement (defScope seach_statement) :=
  ⟨rfl, rfl, rfl, by decide +kernel, rfl, by decide +kernel, by decide +kernel⟩
abbrev sreader_places : Stmt := topS 116
abbrev Nreader_places : List Str := ["program", "row"]
abbrev Preader_places : List Str := ["program"]
theorem screader_places : FnScope Nreader_places Preader_places (defScope sreader_places) :=
  ⟨rfl, rfl, rfl, by decide +kernel, rfl, by decide +kernel, by decide +kernel⟩
abbrev sis_integer_lattices : Stmt := topS 71
abbrev Nis_integer_lattices : List Str := ["value"]
abbrev Pis_integer_lattices : List Str := ["value"]
theorem scis_integer_lattices : FnScope Nis_integer_lattices Pis_integer_lattices (defScope sis_integer_lattices) :=
  ⟨rfl, rfl, rfl, by decide +kernel, rfl, by decide +kernel, by decide +kernel⟩
abbrev sis_fix : Stmt := topS 117
abbrev Nis_fix : List Str := ["program", "value", "places", "place", "one", "other"]
abbrev Pis_fix : List Str := ["program", "value"]
theorem scis_fix : FnScope Nis_fix Pis_fix (defScope sis_fix) :=
  ⟨rfl, rfl, rfl, by decide +kernel, rfl, by decide +kernel, by decide +kernel⟩
abbrev sorder_error : Stmt := topS 46
abbrev Norder_error : List Str := ["value", "left", "place", "item", "depth"]
abbrev Porder_error : List Str := ["value"]
theorem scorder_error : FnScope Norder_error Porder_error (defScope sorder_error) :=
  ⟨rfl, rfl, rfl, by decide +kernel, rfl, by decide +kernel, by decide +kernel⟩
abbrev sbare : Stmt := topS 47
abbrev Nbare : List Str := ["test"]
abbrev Pbare : List Str := ["test"]
theorem scbare : FnScope Nbare Pbare (defScope sbare) :=
  ⟨rfl, rfl, rfl, by decide +kernel, rfl, by decide +kernel, by decide +kernel⟩
abbrev sown_count : Stmt := topS 48
abbrev Nown_count : List Str := ["statement", "sort"]
abbrev Pown_count : List Str := ["statement", "sort"]
theorem scown_count : FnScope Nown_count Pown_count (defScope sown_count) :=
  ⟨rfl, rfl, rfl, by decide +kernel, rfl, by decide +kernel, by decide +kernel⟩
abbrev scounted : Stmt := topS 49
abbrev Ncounted : List Str := ["block", "sort", "found", "statement", "inner", "part"]
abbrev Pcounted : List Str := ["block", "sort"]
theorem sccounted : FnScope Ncounted Pcounted (defScope scounted) :=
  ⟨rfl, rfl, rfl, by decide +kernel, rfl, by decide +kernel, by decide +kernel⟩
abbrev sweight : Stmt := topS 50
abbrev Nweight : List Str := ["program"]
abbrev Pweight : List Str := ["program"]
theorem scweight : FnScope Nweight Pweight (defScope sweight) :=
  ⟨rfl, rfl, rfl, by decide +kernel, rfl, by decide +kernel, by decide +kernel⟩
abbrev sprogram_error : Stmt := topS 51
abbrev Nprogram_error : List Str := ["value", "found"]
abbrev Pprogram_error : List Str := ["value"]
theorem scprogram_error : FnScope Nprogram_error Pprogram_error (defScope sprogram_error) :=
  ⟨rfl, rfl, rfl, by decide +kernel, rfl, by decide +kernel, by decide +kernel⟩
abbrev sneed_program : Stmt := topS 62
abbrev Nneed_program : List Str := ["value", "error"]
abbrev Pneed_program : List Str := ["value"]
theorem scneed_program : FnScope Nneed_program Pneed_program (defScope sneed_program) :=
  ⟨rfl, rfl, rfl, by decide +kernel, rfl, by decide +kernel, by decide +kernel⟩
abbrev sstatements_in : Stmt := topS 56
abbrev Nstatements_in : List Str := ["block", "statement"]
abbrev Pstatements_in : List Str := ["block"]
theorem scstatements_in : FnScope Nstatements_in Pstatements_in (defScope sstatements_in) :=
  ⟨rfl, rfl, rfl, by decide +kernel, rfl, by decide +kernel, by decide +kernel⟩
abbrev ssize_of : Stmt := topS 57
abbrev Nsize_of : List Str := ["statement"]
abbrev Psize_of : List Str := ["statement"]
theorem scsize_of : FnScope Nsize_of Psize_of (defScope ssize_of) :=
  ⟨rfl, rfl, rfl, by decide +kernel, rfl, by decide +kernel, by decide +kernel⟩
abbrev sall_in : Stmt := topS 60
abbrev Nall_in : List Str := ["block", "found", "statement", "inner"]
abbrev Pall_in : List Str := ["block"]
theorem scall_in : FnScope Nall_in Pall_in (defScope sall_in) :=
  ⟨rfl, rfl, rfl, by decide +kernel, rfl, by decide +kernel, by decide +kernel⟩
abbrev splaced_at : Stmt := topS 61
abbrev Nplaced_at : List Str := ["program", "place", "found"]
abbrev Pplaced_at : List Str := ["program", "place"]
theorem scplaced_at : FnScope Nplaced_at Pplaced_at (defScope splaced_at) :=
  ⟨rfl, rfl, rfl, by decide +kernel, rfl, by decide +kernel, by decide +kernel⟩
abbrev swith_others : Stmt := topS 59
abbrev Nwith_others : List Str := ["block", "place", "some", "at", "index", "statement", "many"]
abbrev Pwith_others : List Str := ["block", "place", "some"]
theorem scwith_others : FnScope Nwith_others Pwith_others (defScope swith_others) :=
  ⟨rfl, rfl, rfl, by decide +kernel, rfl, by decide +kernel, by decide +kernel⟩
abbrev swith_inner : Stmt := topS 58
abbrev Nwith_inner : List Str := ["statement", "place", "some", "word", "test", "yes", "no", "many"]
abbrev Pwith_inner : List Str := ["statement", "place", "some"]
theorem scwith_inner : FnScope Nwith_inner Pwith_inner (defScope swith_inner) :=
  ⟨rfl, rfl, rfl, by decide +kernel, rfl, by decide +kernel, by decide +kernel⟩
abbrev smoved : Stmt := topS 63
abbrev Nmoved : List Str := ["fix", "place", "gone", "come", "left", "held"]
abbrev Pmoved : List Str := ["fix", "place", "gone", "come"]
theorem scmoved : FnScope Nmoved Pmoved (defScope smoved) :=
  ⟨rfl, rfl, rfl, by decide +kernel, rfl, by decide +kernel, by decide +kernel⟩
abbrev sadded : Stmt := topS 64
abbrev Nadded : List Str := ["program", "fix", "statement"]
abbrev Padded : List Str := ["program", "fix", "statement"]
theorem scadded : FnScope Nadded Padded (defScope sadded) :=
  ⟨rfl, rfl, rfl, by decide +kernel, rfl, by decide +kernel, by decide +kernel⟩
abbrev sdropped : Stmt := topS 65
abbrev Ndropped : List Str := ["program", "fix", "place", "gone"]
abbrev Pdropped : List Str := ["program", "fix", "place"]
theorem scdropped : FnScope Ndropped Pdropped (defScope sdropped) :=
  ⟨rfl, rfl, rfl, by decide +kernel, rfl, by decide +kernel, by decide +kernel⟩
abbrev schanged : Stmt := topS 66
abbrev Nchanged : List Str := ["program", "fix", "place", "statement", "gone", "found"]
abbrev Pchanged : List Str := ["program", "fix", "place", "statement"]
theorem scchanged : FnScope Nchanged Pchanged (defScope schanged) :=
  ⟨rfl, rfl, rfl, by decide +kernel, rfl, by decide +kernel, by decide +kernel⟩
abbrev sheld_too : Stmt := topS 67
abbrev Nheld_too : List Str := ["program", "fix", "place"]
abbrev Pheld_too : List Str := ["program", "fix", "place"]
theorem scheld_too : FnScope Nheld_too Pheld_too (defScope sheld_too) :=
  ⟨rfl, rfl, rfl, by decide +kernel, rfl, by decide +kernel, by decide +kernel⟩
abbrev sfreed : Stmt := topS 68
abbrev Nfreed : List Str := ["program", "fix", "place", "held"]
abbrev Pfreed : List Str := ["program", "fix", "place"]
theorem scfreed : FnScope Nfreed Pfreed (defScope sfreed) :=
  ⟨rfl, rfl, rfl, by decide +kernel, rfl, by decide +kernel, by decide +kernel⟩
abbrev sedited : Stmt := topS 69
abbrev Nedited : List Str := ["program", "fix", "edit", "word", "value"]
abbrev Pedited : List Str := ["program", "fix", "edit"]
theorem scedited : FnScope Nedited Pedited (defScope sedited) :=
  ⟨rfl, rfl, rfl, by decide +kernel, rfl, by decide +kernel, by decide +kernel⟩
abbrev sBadProgram___init__ : Stmt := inClass (topS 3) 0
abbrev NBadProgram___init__ : List Str := ["self", "error"]
abbrev PBadProgram___init__ : List Str := ["self", "error"]
theorem scBadProgram___init__ : FnScope NBadProgram___init__ PBadProgram___init__ (defScope sBadProgram___init__) :=
  ⟨rfl, rfl, rfl, by decide +kernel, rfl, by decide +kernel, by decide +kernel⟩
abbrev sNoReader___init__ : Stmt := inClass (topS 6) 0
abbrev NNoReader___init__ : List Str := ["self", "place"]
abbrev PNoReader___init__ : List Str := ["self", "place"]
theorem scNoReader___init__ : FnScope NNoReader___init__ PNoReader___init__ (defScope sNoReader___init__) :=
  ⟨rfl, rfl, rfl, by decide +kernel, rfl, by decide +kernel, by decide +kernel⟩
abbrev sIsHeld___init__ : Stmt := inClass (topS 7) 0
abbrev NIsHeld___init__ : List Str := ["self", "place"]
abbrev PIsHeld___init__ : List Str := ["self", "place"]
theorem scIsHeld___init__ : FnScope NIsHeld___init__ PIsHeld___init__ (defScope sIsHeld___init__) :=
  ⟨rfl, rfl, rfl, by decide +kernel, rfl, by decide +kernel, by decide +kernel⟩
abbrev sNotHeld___init__ : Stmt := inClass (topS 8) 0
abbrev NNotHeld___init__ : List Str := ["self", "place"]
abbrev PNotHeld___init__ : List Str := ["self", "place"]
theorem scNotHeld___init__ : FnScope NNotHeld___init__ PNotHeld___init__ (defScope sNotHeld___init__) :=
  ⟨rfl, rfl, rfl, by decide +kernel, rfl, by decide +kernel, by decide +kernel⟩
abbrev sstatement_at : Stmt := topS 53
abbrev Nstatement_at : List Str := ["program", "place", "rows"]
abbrev Pstatement_at : List Str := ["program", "place"]
theorem scstatement_at : FnScope Nstatement_at Pstatement_at (defScope sstatement_at) :=
  ⟨rfl, rfl, rfl, by decide +kernel, rfl, by decide +kernel, by decide +kernel⟩
abbrev sNoPlace___init__ : Stmt := inClass (topS 13) 0
abbrev NNoPlace___init__ : List Str := ["self", "place"]
abbrev PNoPlace___init__ : List Str := ["self", "place"]
theorem scNoPlace___init__ : FnScope NNoPlace___init__ PNoPlace___init__ (defScope sNoPlace___init__) :=
  ⟨rfl, rfl, rfl, by decide +kernel, rfl, by decide +kernel, by decide +kernel⟩
abbrev sBench_stand : Stmt := inClass (topS 123) 2
abbrev NBench_stand : List Str := ["self", "standing"]
abbrev PBench_stand : List Str := ["self", "standing"]
theorem scBench_stand : FnScope NBench_stand PBench_stand (defScope sBench_stand) :=
  ⟨rfl, rfl, rfl, by decide +kernel, rfl, by decide +kernel, by decide +kernel⟩
abbrev sBench_idle : Stmt := inClass (topS 123) 3
abbrev NBench_idle : List Str := ["self"]
abbrev PBench_idle : List Str := ["self"]
theorem scBench_idle : FnScope NBench_idle PBench_idle (defScope sBench_idle) :=
  ⟨rfl, rfl, rfl, by decide +kernel, rfl, by decide +kernel, by decide +kernel⟩
abbrev sBench_ready : Stmt := inClass (topS 123) 4
abbrev NBench_ready : List Str := ["self"]
abbrev PBench_ready : List Str := ["self"]
theorem scBench_ready : FnScope NBench_ready PBench_ready (defScope sBench_ready) :=
  ⟨rfl, rfl, rfl, by decide +kernel, rfl, by decide +kernel, by decide +kernel⟩
abbrev sBench_judge : Stmt := inClass (topS 123) 5
abbrev NBench_judge : List Str := ["self", "pair"]
abbrev PBench_judge : List Str := ["self", "pair"]
theorem scBench_judge : FnScope NBench_judge PBench_judge (defScope sBench_judge) :=
  ⟨rfl, rfl, rfl, by decide +kernel, rfl, by decide +kernel, by decide +kernel⟩
abbrev sBench_settle : Stmt := inClass (topS 123) 6
abbrev NBench_settle : List Str := ["self", "edit", "pair"]
abbrev PBench_settle : List Str := ["self", "edit", "pair"]
theorem scBench_settle : FnScope NBench_settle PBench_settle (defScope sBench_settle) :=
  ⟨rfl, rfl, rfl, by decide +kernel, rfl, by decide +kernel, by decide +kernel⟩
abbrev sBench_do : Stmt := inClass (topS 123) 7
abbrev NBench_do : List Str := ["self", "edit"]
abbrev PBench_do : List Str := ["self", "edit"]
theorem scBench_do : FnScope NBench_do PBench_do (defScope sBench_do) :=
  ⟨rfl, rfl, rfl, by decide +kernel, rfl, by decide +kernel, by decide +kernel⟩
abbrev sBench_add : Stmt := inClass (topS 123) 8
abbrev NBench_add : List Str := ["self", "statement"]
abbrev PBench_add : List Str := ["self", "statement"]
theorem scBench_add : FnScope NBench_add PBench_add (defScope sBench_add) :=
  ⟨rfl, rfl, rfl, by decide +kernel, rfl, by decide +kernel, by decide +kernel⟩
abbrev sBench_drop : Stmt := inClass (topS 123) 9
abbrev NBench_drop : List Str := ["self", "place"]
abbrev PBench_drop : List Str := ["self", "place"]
theorem scBench_drop : FnScope NBench_drop PBench_drop (defScope sBench_drop) :=
  ⟨rfl, rfl, rfl, by decide +kernel, rfl, by decide +kernel, by decide +kernel⟩
abbrev sBench_change : Stmt := inClass (topS 123) 10
abbrev NBench_change : List Str := ["self", "place", "statement"]
abbrev PBench_change : List Str := ["self", "place", "statement"]
theorem scBench_change : FnScope NBench_change PBench_change (defScope sBench_change) :=
  ⟨rfl, rfl, rfl, by decide +kernel, rfl, by decide +kernel, by decide +kernel⟩
abbrev sBench_hold : Stmt := inClass (topS 123) 11
abbrev NBench_hold : List Str := ["self", "place"]
abbrev PBench_hold : List Str := ["self", "place"]
theorem scBench_hold : FnScope NBench_hold PBench_hold (defScope sBench_hold) :=
  ⟨rfl, rfl, rfl, by decide +kernel, rfl, by decide +kernel, by decide +kernel⟩
abbrev sBench_free : Stmt := inClass (topS 123) 12
abbrev NBench_free : List Str := ["self", "place"]
abbrev PBench_free : List Str := ["self", "place"]
theorem scBench_free : FnScope NBench_free PBench_free (defScope sBench_free) :=
  ⟨rfl, rfl, rfl, by decide +kernel, rfl, by decide +kernel, by decide +kernel⟩
abbrev sBench___len__ : Stmt := inClass (topS 123) 28
abbrev NBench___len__ : List Str := ["self"]
abbrev PBench___len__ : List Str := ["self"]
theorem scBench___len__ : FnScope NBench___len__ PBench___len__ (defScope sBench___len__) :=
  ⟨rfl, rfl, rfl, by decide +kernel, rfl, by decide +kernel, by decide +kernel⟩
abbrev sBench___init__ : Stmt := inClass (topS 123) 1
abbrev NBench___init__ : List Str := ["self", "program", "fix"]
abbrev PBench___init__ : List Str := ["self", "program", "fix"]
theorem scBench___init__ : FnScope NBench___init__ PBench___init__ (defScope sBench___init__) :=
  ⟨rfl, rfl, rfl, by decide +kernel, rfl, by decide +kernel, by decide +kernel⟩
abbrev sBench_undo : Stmt := inClass (topS 123) 19
abbrev NBench_undo : List Str := ["self"]
abbrev PBench_undo : List Str := ["self"]
theorem scBench_undo : FnScope NBench_undo PBench_undo (defScope sBench_undo) :=
  ⟨rfl, rfl, rfl, by decide +kernel, rfl, by decide +kernel, by decide +kernel⟩
abbrev sBench_state : Stmt := inClass (topS 123) 26
abbrev NBench_state : List Str := ["self", "version"]
abbrev PBench_state : List Str := ["self", "version"]
theorem scBench_state : FnScope NBench_state PBench_state (defScope sBench_state) :=
  ⟨rfl, rfl, rfl, by decide +kernel, rfl, by decide +kernel, by decide +kernel⟩
abbrev s_law_deck : Stmt := topS 126
abbrev N_law_deck : List Str := ["_law_script", "_law_cell"]
abbrev P_law_deck : List Str := ["_law_script"]
theorem sc_law_deck : FnScope N_law_deck P_law_deck (defScope s_law_deck) :=
  ⟨rfl, rfl, rfl, by decide +kernel, rfl, by decide +kernel, by decide +kernel⟩
abbrev s_law_draw : Stmt := topS 127
abbrev N_law_draw : List Str := ["_law_deck_here", "_law_many", "_law_cell", "_law_at", "_law_mixed"]
abbrev P_law_draw : List Str := ["_law_deck_here", "_law_many"]
theorem sc_law_draw : FnScope N_law_draw P_law_draw (defScope s_law_draw) :=
  ⟨rfl, rfl, rfl, by decide +kernel, rfl, by decide +kernel, by decide +kernel⟩
abbrev s_law_one : Stmt := topS 128
abbrev N_law_one : List Str := ["_law_deck_here", "_law_items"]
abbrev P_law_one : List Str := ["_law_deck_here", "_law_items"]
theorem sc_law_one : FnScope N_law_one P_law_one (defScope s_law_one) :=
  ⟨rfl, rfl, rfl, by decide +kernel, rfl, by decide +kernel, by decide +kernel⟩
abbrev s_law_rows : Stmt := topS 136
abbrev N_law_rows : List Str := ["_law_block_here", "_law_found", "_law_statement_here", "_law_inner"]
abbrev P_law_rows : List Str := ["_law_block_here"]
theorem sc_law_rows : FnScope N_law_rows P_law_rows (defScope s_law_rows) :=
  ⟨rfl, rfl, rfl, by decide +kernel, rfl, by decide +kernel, by decide +kernel⟩
abbrev s_law_marked_set : Stmt := topS 137
abbrev N_law_marked_set : List Str := ["_law_deck_here", "_law_marks_here"]
abbrev P_law_marked_set : List Str := ["_law_deck_here", "_law_marks_here"]
theorem sc_law_marked_set : FnScope N_law_marked_set P_law_marked_set (defScope s_law_marked_set) :=
  ⟨rfl, rfl, rfl, by decide +kernel, rfl, by decide +kernel, by decide +kernel⟩
abbrev s_law_tree : Stmt := topS 138
abbrev N_law_tree : List Str := ["_law_deck_here", "_law_marks_here", "_law_depth", "_law_found", "_law_k", "_law_way", "_law_yes", "_law_no", "_law_test_here"]
abbrev P_law_tree : List Str := ["_law_deck_here", "_law_marks_here", "_law_depth"]
theorem sc_law_tree : FnScope N_law_tree P_law_tree (defScope s_law_tree) :=
  ⟨rfl, rfl, rfl, by decide +kernel, rfl, by decide +kernel, by decide +kernel⟩
abbrev s_law_setters : Stmt := topS 139
abbrev N_law_setters : List Str := ["_law_program_here", "_law_rows_here", "_law_at"]
abbrev P_law_setters : List Str := ["_law_program_here"]
theorem sc_law_setters : FnScope N_law_setters P_law_setters (defScope s_law_setters) :=
  ⟨rfl, rfl, rfl, by decide +kernel, rfl, by decide +kernel, by decide +kernel⟩
abbrev s_law_marked : Stmt := topS 140
abbrev N_law_marked : List Str := ["_law_state", "_law_place"]
abbrev P_law_marked : List Str := ["_law_state"]
theorem sc_law_marked : FnScope N_law_marked P_law_marked (defScope s_law_marked) :=
  ⟨rfl, rfl, rfl, by decide +kernel, rfl, by decide +kernel, by decide +kernel⟩
abbrev s_law_marks : Stmt := topS 141
abbrev N_law_marks : List Str := ["_law_statement_here", "_law_row"]
abbrev P_law_marks : List Str := ["_law_statement_here"]
theorem sc_law_marks : FnScope N_law_marks P_law_marks (defScope s_law_marks) :=
  ⟨rfl, rfl, rfl, by decide +kernel, rfl, by decide +kernel, by decide +kernel⟩
abbrev s_law_step : Stmt := topS 142
abbrev N_law_step : List Str := ["_law_deck_here", "_law_bench", "_law_marks_here", "_law_pins", "_law_program_here", "_law_rows_here", "_law_way", "_law_place", "_law_new", "_law_setters_here", "_law_pin"]
abbrev P_law_step : List Str := ["_law_deck_here", "_law_bench", "_law_marks_here", "_law_pins"]
theorem sc_law_step : FnScope N_law_step P_law_step (defScope s_law_step) :=
  ⟨rfl, rfl, rfl, by decide +kernel, rfl, by decide +kernel, by decide +kernel⟩
abbrev slaw : Stmt := topS 143
abbrev Nlaw : List Str := ["_law_script", "_law_deck_here", "_law_turn", "_law_marks_here", "_law_program_here", "_law_k", "_law_more", "_law_fix", "_law_place", "_law_bench", "_law_pins", "_law_many", "_law_after"]
abbrev Plaw : List Str := ["_law_script"]
theorem sclaw : FnScope Nlaw Plaw (defScope slaw) :=
  ⟨rfl, rfl, rfl, by decide +kernel, rfl, by decide +kernel, by decide +kernel⟩
abbrev hdR : PySem.W.OpenRow := PySem.W.OpenLaw.row PySem.Challenge.rw_anewread_k20_whole_held_places_go_with_t
abbrev hdV : Program := PySem.W.view hdR.prog [143]
def hdN0 : List (PySem.Str) := ["_wall", "ReadError", "BadProgram", "BadFix", "BadNumber", "NoReader", "IsHeld", "NotHeld", "Loose", "Busy", "TooManyEdits", "NothingToUndo", "NoPlace", "NoVersion", "MAX_NAME", "MAX_WORD", "MAX_TIMES", "MAX_DEEP", "MAX_NOTS", "MAX_BY", "MAX_PLACES", "MAX_WEIGHT", "MAX_RESTS", "MAX_COMPARINGS", "MAX_NEST", "MAX_EDITS", "LETTERS", "SIGNS", "KEPT", "UNSURE_programs"]
def hdN1 : List (PySem.Str) := ["MOST_NUMBER", "MOST_FACTOR", "is_whole", "is_word", "is_name", "is_expression", "is_rest", "is_test", "is_plain", "is_statement", "blocks_of", "items_within", "rows_of", "rows_of_programs", "order_error", "bare", "own_count", "counted", "weight", "program_error", "each_statement", "statement_at", "READERS_benchedits", "statements_in", "size_of", "with_inner", "with_others", "all_in", "placed_at", "need_program"]
def hdN2 : List (PySem.Str) := ["moved", "added", "dropped", "changed", "held_too", "freed", "edited", "is_integer", "is_integer_lattices", "vector_plus", "times_vector", "lead_of", "cleared_rows", "basis_of", "rest_by", "UNSURE_pieces", "NOTHING", "WHOLE", "placed", "inner_blocks", "common", "filled", "joined", "has_reading", "Path", "is_there", "first_at", "last_at", "is_at", "rank"]
def hdN3 : List (PySem.Str) := ["first_points", "greater_low", "lesser_high", "less_parts", "gone_into", "Walker", "rest_parts", "Row", "rows_of_pieces", "first_of", "row_at", "basis_at", "with_numbers", "outcome_with", "loose_items", "loose_with", "READERS_fixes", "reader_places", "is_fix", "loose_fixed", "is_integer_benches", "need_integer", "Bench", "SureBench", "_law_deck", "_law_draw", "_law_one", "_law_expr", "_law_test", "_law_block"]
def hdN4 : List (PySem.Str) := ["_law_if", "_law_statement", "_law_program", "_law_names", "_law_rows", "_law_marked_set", "_law_tree", "_law_setters", "_law_marked", "_law_marks", "_law_step"]
def hdN : List (PySem.Str) := hdN0 ++ hdN1 ++ hdN2 ++ hdN3 ++ hdN4
def hdA0 : List (Addr) := [2, 3, 15, 17, 18, 20, 21, 22, 29, 30, 31, 32, 35, 42, 44, 45, 47, 48, 49, 50, 51, 54, 61, 63, 64, 66, 67, 68, 69, 70, 73, 80, 82, 83, 85, 86, 87, 88, 89, 92, 99, 101, 102, 104, 105, 106, 107, 108, 111, 118]
def hdA1 : List (Addr) := [120, 121, 123, 124, 125, 126, 127, 130, 137, 139, 140, 142, 143, 144, 145, 146, 149, 156, 158, 159, 161, 162, 163, 164, 165, 168, 175, 176, 177, 180, 187, 188, 189, 192, 199, 200, 201, 204, 211, 213, 214, 216, 217, 218, 219, 220, 221, 224, 231, 233]
def hdA2 : List (Addr) := [234, 236, 237, 238, 239, 240, 241, 244, 245, 247, 248, 250, 251, 252, 255, 256, 257, 260, 261, 262, 264, 265, 267, 268, 269, 271, 272, 274, 275, 276, 278, 279, 281, 282, 283, 285, 286, 288, 289, 290, 292, 293, 295, 296, 297, 299, 300, 302, 303, 304]
def hdA3 : List (Addr) := [307, 308, 309, 312, 313, 314, 317, 318, 319, 321, 322, 324, 325, 326, 328, 329, 331, 332, 333, 336, 337, 338, 340, 341, 343, 344, 345, 347, 348, 350, 351, 352, 354, 355, 357, 358, 359, 361, 362, 364, 365, 366, 367, 370, 371, 372, 374, 375, 377, 378]
def hdA4 : List (Addr) := [379, 381, 382, 384, 385, 386, 388, 389, 391, 392, 393, 395, 396, 398, 399, 400, 402, 403, 405, 406, 407, 409, 410, 412, 413, 414, 417, 418, 419, 421, 422, 424, 425, 426, 428, 429, 431, 432, 433, 435, 436, 438, 439, 440, 442, 443, 445, 446, 447, 450]
def hdA5 : List (Addr) := [451, 452, 454, 455, 457, 458, 459, 461, 462, 464, 465, 466, 469, 470, 471, 474, 475, 476, 479, 480, 481, 484, 485, 486, 489, 490, 491, 493, 494, 496, 497, 498, 499, 500, 501, 503, 504, 506, 507, 508, 510, 511, 513, 514, 515, 517, 518, 520, 521, 522]
def hdA6 : List (Addr) := [524, 525, 527, 528, 529, 532, 533, 534, 537, 538, 546, 548, 549, 551, 552, 553, 555, 556, 558, 559, 560, 562, 563, 565, 566, 567, 569, 570, 572, 573, 574, 576, 577, 579, 580, 581, 583, 584, 586, 587, 588, 589, 590, 591, 592, 595, 597, 598, 600, 601]
def hdA7 : List (Addr) := [602, 604, 605, 607, 608, 609, 611, 612, 614, 615, 616, 618, 619, 621, 622, 623, 625, 626, 628, 629, 630, 633, 634, 635, 637, 638, 640, 641, 642, 644, 645, 647, 648, 649, 651, 652, 654, 655, 656, 658, 659, 661, 662, 670, 672, 673, 675, 676, 677, 679]
def hdA8 : List (Addr) := [680, 682, 683, 684, 686, 687, 689, 690, 691, 694, 695, 696, 697, 698, 699, 700, 703, 705, 706, 708, 709, 717, 720, 721, 722, 725, 726, 727, 729, 730, 732, 733, 734, 737, 738, 739, 740, 741, 742, 743, 746, 749, 750, 751, 753, 754, 756, 757, 758, 760]
def hdA9 : List (Addr) := [761, 763, 764, 765, 767, 768, 770, 771, 772, 774, 775, 777, 778, 779, 781, 782, 784, 785, 786, 789, 790, 791, 794, 795, 796, 797, 800, 801, 802, 805, 806, 807, 809, 810, 812, 813, 814, 816, 817, 819, 820, 821, 823, 824, 826, 827, 835, 836, 837, 839]
def hdA10 : List (Addr) := [840, 842, 843, 844, 846, 847, 849, 850, 851, 853, 854, 856, 857, 858, 860, 861, 863, 864, 865, 867, 868, 870, 871, 872, 874, 875, 877, 878, 879, 881, 882, 884, 885, 886, 888, 889, 891, 892, 893, 895, 896, 898, 899, 900, 902, 903, 905, 906, 907, 909]
def hdA11 : List (Addr) := [910, 912, 913, 914, 916, 917, 919, 920, 921, 923, 924, 926, 927, 928, 930, 931, 933, 934, 935, 937, 938, 940, 941, 942, 944, 945, 947, 948, 949, 951, 952, 954, 955, 956, 958, 959, 961, 962, 963, 965, 966, 968, 969, 970, 972, 973, 975, 976, 977, 978]
def hdA12 : List (Addr) := [980, 981, 983, 984, 985, 987, 988, 990, 991, 992, 994, 995, 997, 998, 999, 1001, 1002, 1004, 1005, 1006, 1007, 1009, 1010, 1012, 1013, 1014, 1015, 1017, 1018, 1020, 1021, 1022, 1025, 1026, 1027, 1029, 1030, 1032, 1033, 1034, 1036, 1037, 1039, 1040, 1041, 1043, 1044, 1046, 1047, 1048]
def hdA13 : List (Addr) := [1049, 1050, 1051, 1052, 1055, 1062, 1063, 1064, 1066, 1067, 1069, 1070, 1071, 1073, 1074, 1076, 1077, 1078, 1079, 1080, 1083, 1086, 1087, 1088, 1090, 1091, 1093, 1094, 1095, 1097, 1098, 1100, 1101, 1149, 1151, 1152, 1154, 1155, 1156, 1158, 1159, 1161, 1162, 1163, 1165, 1166, 1168, 1169, 1170, 1173]
def hdA14 : List (Addr) := [1174, 1175, 1178, 1179, 1180, 1183, 1184, 1185, 1188, 1189, 1190, 1193, 1194]
def hdA : List (Addr) := hdA0 ++ hdA1 ++ hdA2 ++ hdA3 ++ hdA4 ++ hdA5 ++ hdA6 ++ hdA7 ++ hdA8 ++ hdA9 ++ hdA10 ++ hdA11 ++ hdA12 ++ hdA13 ++ hdA14
def hdC0 : List (Fct) := [fun K => (He.Fa.free "len").ok K, fun K => (He.Fa.free "int").ok K, fun K => (He.Fa.free "abs").ok K, fun K => (He.Fa.free "str").ok K, fun K => (He.Fa.free "bool").ok K, fun K => (He.Fa.free "range").ok K, fun K => (He.Fa.free "isinstance").ok K, fun K => (He.Fa.free "tuple").ok K, fun K => (He.Fa.free "list").ok K, fun K => (He.Fa.free "repr").ok K, fun K => (He.Fa.free "zip").ok K, fun K => (He.Fa.free "enumerate").ok K, fun K => (He.Fa.free "sum").ok K, fun K => (He.Fa.free "min").ok K, fun K => (He.Fa.free "max").ok K, fun K => (He.Fa.free "all").ok K, fun K => (He.Fa.free "any").ok K, fun K => (He.Fa.free "sorted").ok K, fun K => (He.Fa.free "dict").ok K, fun K => (He.Fa.glo "is_whole").ok K, fun K => (He.Fa.glo "is_word").ok K, fun K => (He.Fa.glo "is_name").ok K, fun K => (He.Fa.glo "is_expression").ok K, fun K => (He.Fa.glo "is_rest").ok K, fun K => (He.Fa.glo "is_test").ok K, fun K => (He.Fa.glo "is_plain").ok K, fun K => (He.Fa.glo "is_statement").ok K, fun K => (He.Fa.glo "blocks_of").ok K, fun K => (He.Fa.glo "items_within").ok K, fun K => (He.Fa.glo "rows_of_programs").ok K]
def hdC1 : List (Fct) := [fun K => (He.Fa.glo "each_statement").ok K, fun K => (He.Fa.glo "reader_places").ok K, fun K => (He.Fa.glo "is_integer_lattices").ok K, fun K => (He.Fa.glo "is_fix").ok K, fun K => (He.Fa.glo "order_error").ok K, fun K => (He.Fa.glo "bare").ok K, fun K => (He.Fa.glo "own_count").ok K, fun K => (He.Fa.glo "counted").ok K, fun K => (He.Fa.glo "weight").ok K, fun K => (He.Fa.glo "program_error").ok K, fun K => (He.Fa.glo "need_program").ok K, fun K => (He.Fa.glo "statements_in").ok K, fun K => (He.Fa.glo "size_of").ok K, fun K => (He.Fa.glo "all_in").ok K, fun K => (He.Fa.glo "placed_at").ok K, fun K => (He.Fa.glo "with_others").ok K, fun K => (He.Fa.glo "with_inner").ok K, fun K => (He.Fa.glo "moved").ok K, fun K => (He.Fa.glo "added").ok K, fun K => (He.Fa.glo "dropped").ok K, fun K => (He.Fa.glo "changed").ok K, fun K => (He.Fa.glo "held_too").ok K, fun K => (He.Fa.glo "freed").ok K, fun K => (He.Fa.glo "edited").ok K, fun K => (He.Fa.meth "BadProgram" "__init__").ok K, fun K => (He.Fa.meth "NoReader" "__init__").ok K, fun K => (He.Fa.meth "IsHeld" "__init__").ok K, fun K => (He.Fa.meth "NotHeld" "__init__").ok K, fun K => (He.Fa.glo "statement_at").ok K, fun K => (He.Fa.meth "NoPlace" "__init__").ok K]
def hdC2 : List (Fct) := [fun K => (He.Fa.meth "Bench" "stand").ok K, fun K => (He.Fa.meth "Bench" "idle").ok K, fun K => (He.Fa.meth "Bench" "ready").ok K, fun K => (He.Fa.meth "Bench" "judge").ok K, fun K => (He.Fa.meth "Bench" "settle").ok K, fun K => (He.Fa.meth "Bench" "do").ok K, fun K => (He.Fa.meth "Bench" "add").ok K, fun K => (He.Fa.meth "Bench" "drop").ok K, fun K => (He.Fa.meth "Bench" "change").ok K, fun K => (He.Fa.meth "Bench" "hold").ok K, fun K => (He.Fa.meth "Bench" "free").ok K, fun K => (He.Fa.meth "Bench" "__len__").ok K, fun K => (He.Fa.meth "Bench" "__init__").ok K, fun K => (He.Fa.meth "Bench" "undo").ok K, fun K => (He.Fa.meth "Bench" "state").ok K, fun K => (He.Fa.glo "_law_deck").ok K, fun K => (He.Fa.glo "_law_draw").ok K, fun K => (He.Fa.glo "_law_one").ok K, fun K => (He.Fa.glo "_law_rows").ok K, fun K => (He.Fa.glo "_law_marked_set").ok K, fun K => (He.Fa.glo "_law_tree").ok K, fun K => (He.Fa.glo "_law_setters").ok K, fun K => (He.Fa.glo "_law_marked").ok K, fun K => (He.Fa.glo "_law_marks").ok K, fun K => (He.Fa.glo "_law_step").ok K, fun K => (He.Fa.glo "law").ok K, Aw.efcB "ReadError" "ValueError.__new__" Aw.veT (fun _ => Aw.veT), Aw.efcB "BadProgram" "ValueError.__new__" Aw.veT (fun K => .ref (He.ga K "ReadError") :: Aw.veT), fun K => (He.Fa.noat "BadProgram" "error").ok K, Aw.efcB "NoReader" "ValueError.__new__" Aw.veT (fun K => .ref (He.ga K "ReadError") :: Aw.veT)]
def hdC3 : List (Fct) := [fun K => (He.Fa.noat "NoReader" "place").ok K, Aw.efcB "IsHeld" "ValueError.__new__" Aw.veT (fun K => .ref (He.ga K "ReadError") :: Aw.veT), fun K => (He.Fa.noat "IsHeld" "place").ok K, Aw.efcB "NotHeld" "ValueError.__new__" Aw.veT (fun K => .ref (He.ga K "ReadError") :: Aw.veT), fun K => (He.Fa.noat "NotHeld" "place").ok K, Aw.efcB "NoPlace" "LookupError.__new__" Aw.leT (fun _ => Aw.leT), fun K => (He.Fa.noat "NoPlace" "place").ok K, fun K => PySem.W.readsIn K (He.ga K "ReadError") (.type "type"), fun K => He.eqO (PySem.W.specialIn K (.ref (He.ga K "ReadError")) "__getattribute__") (some (some (.builtin "type.__getattribute__"))), fun K => Aw.valB K (.ref (He.ga K "ReadError")) (.type "type") "__init__" (.builtin "ValueError.__init__"), fun K => Aw.valB K (.type "LookupError") (.type "type") "__init__" (.builtin "LookupError.__init__"), fun K => (He.Fa.free "LookupError").ok K, fun K => (He.Fa.int "MAX_NAME" 8).ok K, fun K => (He.Fa.int "MAX_WORD" 8).ok K, fun K => (He.Fa.int "MAX_TIMES" 8).ok K, fun K => (He.Fa.int "MAX_DEEP" 3).ok K, fun K => (He.Fa.int "MAX_NOTS" 2).ok K, fun K => (He.Fa.int "MAX_BY" 6).ok K, fun K => (He.Fa.int "MAX_PLACES" 24).ok K, fun K => (He.Fa.int "MAX_WEIGHT" 30).ok K, fun K => (He.Fa.int "MAX_RESTS" 2).ok K, fun K => (He.Fa.int "MAX_COMPARINGS" 2).ok K, fun K => (He.Fa.int "MAX_NEST" 3).ok K, fun K => (He.Fa.int "MOST_NUMBER" 99).ok K, fun K => (He.Fa.int "MOST_FACTOR" 9).ok K, fun K => (He.Fa.int "MAX_EDITS" 60).ok K, fun K => (He.Fa.str "LETTERS" "abcdefghijklmnopqrstuvwxyz").ok K, fun K => (He.Fa.str "SIGNS" "abcdefghijklmnopqrstuvwxyz0123456789").ok K, fun K => (He.Fa.str "UNSURE_programs" "unsure").ok K, Aw.strsB "KEPT" ["unset", "tell", "say", "stop", "if", "else", "repeat", "pass", "rest", "of", "set", "not", "program"]]
def hdC4 : List (Fct) := [Aw.strsB "READERS_fixes" ["set", "tell", "if"], Aw.strsB "READERS_benchedits" ["set", "tell", "if"], fun K => (He.Fa.cls "Bench").ok K, fun K => (He.Fa.mkr "Bench").ok K, fun K => (He.Fa.glo "Bench").ok K, fun K => (He.Fa.noat "Bench" "program").ok K, fun K => (He.Fa.noat "Bench" "fix").ok K, fun K => (He.Fa.noat "Bench" "begun").ok K, fun K => (He.Fa.noat "Bench" "standing").ok K, fun K => (He.Fa.noat "Bench" "undone").ok K, fun K => (He.Fa.noat "Bench" "is_watched").ok K, fun K => (He.Fa.exc "NothingToUndo").ok K, fun K => (He.Fa.glo "NothingToUndo").ok K]
def hdC : List (Fct) := hdC0 ++ hdC1 ++ hdC2 ++ hdC3 ++ hdC4
def hdF0 : List (He.DefD) := [⟨("is_whole", none), "is_whole", "is_whole", defArgs sis_whole, defBody sis_whole, defScope sis_whole, [], []⟩, ⟨("is_word", none), "is_word", "is_word", defArgs sis_word, defBody sis_word, defScope sis_word, [], []⟩, ⟨("is_name", none), "is_name", "is_name", defArgs sis_name, defBody sis_name, defScope sis_name, [], []⟩, ⟨("is_expression", none), "is_expression", "is_expression", defArgs sis_expression, defBody sis_expression, defScope sis_expression, [], []⟩, ⟨("is_rest", none), "is_rest", "is_rest", defArgs sis_rest, defBody sis_rest, defScope sis_rest, [], []⟩, ⟨("is_test", none), "is_test", "is_test", defArgs sis_test, defBody sis_test, defScope sis_test, [], []⟩, ⟨("is_plain", none), "is_plain", "is_plain", defArgs sis_plain, defBody sis_plain, defScope sis_plain, [], []⟩, ⟨("is_statement", none), "is_statement", "is_statement", defArgs sis_statement, defBody sis_statement, defScope sis_statement, [], []⟩, ⟨("blocks_of", none), "blocks_of", "blocks_of", defArgs sblocks_of, defBody sblocks_of, defScope sblocks_of, [], []⟩, ⟨("items_within", none), "items_within", "items_within", defArgs sitems_within, defBody sitems_within, defScope sitems_within, [], []⟩, ⟨("rows_of_programs", none), "rows_of", "rows_of", defArgs srows_of_programs, defBody srows_of_programs, defScope srows_of_programs, [], []⟩, ⟨("each_statement", none), "each_statement", "each_statement", defArgs seach_statement, defBody seach_statement, defScope seach_statement, [], []⟩, ⟨("reader_places", none), "reader_places", "reader_places", defArgs sreader_places, defBody sreader_places, defScope sreader_places, [], []⟩, ⟨("is_integer_lattices", none), "is_integer", "is_integer", defArgs sis_integer_lattices, defBody sis_integer_lattices, defScope sis_integer_lattices, [], []⟩, ⟨("is_fix", none), "is_fix", "is_fix", defArgs sis_fix, defBody sis_fix, defScope sis_fix, [], []⟩, ⟨("order_error", none), "order_error", "order_error", defArgs sorder_error, defBody sorder_error, defScope sorder_error, [], []⟩, ⟨("bare", none), "bare", "bare", defArgs sbare, defBody sbare, defScope sbare, [], []⟩, ⟨("own_count", none), "own_count", "own_count", defArgs sown_count, defBody sown_count, defScope sown_count, [], []⟩, ⟨("counted", none), "counted", "counted", defArgs scounted, defBody scounted, defScope scounted, [], []⟩, ⟨("weight", none), "weight", "weight", defArgs sweight, defBody sweight, defScope sweight, [], []⟩, ⟨("program_error", none), "program_error", "program_error", defArgs sprogram_error, defBody sprogram_error, defScope sprogram_error, [], []⟩, ⟨("need_program", none), "need_program", "need_program", defArgs sneed_program, defBody sneed_program, defScope sneed_program, [], []⟩, ⟨("statements_in", none), "statements_in", "statements_in", defArgs sstatements_in, defBody sstatements_in, defScope sstatements_in, [], []⟩, ⟨("size_of", none), "size_of", "size_of", defArgs ssize_of, defBody ssize_of, defScope ssize_of, [], []⟩, ⟨("all_in", none), "all_in", "all_in", defArgs sall_in, defBody sall_in, defScope sall_in, [], []⟩, ⟨("placed_at", none), "placed_at", "placed_at", defArgs splaced_at, defBody splaced_at, defScope splaced_at, [], []⟩, ⟨("with_others", none), "with_others", "with_others", defArgs swith_others, defBody swith_others, defScope swith_others, [], []⟩, ⟨("with_inner", none), "with_inner", "with_inner", defArgs swith_inner, defBody swith_inner, defScope swith_inner, [], []⟩, ⟨("moved", none), "moved", "moved", defArgs smoved, defBody smoved, defScope smoved, [], []⟩, ⟨("added", none), "added", "added", defArgs sadded, defBody sadded, defScope sadded, [], []⟩]
def hdF1 : List (He.DefD) := [⟨("dropped", none), "dropped", "dropped", defArgs sdropped, defBody sdropped, defScope sdropped, [], []⟩, ⟨("changed", none), "changed", "changed", defArgs schanged, defBody schanged, defScope schanged, [], []⟩, ⟨("held_too", none), "held_too", "held_too", defArgs sheld_too, defBody sheld_too, defScope sheld_too, [], []⟩, ⟨("freed", none), "freed", "freed", defArgs sfreed, defBody sfreed, defScope sfreed, [], []⟩, ⟨("edited", none), "edited", "edited", defArgs sedited, defBody sedited, defScope sedited, [], []⟩, ⟨("BadProgram", some "__init__"), "__init__", "BadProgram.__init__", defArgs sBadProgram___init__, defBody sBadProgram___init__, defScope sBadProgram___init__, [], []⟩, ⟨("NoReader", some "__init__"), "__init__", "NoReader.__init__", defArgs sNoReader___init__, defBody sNoReader___init__, defScope sNoReader___init__, [], []⟩, ⟨("IsHeld", some "__init__"), "__init__", "IsHeld.__init__", defArgs sIsHeld___init__, defBody sIsHeld___init__, defScope sIsHeld___init__, [], []⟩, ⟨("NotHeld", some "__init__"), "__init__", "NotHeld.__init__", defArgs sNotHeld___init__, defBody sNotHeld___init__, defScope sNotHeld___init__, [], []⟩, ⟨("statement_at", none), "statement_at", "statement_at", defArgs sstatement_at, defBody sstatement_at, defScope sstatement_at, [], []⟩, ⟨("NoPlace", some "__init__"), "__init__", "NoPlace.__init__", defArgs sNoPlace___init__, defBody sNoPlace___init__, defScope sNoPlace___init__, [], []⟩, ⟨("Bench", some "stand"), "stand", "Bench.stand", defArgs sBench_stand, defBody sBench_stand, defScope sBench_stand, [], []⟩, ⟨("Bench", some "idle"), "idle", "Bench.idle", defArgs sBench_idle, defBody sBench_idle, defScope sBench_idle, [], []⟩, ⟨("Bench", some "ready"), "ready", "Bench.ready", defArgs sBench_ready, defBody sBench_ready, defScope sBench_ready, [], []⟩, ⟨("Bench", some "judge"), "judge", "Bench.judge", defArgs sBench_judge, defBody sBench_judge, defScope sBench_judge, [], []⟩, ⟨("Bench", some "settle"), "settle", "Bench.settle", defArgs sBench_settle, defBody sBench_settle, defScope sBench_settle, [], []⟩, ⟨("Bench", some "do"), "do", "Bench.do", defArgs sBench_do, defBody sBench_do, defScope sBench_do, [], []⟩, ⟨("Bench", some "add"), "add", "Bench.add", defArgs sBench_add, defBody sBench_add, defScope sBench_add, [], []⟩, ⟨("Bench", some "drop"), "drop", "Bench.drop", defArgs sBench_drop, defBody sBench_drop, defScope sBench_drop, [], []⟩, ⟨("Bench", some "change"), "change", "Bench.change", defArgs sBench_change, defBody sBench_change, defScope sBench_change, [], []⟩, ⟨("Bench", some "hold"), "hold", "Bench.hold", defArgs sBench_hold, defBody sBench_hold, defScope sBench_hold, [], []⟩, ⟨("Bench", some "free"), "free", "Bench.free", defArgs sBench_free, defBody sBench_free, defScope sBench_free, [], []⟩, ⟨("Bench", some "__len__"), "__len__", "Bench.__len__", defArgs sBench___len__, defBody sBench___len__, defScope sBench___len__, [], []⟩, ⟨("Bench", some "__init__"), "__init__", "Bench.__init__", defArgs sBench___init__, defBody sBench___init__, defScope sBench___init__, [.adr (He.dflAt ("Bench", some "__init__") 0)], []⟩, ⟨("Bench", some "undo"), "undo", "Bench.undo", defArgs sBench_undo, defBody sBench_undo, defScope sBench_undo, [], []⟩, ⟨("Bench", some "state"), "state", "Bench.state", defArgs sBench_state, defBody sBench_state, defScope sBench_state, [], [("version", .non)]⟩, ⟨("_law_deck", none), "_law_deck", "_law_deck", defArgs s_law_deck, defBody s_law_deck, defScope s_law_deck, [], []⟩, ⟨("_law_draw", none), "_law_draw", "_law_draw", defArgs s_law_draw, defBody s_law_draw, defScope s_law_draw, [], []⟩, ⟨("_law_one", none), "_law_one", "_law_one", defArgs s_law_one, defBody s_law_one, defScope s_law_one, [], []⟩, ⟨("_law_rows", none), "_law_rows", "_law_rows", defArgs s_law_rows, defBody s_law_rows, defScope s_law_rows, [], []⟩]
def hdF2 : List (He.DefD) := [⟨("_law_marked_set", none), "_law_marked_set", "_law_marked_set", defArgs s_law_marked_set, defBody s_law_marked_set, defScope s_law_marked_set, [], []⟩, ⟨("_law_tree", none), "_law_tree", "_law_tree", defArgs s_law_tree, defBody s_law_tree, defScope s_law_tree, [], []⟩, ⟨("_law_setters", none), "_law_setters", "_law_setters", defArgs s_law_setters, defBody s_law_setters, defScope s_law_setters, [], []⟩, ⟨("_law_marked", none), "_law_marked", "_law_marked", defArgs s_law_marked, defBody s_law_marked, defScope s_law_marked, [], []⟩, ⟨("_law_marks", none), "_law_marks", "_law_marks", defArgs s_law_marks, defBody s_law_marks, defScope s_law_marks, [], []⟩, ⟨("_law_step", none), "_law_step", "_law_step", defArgs s_law_step, defBody s_law_step, defScope s_law_step, [], []⟩, ⟨("law", none), "law", "law", defArgs slaw, defBody slaw, defScope slaw, [], []⟩]
def hdF : List (He.DefD) := hdF0 ++ hdF1 ++ hdF2
theorem hd_p1 (w : World) (os : OsState) : (hdEnd hdR 14000 w os).map (fun s => HandSHeadRun.looksF hdR.prog (PySem.W.boot_heap w.params) s.abs) = some (true) := by
  kernel_rfl
theorem hd_p2 (w : World) (os : OsState) : (hdEnd hdR 14000 w os).map (fun s => HandSHeadRun.seenQ hdV hdN (importedModules hdR.prog.main.body) (fun s => PySem.W.xlAt hdV [] s && PySem.W.recOk hdR.toRowW.records s) s.abs) = some (PySem.W.openGood hdV hdN) := by
  kernel_rfl
theorem hd_p3 (w : World) (os : OsState) : (hdEnd hdR 14000 w os).map (fun s => hdC.all fun c => c (He.frG (HandSHeadRun.getT s) hdA)) = some (true) := by
  kernel_rfl
theorem hd_p4 (w : World) (os : OsState) : (hdEnd hdR 14000 w os).map (fun s => hdF.all fun d => d.ok (He.frG (HandSHeadRun.getT s) hdA)) = some (true) := by
  kernel_rfl
theorem hd_p5 (w : World) (os : OsState) : (hdEnd hdR 14000 w os).map (fun s => hdF.map fun d => He.fnW (He.frG (HandSHeadRun.getT s) hdA) d.at_) = some (hdF.map He.DefD.val) := by
  kernel_rfl
theorem hd_run (w : World) : HandSHeadRun.RunEq hdR hdV (hookX hdA hdC hdF) (obX hdA hdC hdF) 14000 hdN w := run_of (hd_p1 w) (hd_p2 w) (hd_p3 w) (hd_p4 w) (hd_p5 w)
end Aw
namespace Aw
open PySem PySem.Spec PyProof.Rows L2
structure RoomG (k : Nat) (A : Around) : Prop where
  r : Room k A
  g : A.guards = some []
theorem RoomG.mono {j k : Nat} {A : Around} (h : RoomG k A) (q : j ≤ k) : RoomG j A := ⟨h.r.mono q, h.g⟩
theorem RoomG.h64 {k : Nat} {A : Around} (h : RoomG k A) : A.units + 64 < cLine := h.r.units
/-- a def keeps its promise wherever nothing is being shown -/
structure FnG (P : Program) (w : World) (K : PySem.W.Frag) (mg : Str → Option Value) (base : Heap) (CX : CXT)
    (k : Nat) (f : Addr) (fd : FuncData) (ps : List Str) (sp : Sp) : Prop where
  len : ∀ vs H Q E, sp vs H Q E → vs.length = ps.length
  run : ∀ (A : Around) (outer : List Env) (s : Shared) (H : Hp) (args : Args) (us : List Value) (vs : List V)
    (Q : VK) (E : XK), RoomG k A → Env0 P w K mg base A outer s H → BindsTo s fd args (ps.zip us) → Vals vs us →
    sp vs H Q E → codeAny (model P w) A (.call (.ref f) args) (CR CX outer P w H s Q E) s
section
variable {P : Program} {w : World} {K : PySem.W.Frag} {mg : Str → Option Value} {base : Heap} {CX : CXT}
theorem FnG.mono {j k : Nat} {f : Addr} {fd : FuncData} {ps : List Str} {sp : Sp}
    (F : FnG P w K mg base CX j f fd ps sp) (h : j ≤ k) : FnG P w K mg base CX k f fd ps sp :=
  ⟨F.len, fun A o s H a us vs Q E hr => F.run A o s H a us vs Q E (hr.mono h)⟩
theorem fnG_of {k : Nat} {f : Addr} {nm qual : Str} {params : Arguments} {body : List Stmt} {scope : Scope}
    {dV kV doc pm cdv ct oc : Value} {an od : Option Addr} {osl : Array (Option Value)} {N ps : List Str} {sp : Sp}
    (lk : K.lookup f = some ⟨oc, od, .func (PySem.W.fnOf nm qual params body scope dV kV doc pm an cdv ct), osl⟩)
    (hcd : PySem.W.codeIn K cdv qual = true) (S : FnScope N ps scope)
    (len : ∀ vs H Q E, sp vs H Q E → vs.length = ps.length)
    (hb : ∀ (A : Around) (outer : List Env) (s : Shared) (H : Hp) (vs : List V) (Q : VK) (E : XK),
      RoomG k (A.deeper (envOfC qual scope s.heap.objs.size f cdv)) → sp vs H Q E →
      ∃ t, PSs (cxOf CX P w K mg base N qual scope f cdv A outer s H E) body t ∧
        t { nx := fun _ H' => Q .non H', rt := Q } (start N vs) H) :
    FnG P w K mg base CX (k + 1) f (PySem.W.fnOf nm qual params body scope dV kV doc pm an cdv ct) ps sp := by
  refine ⟨len, fun A outer s H args us vs Q E hr e0 hbd r hsp => ?_⟩
  have hl := len _ _ _ _ hsp
  have KX : K.In s.heap := e0.mod.kin.keeps fun b o e => (e0.bs b o e).1
  have lim : s.heap.NoLimit := e0.mod.nolimit.keeps fun b o e => (e0.bs b o e).1
  refine codeAny_call_function hr.r.depth (KX _ _ lk) rfl S.co S.gen rfl (PySem.W.codeRec_of KX hcd)
    (hbd _ _ _ _ ?_)
  refine wpAny_newFunctionEnv_cells S.kind (fun ⟨n, v⟩ hy => ?_) fun env he s1 x => ?_
  · rcases S.par n (List.of_mem_zip hy).1 with q | q
    · exact .inl q
    · exact .inr ⟨q, PySem.W.cellsFrom_some _ _ _ (.inl q)⟩
  subst he
  refine ⟨lim.keeps x.toInCall.keep, codeAny_func ?_⟩
  obtain ⟨t, ht, hq⟩ := hb A outer s H vs Q E ⟨hr.r.deeper _, hr.g⟩ hsp
  have I := inv_start (CX := CX) (E := E) (f := f) (cd := cdv) S hr.r.hd e0 hl r x
  refine wpAny_mono (ht.run [] s1 (start N vs) H _ I hq) (fun fl s' hs => ?_) fun e s' hs => hs
  cases fl with
  | ret u =>
    obtain ⟨v, σ', H', J, rv, q⟩ := hs
    exact ⟨v, H', J.os, J.bare, J.base, J.hok, rv, q⟩
  | next =>
    obtain ⟨σ', H', J, q⟩ := hs
    exact ⟨V.non, H', J.os, J.bare, J.base, J.hok, rfl, q⟩
  | brk => exact hs.elim fun _ h => h.elim fun _ h => h.2.elim
  | cont => exact hs.elim fun _ h => h.elim fun _ h => h.2.elim
/-- a def of the top, by its name -/
def Df (K : PySem.W.Frag) (mg : Str → Option Value) (x : Str) (st : Stmt) (ps : List Str) : Prop :=
  ∃ (f : Addr) (fd : FuncData), Fun K x x st f fd ∧ mg x = some (.ref f) ∧ Binds K fd ps []
/-- the def of this name keeps a promise -/
def Has (P : Program) (w : World) (K : PySem.W.Frag) (mg : Str → Option Value) (base : Heap) (CX : CXT) (x : Str)
    (ps : List Str) (k : Nat) (sp : Sp) : Prop :=
  ∃ (f : Addr) (fd : FuncData), (PySem.W.keepIn K (.ref f) = true ∧ ∃ oc od osl, K.lookup f = some ⟨oc, od, .func fd, osl⟩) ∧
    mg x = some (.ref f) ∧ Binds K fd ps [] ∧ FnG P w K mg base CX k f fd ps sp
theorem Has.any {ι : Type} {x : Str} {ps : List Str} {k : Nat} {sp : ι → Sp} (i₀ : ι) (h : ∀ i, Has P w K mg base CX x ps k (sp i)) :
    Has P w K mg base CX x ps k (fun vs H Q E => ∃ i, sp i vs H Q E) := by
  obtain ⟨f, fd, ⟨a, oc, od, osl, l⟩, b, c, _⟩ := h i₀
  have same : ∀ i, FnG P w K mg base CX k f fd ps (sp i) := by
    intro i
    obtain ⟨f', fd', ⟨_, oc', od', osl', l'⟩, b', _, d'⟩ := h i
    cases b.symm.trans b'
    cases l.symm.trans l'
    exact d'
  exact ⟨f, fd, ⟨a, oc, od, osl, l⟩, b, c, fun vs H Q E ⟨i, z⟩ => (same i).len _ _ _ _ z, fun A o s H ar us vs Q E hr he hb hv ⟨i, hs⟩ =>
    (same i).run A o s H ar us vs Q E hr he hb hv hs⟩
theorem Has.mono {x : Str} {ps : List Str} {j k : Nat} {sp : Sp} (h : Has P w K mg base CX x ps j sp) (q : j ≤ k) :
    Has P w K mg base CX x ps k sp := by
  obtain ⟨f, fd, a, b, c, d⟩ := h
  exact ⟨f, fd, a, b, c, d.mono q⟩
theorem Has.imp {x : Str} {ps : List Str} {k : Nat} {sp sp' : Sp} (h : Has P w K mg base CX x ps k sp)
    (q : ∀ vs H Q E, sp' vs H Q E → sp vs H Q E) : Has P w K mg base CX x ps k sp' := by
  obtain ⟨f, fd, a, b, c, d⟩ := h
  exact ⟨f, fd, a, b, c, fun vs H Q E z => d.len _ _ _ _ (q _ _ _ _ z), fun A o s H ar us vs Q E hr he hb hv hs =>
    d.run A o s H ar us vs Q E hr he hb hv (q _ _ _ _ hs)⟩
theorem Df.void {x : Str} {st : Stmt} {ps : List Str} {sp : Sp} (d : Df K mg x st ps) (h : ∀ vs H Q E, ¬ sp vs H Q E) :
    Has P w K mg base CX x ps 0 sp := by
  obtain ⟨f, fd, F, m, b⟩ := d
  have lk : ∃ oc od osl, K.lookup f = some ⟨oc, od, .func fd, osl⟩ := by
    obtain ⟨oc, od, kV, doc, pm, an, cdv, ct, osl, rfl, lk, hcd⟩ := F.ex
    exact ⟨oc, od, osl, lk⟩
  exact ⟨f, fd, ⟨F.kp, lk⟩, m, b, fun vs H Q E z => absurd z (h _ _ _ _), fun A o s H ar us vs Q E hr he hb hv hs =>
    absurd hs (h _ _ _ _)⟩
theorem Df.has {x : Str} {st : Stmt} {ps N : List Str} {k : Nat} {sp : Sp} (d : Df K mg x st ps)
    (S : FnScope N ps (defScope st)) (len : ∀ vs H Q E, sp vs H Q E → vs.length = ps.length)
    (hb : ∀ (f : Addr) (cdv : Value) (A : Around) (outer : List Env) (s : Shared) (H : Hp) (vs : List V) (Q : VK) (E : XK),
      RoomG k (A.deeper (envOfC x (defScope st) s.heap.objs.size f cdv)) → sp vs H Q E →
      ∃ t, PSs (cxOf CX0 P w K mg base N x (defScope st) f cdv A outer s H E).nox (defBody st) t ∧
        t { nx := fun _ H' => Q .non H', rt := Q } (start N vs) H) : Has P w K mg base CX0 x ps (k + 1) sp := by
  obtain ⟨f, fd, F, m, b⟩ := d
  obtain ⟨oc, od, kV, doc, pm, an, cdv, ct, osl, rfl, lk, hcd⟩ := F.ex
  refine ⟨f, _, ⟨F.kp, oc, od, osl, lk⟩, m, b, fnG_of lk hcd S len fun A outer s H vs Q E hr hsp => ?_⟩
  obtain ⟨t, h, q⟩ := hb f cdv A outer s H vs Q E hr hsp
  exact ⟨t, h.nox, q⟩
end
section
variable {X : Cx} {CX : CXT} {k : Nat} {ps : List Str} {sp : Sp} {E : XK} {x : Str} {p pos : Pos} {e : Expr}
  {es : List Expr} {t : TA}
theorem runG {f : Addr} {fd : FuncData} {pins : List (Addr × Obj)} {σ : L2.St} {H : Hp} {s : Shared} {Q : VK}
    {us : List Value} {vs : List V} (F : FnG X.prog X.w X.K X.mg X.base CX k f fd ps sp) (hr : RoomG k X.A)
    (hb : Binds X.K fd ps []) (hx : Passes CX X E) (I : Inv X pins σ H s) (r : Vals vs us) (h : sp vs H Q E) :
    wpAny (model X.prog X.w) X.A (call (.ref f) us) (EP X pins σ Q) X.xe s := by
  have hl : (us ++ []).length = ps.length := by
    rw [List.append_nil, ← r.length]
    exact F.len _ _ _ _ h
  have bb := hb s us I.kIn hl
  rw [List.append_nil] at bb
  refine wpAny_call (codeAny_mono (F.run X.A X.stack s H ⟨us, []⟩ us vs Q E hr I.env0 bb r h) fun r s' hq => ?_)
  match r, hq with
  | .error e, hq => exact hx pins σ H s e s' I hq
  | .ok (.ret u), hq => exact I.after hq
/-- f(e, ..) of a def by its name -/
theorem pe_f (F : Has X.prog X.w X.K X.mg X.base CX x ps k sp) (hr : RoomG k X.A) (hg : Gl X x) (hx : Passes CX X E)
    (ha : PA X (e :: es) t) (hdb : (x == ("__debug__" : Str)) = false := by decide)
    (he : starEach (e :: es) X.env = (false, eval e X.env) :: starEach es X.env := by rfl)
    (hpl : (backTo pos (starEach es X.env)).any (·.1) = false := by rfl) :
    PE X (.Call (.Name x p) (e :: es) [] pos) (tCall sp [] E t) := by
  obtain ⟨f, fd, ⟨hk, _⟩, hm, hb, F⟩ := F
  refine ⟨fun pins s σ H Q I h => wpAny_Call_Name_kw (ld_glob I hg hm ?_ hdb)⟩
  refine PySem.W.callWith_K (h₀ := X.base) I.ok.mod.kin hk (thn (ha.run pos pins s σ H _ I h) fun us s1 q => ?_) he hpl
  obtain ⟨vs, H1, I1, r, q⟩ := q
  rw [List.append_nil] at q
  exact ⟨I1.kIn, runG F hr hb hx I1 r q⟩
end
end Aw
namespace Aw
open PySem PySem.Spec PyProof.Rows L2
def spLaw (K : PySem.W.Frag) : Sp := fun vs H Q _ => ∃ (a : Addr) (ns : List Int),
  vs = [.ref a] ∧ SqL K H a (ns.map V.int) ∧ ns.length ≤ 63 ∧ ∀ H', Q (.bl true) H'
theorem lawG_core {P : Program} {w : World} {K : PySem.W.Frag} {mg mb : Str → Option Value} {k : Nat} {fa a : Addr}
    {x : Str} {s : Shared} {vs : List Value} {ns : List Int} (KX : K.In s.heap) (hns : s.heap.Ns mainGlobals mg)
    (hb : s.heap.Ns builtinsNs mb) (hbb : ∀ x : Str, x ≠ "__name__" → mb x = bootBuiltins x)
    (hlim : s.heap.NoLimit) (hsm : ∃ mm, s.heap.Ns sysModules mm) (hg : s.gens = #[])
    (ha : s.heap.get? a = some { cls := .type "list", data := .seq vs.toArray }) (hl : ns.length ≤ 63)
    (hr : RoomG k callerA) (hfa : mg "law" = some (.ref fa))
    (F : ∀ base : Heap, K.In base → base.Ns mainGlobals mg → (∃ mm, base.Ns sysModules mm) → Has P w K mg base CX0 "law" [x] k (spLaw K))
    (H : Hp) (hO : Only H) (hS : SqL K H a (ns.map V.int)) (hok : HOk P w H s.heap) (hA : ∀ b, H b ≠ none → b = a)
    (hK : H a ≠ none → K.lookup a = none) :
    codeAny (model P w) callerA (.call (.ref fa) ⟨[.ref a], []⟩)
      (fun r s' => r = .ok (.ret (.bool true)) ∧ OldK s.heap s'.heap ∧ s'.os = s.os ∧ AllBare s'.gens) s := by
  have isA : ∀ {b : Addr} {u : HO}, H b = some u → b = a := fun {b u} q => hA b (by rw [q]; simp)
  have keepD : ∀ {b : Addr} {m : Str → Option Value}, s.heap.Ns b m → (hidT s.heap H).Ns b m := by
    rintro b m ⟨o, es, ep, e, d, r⟩
    refine ⟨o, es, ep, hidT_get e ?_, d, r⟩
    cases q : H b with
    | none => rfl
    | some u =>
      cases isA q
      rw [ha] at e
      cases e
      exact nomatch (show Data.seq vs.toArray _ = Data.dict es ep from d)
  have hKb : K.In (hidT s.heap H) := by
    intro b o e
    refine hidT_get (KX b o e) ?_
    cases q : H b with
    | none => rfl
    | some u =>
      cases isA q
      rw [hK (by rw [q]; simp)] at e
      cases e
  have hM : Mod K mg (hidT s.heap H) := by
    obtain ⟨mc, h1, h2⟩ := hlim
    exact ⟨hKb, keepD hns, ⟨mb, keepD hb, hbb⟩, ⟨mc, keepD h1, h2⟩⟩
  have e0 : Env0 P w K mg (hidT s.heap H) callerA [] s H := by
    refine ⟨rfl, hM, fun b o e => of_hidT e, Nat.le_of_eq (hidT_size _ _), trivial, fun b hb => ?_, hok, .of_eq hg⟩
    exact absurd (show b ∈ ([] : List Addr) from hb) (by simp)
  obtain ⟨f, fd, kp, m, bd, FN⟩ := F _ hKb (keepD hns) (hsm.elim fun mm h => ⟨mm, keepD h⟩)
  cases hfa.symm.trans m
  have bb := bd s [.ref a] KX rfl
  have hsp : spLaw K [.ref a] H (fun v _ => v = .bl true) (fun _ _ _ => False) := ⟨a, ns, rfl, hS, hl, fun _ => rfl⟩
  refine codeAny_mono (FN.run callerA [] s H ⟨[.ref a], []⟩ [.ref a] [.ref a] _ _ hr e0 bb (.cons rfl .nil) hsp) ?_
  intro r s' h
  match r, h with
  | .ok (.ret u), h =>
    obtain ⟨v, H', os, bare, un, hok', r', q⟩ := h
    cases (show v = .bl true from q)
    cases (show u = Value.bool true from r')
    refine ⟨rfl, OldK.of_keep fun b o e => ?_, os, bare⟩
    cases q : H b with
    | none => exact un.keep b o e q (fun z => absurd (show b ∈ ([] : List Addr) from z) (by simp)) (by simp)
    | some u =>
      rcases hO b with z | ⟨ob, xs, z⟩
      · rw [q] at z
        cases z
      · have e1 := (hok b _ z).1
        rw [e] at e1
        cases e1
        exact (hok' b _ (un.frzs b _ _ z)).1
theorem lawG {P : Program} {w : World} {K : PySem.W.Frag} {mg mb : Str → Option Value} {k : Nat} {fa a : Addr}
    {x : Str} {s : Shared} {vs : List Value} {ns : List Int} (KX : K.In s.heap) (hns : s.heap.Ns mainGlobals mg)
    (hb : s.heap.Ns builtinsNs mb) (hbb : ∀ x : Str, x ≠ "__name__" → mb x = bootBuiltins x)
    (hlim : s.heap.NoLimit) (hsm : ∃ mm, s.heap.Ns sysModules mm) (hg : s.gens = #[])
    (ha : s.heap.get? a = some { cls := .type "list", data := .seq vs.toArray }) (hi : IntsAre vs ns)
    (hl : ns.length ≤ 63) (hr : RoomG k callerA) (hfa : mg "law" = some (.ref fa))
    (F : ∀ base : Heap, K.In base → base.Ns mainGlobals mg → (∃ mm, base.Ns sysModules mm) → Has P w K mg base CX0 "law" [x] k (spLaw K)) :
    codeAny (model P w) callerA (.call (.ref fa) ⟨[.ref a], []⟩)
      (fun r s' => r = .ok (.ret (.bool true)) ∧ OldK s.heap s'.heap ∧ s'.os = s.os ∧ AllBare s'.gens) s := by
  have rv := vals_ints hi
  have h63 : (63 : Nat) ≤ sizeLine := by decide
  have lenV := hi.length
  have core := lawG_core KX hns hb hbb hlim hsm hg ha hl hr hfa F
  cases hk : K.lookup a with
  | some o =>
    have e := KX a o hk
    rw [ha] at e
    cases e
    refine core (fun _ => none) (fun _ => .inl rfl) (.inr ⟨_, vs.toArray, _, hk, rfl, rfl, rfl, ?_, by simpa using rv⟩)
      (fun b u z => nomatch (show (none : Option HO) = some u from z)) (fun b z => absurd rfl z) fun z => absurd rfl z
    rw [List.size_toArray, lenV]
    exact Nat.le_trans hl h63
  | none =>
    refine core (upd (fun _ => none) a (.frz { cls := .type "list", data := .seq vs.toArray } (.lst (ns.map V.int))))
      (fun b => ?_) (.inl (.inr ⟨_, upd_same⟩)) (fun b u z => ?_) (fun b z => ?_) fun _ => hk
    · by_cases hb : b = a
      · subst hb
        exact .inr ⟨_, _, upd_same⟩
      · exact .inl (upd_ne hb)
    · by_cases hb : b = a
      · subst hb
        rw [upd_same] at z
        cases z
        exact ⟨ha, by rw [List.length_map]; exact Nat.le_trans hl h63, vs, _, rv, ha⟩
      · rw [upd_ne hb] at z
        cases z
    · exact Classical.byContradiction fun hb => z (upd_ne hb)
end Aw
namespace Aw
open PySem PySem.Spec L2
/-- names of built-ins that the top leaves alone -/
structure Blt (mg : Str → Option Value) : Prop where
  len : mg "len" = none
  int : mg "int" = none
  abs : mg "abs" = none
  str : mg "str" = none
  bool : mg "bool" = none
  range : mg "range" = none
  isinstance : mg "isinstance" = none
  tuple : mg "tuple" = none
  list : mg "list" = none
  repr : mg "repr" = none
  zip : mg "zip" = none
  enumerate : mg "enumerate" = none
  sum : mg "sum" = none
  min : mg "min" = none
  max : mg "max" = none
  all : mg "all" = none
  any : mg "any" = none
  sorted : mg "sorted" = none
  dict : mg "dict" = none
/-- what may be written -/
def Mut : HO → Prop
  | .tup _ => False
  | .frz _ _ => False
  | _ => True
/-- all but what stands at M is kept -/
def Kp (M : List Addr) (H H' : Hp) : Prop :=
  ∀ b o, H b = some o → (b ∈ M → Mut o) ∧ (b ∉ M → H' b = some o)
/-- lists stand at M -/
def Ls (M : List Addr) (H : Hp) : Prop := ∀ b ∈ M, ∃ xs, H b = some (.lst xs)
theorem Kp.refl {M : List Addr} {H : Hp} (h : Ls M H) : Kp M H H := fun b o e => ⟨fun m => by
  obtain ⟨xs, q⟩ := h b m
  rw [e] at q
  cases q
  trivial, fun _ => e⟩
/-- what may be written stands at M -/
def Ms (M : List Addr) (H : Hp) : Prop := ∀ b ∈ M, ∃ o, H b = some o ∧ Mut o
theorem Kp.reflM {M : List Addr} {H : Hp} (h : Ms M H) : Kp M H H := fun b o e => ⟨fun m => by
  obtain ⟨o', q, z⟩ := h b m
  rw [e] at q
  cases q
  exact z, fun _ => e⟩
theorem Ms.nil {H : Hp} : Ms [] H := fun b m => by cases m
theorem Ms.cons {M : List Addr} {H : Hp} {a : Addr} {o : HO} (e : H a = some o) (z : Mut o) (h : Ms M H) : Ms (a :: M) H := fun b m => by
  rcases List.mem_cons.mp m with rfl | m
  · exact ⟨o, e, z⟩
  · exact h b m
theorem Kp.nil {H : Hp} : Kp [] H H := fun b o e => ⟨fun m => (by cases m), fun _ => e⟩
theorem Kp.trans {M : List Addr} {H H1 H2 : Hp} (a : Kp M H H1) (b : Kp M H1 H2) : Kp M H H2 := fun c o e =>
  ⟨(a c o e).1, fun n => (b c o ((a c o e).2 n)).2 n⟩
theorem Kp.sub {M M' : List Addr} {H H1 : Hp} (a : Kp M H H1) (h : Ls M' H) (s : ∀ b ∈ M, b ∈ M') : Kp M' H H1 := fun c o e =>
  ⟨fun m => by
    obtain ⟨xs, q⟩ := h c m
    rw [e] at q
    cases q
    trivial, fun n => (a c o e).2 fun m => n (s c m)⟩
theorem Kp.subM {M M' : List Addr} {H H1 : Hp} (a : Kp M H H1) (h : Ms M' H) (s : ∀ b ∈ M, b ∈ M') : Kp M' H H1 := fun c o e =>
  ⟨fun m => by
    obtain ⟨o', q, z⟩ := h c m
    rw [e] at q
    cases q
    exact z, fun n => (a c o e).2 fun m => n (s c m)⟩
theorem Kp.same {H H1 : Hp} (a : Kp [] H H1) : Same H H1 := fun b o e => (a b o e).2 (by simp)
theorem Kp.of {H H1 : Hp} (a : Same H H1) : Kp [] H H1 := fun b o e => ⟨fun m => (by cases m), fun _ => a b o e⟩
theorem Kp.get {M : List Addr} {H H1 : Hp} {b : Addr} {o : HO} (a : Kp M H H1) (e : H b = some o) (n : b ∉ M) : H1 b = some o := (a b o e).2 n
theorem Kp.tup {M : List Addr} {H H1 : Hp} {b : Addr} {xs : List V} (a : Kp M H H1) (e : H b = some (.tup xs)) : H1 b = some (.tup xs) :=
  (a b _ e).2 fun m => (a b _ e).1 m
/-- a new object -/
theorem Kp.new {M : List Addr} {H H1 : Hp} {p : Addr} {o : HO} (a : Kp M H H1) (n : H1 p = none) : Kp M H (upd H1 p o) := fun b u e =>
  ⟨(a b u e).1, fun m => by
    have q := (a b u e).2 m
    rw [upd_ne (ne_of_none q n)]
    exact q⟩
/-- a write at M -/
theorem Kp.write {M : List Addr} {H H1 : Hp} {p : Addr} {o : HO} (a : Kp M H H1) (m : p ∈ M) : Kp M H (upd H1 p o) := fun b u e =>
  ⟨(a b u e).1, fun n => by
    have q := (a b u e).2 n
    rw [upd_ne (fun z : b = p => n (by rw [z]; exact m))]
    exact q⟩
/-- what was not there ahead may be written -/
theorem Kp.own {M : List Addr} {H H1 : Hp} {p : Addr} {o : HO} (a : Kp M H H1) (n : H p = none) : Kp M H (upd H1 p o) := fun b u e =>
  ⟨(a b u e).1, fun m => by
    rw [upd_ne (ne_of_none e n)]
    exact (a b u e).2 m⟩
theorem Kp.free {M : List Addr} {H H1 : Hp} {p : Addr} (a : Kp M H H1) (l : Ls M H1) (n : H1 p = none) : H p = none := by
  cases q : H p with
  | none => rfl
  | some o =>
    by_cases m : p ∈ M
    · obtain ⟨xs, z⟩ := l p m
      rw [n] at z
      cases z
    · rw [(a p o q).2 m] at n
      cases n
theorem Kp.freeM {M : List Addr} {H H1 : Hp} {p : Addr} (a : Kp M H H1) (l : Ms M H1) (n : H1 p = none) : H p = none := by
  cases q : H p with
  | none => rfl
  | some o =>
    by_cases m : p ∈ M
    · obtain ⟨o', z, _⟩ := l p m
      rw [n] at z
      cases z
    · rw [(a p o q).2 m] at n
      cases n
theorem sqT_kp {K : PySem.W.Frag} {M : List Addr} {H H1 : Hp} {b : Addr} {xs : List V} (a : Kp M H H1) (h : SqT K H b xs) : SqT K H1 b xs := by
  rcases h with (h | ⟨o, h⟩) | h
  · exact .inl (.inl (a.tup h))
  · exact .inl (.inr ⟨o, (a b _ h).2 fun m => (a b _ h).1 m⟩)
  · exact .inr h
theorem sqL_kp {K : PySem.W.Frag} {M : List Addr} {H H1 : Hp} {b : Addr} {xs : List V} (a : Kp M H H1) (n : b ∉ M) (h : SqL K H b xs) : SqL K H1 b xs := by
  rcases h with (h | ⟨o, h⟩) | h
  · exact .inl (.inl (a.get h n))
  · exact .inl (.inr ⟨o, a.get h n⟩)
  · exact .inr h
/-- data without lists -/
inductive Dt (K : PySem.W.Frag) (H : Hp) : V → PyData → Prop
  | non : Dt K H .non .none
  | bl (b : Bool) : Dt K H (.bl b) (.bool b)
  | int (i : Int) : Dt K H (.int i) (.int i)
  | str (x : Str) : Dt K H (.str x) (.str x)
  | tup {a : Addr} {xs : List V} {ds : List PyData} : SqT K H a xs → xs.length = ds.length →
      (∀ (i : Nat) (v : V) (d : PyData), xs[i]? = some v → ds[i]? = some d → Dt K H v d) → Dt K H (.ref a) (.tuple ds)
theorem Dt.kp {K : PySem.W.Frag} {M : List Addr} {H H1 : Hp} {v : V} {d : PyData} (a : Kp M H H1) (h : Dt K H v d) : Dt K H1 v d := by
  induction h with
  | non => exact .non
  | bl b => exact .bl b
  | int i => exact .int i
  | str x => exact .str x
  | tup s l _ ih => exact .tup (sqT_kp a s) l ih
theorem Dt.dp {K : PySem.W.Frag} {H : Hp} {v : V} {d : PyData} (h : Dt K H v d) : Dp K H v d := by
  induction h with
  | non => exact .non
  | bl b => exact .bl b
  | int i => exact .int i
  | str x => exact .str x
  | @tup a xs ds s l _ ih =>
    refine .tup s ?_
    clear s
    induction xs generalizing ds with
    | nil =>
      cases ds with
      | nil => exact .nil
      | cons d ds => cases l
    | cons x xs ihx =>
      cases ds with
      | nil => cases l
      | cons d ds =>
        refine .cons (ih 0 x d rfl rfl) (ihx (by simpa using l) (fun i => ?_) fun i => ?_)
        · rename_i q
          exact q (i + 1)
        · exact ih (i + 1)
structure Deck (H : Hp) (d c : Addr) (n : Int) : Prop where
  hd : H d = some (.lst [.ref c, .int n])
  hc : ∃ cs : List Int, H c = some (.lst (cs.map V.int)) ∧ (∀ x ∈ cs, 0 ≤ x) ∧ cs.length ≤ 63
  ne : d ≠ c
  n0 : 0 ≤ n
theorem Deck.ls {H : Hp} {d c : Addr} {n : Int} (D : Deck H d c n) : Ls [d, c] H := by
  intro b m
  rcases List.mem_cons.mp m with rfl | m
  · exact ⟨_, D.hd⟩
  · obtain ⟨cs, h, _⟩ := D.hc
    rw [List.mem_singleton.mp m]
    exact ⟨_, h⟩
theorem Deck.ls3 {H : Hp} {d c l : Addr} {n : Int} {xs : List V} (D : Deck H d c n) (h : H l = some (.lst xs)) : Ls [d, c, l] H := by
  intro b m
  rcases List.mem_cons.mp m with rfl | m
  · exact ⟨_, D.hd⟩
  rcases List.mem_cons.mp m with rfl | m
  · obtain ⟨cs, h, _⟩ := D.hc
    exact ⟨_, h⟩
  · rw [List.mem_singleton.mp m]
    exact ⟨_, h⟩
theorem Deck.fresh {H : Hp} {d c p : Addr} {n : Int} (D : Deck H d c n) (h : H p = none) : p ≠ d ∧ p ≠ c := by
  obtain ⟨cs, hc, _⟩ := D.hc
  exact ⟨Ne.symm (ne_of_none D.hd h), Ne.symm (ne_of_none hc h)⟩
theorem Deck.kp {M : List Addr} {H H1 : Hp} {d c : Addr} {n : Int} (D : Deck H d c n) (k : Kp M H H1) (hd : d ∉ M) (hc : c ∉ M) : Deck H1 d c n := by
  obtain ⟨cs, h, a, b⟩ := D.hc
  exact ⟨k.get D.hd hd, ⟨cs, k.get h hc, a, b⟩, D.ne, D.n0⟩
/-- a draw -/
def spDraw : Sp := fun vs H Q _ => ∃ (d c : Addr) (n m : Int), vs = [.ref d, .int m] ∧ Deck H d c n ∧ n < 10 ^ 12 ∧ 1 ≤ m ∧ m < 2 ^ 30 ∧
  ∀ (H' : Hp) (r : Int), 0 ≤ r → r < m → Deck H' d c (n + 1) → Kp [d, c] H H' → Q (.int r) H'
theorem spDraw.use {H : Hp} {Q : VK} {E : XK} {d c : Addr} {n m : Int} (D : Deck H d c n) (hn : n < 10 ^ 12) (h1 : 1 ≤ m) (h2 : m < 2 ^ 30)
    (k : ∀ (H' : Hp) (r : Int), 0 ≤ r → r < m → Deck H' d c (n + 1) → Kp [d, c] H H' → Q (.int r) H') : spDraw [.ref d, .int m] H Q E :=
  ⟨d, c, n, m, rfl, D, hn, h1, h2, k⟩
/-- the deck is made -/
def spDeck (K : PySem.W.Frag) : Sp := fun vs H Q _ => ∃ (a : Addr) (ns : List Int), vs = [.ref a] ∧ SqL K H a (ns.map V.int) ∧ ns.length ≤ 63 ∧
  ∀ (H' : Hp) (d c : Addr), H d = none → H c = none → Deck H' d c 0 → Kp [] H H' → Q (.ref d) H'
/-- one of the items of a list, of a text -/
def spOneL (K : PySem.W.Frag) : Sp := fun vs H Q _ => ∃ (d c a : Addr) (n : Int) (xs : List V), vs = [.ref d, .ref a] ∧ Deck H d c n ∧ n < 10 ^ 12 ∧ SqL K H a xs ∧ a ≠ d ∧ a ≠ c ∧
  1 ≤ xs.length ∧ xs.length < 2 ^ 30 ∧ ∀ (H' : Hp) (i : Nat) (x : V), xs[i]? = some x → Deck H' d c (n + 1) → Kp [d, c] H H' → Q x H'
def spOneS : Sp := fun vs H Q _ => ∃ (d c : Addr) (n : Int) (z : Str), vs = [.ref d, .str z] ∧ Deck H d c n ∧ n < 10 ^ 12 ∧
  1 ≤ z.length ∧ z.length ≤ 1000 ∧ ∀ (H' : Hp) (k : Nat), k ∈ z.cps.toList → Deck H' d c (n + 1) → Kp [d, c] H H' → Q (.str ⟨#[k]⟩) H'
def spOne (K : PySem.W.Frag) : Sp := fun vs H Q E => spOneL K vs H Q E ∨ spOneS vs H Q E
theorem spOne.list {K : PySem.W.Frag} {H : Hp} {Q : VK} {E : XK} {d c a : Addr} {n : Int} {xs : List V} (D : Deck H d c n) (hn : n < 10 ^ 12) (s : SqL K H a xs) (h1 : a ≠ d) (h2 : a ≠ c)
    (h3 : 1 ≤ xs.length) (h4 : xs.length < 2 ^ 30) (k : ∀ (H' : Hp) (i : Nat) (x : V), xs[i]? = some x → Deck H' d c (n + 1) → Kp [d, c] H H' → Q x H') : spOne K [.ref d, .ref a] H Q E :=
  .inl ⟨d, c, a, n, xs, rfl, D, hn, s, h1, h2, h3, h4, k⟩
theorem spOne.text {K : PySem.W.Frag} {H : Hp} {Q : VK} {E : XK} {d c : Addr} {n : Int} {z : Str} (D : Deck H d c n) (hn : n < 10 ^ 12) (h3 : 1 ≤ z.length) (h4 : z.length ≤ 1000)
    (k : ∀ (H' : Hp) (i : Nat), i ∈ z.cps.toList → Deck H' d c (n + 1) → Kp [d, c] H H' → Q (.str ⟨#[i]⟩) H') : spOne K [.ref d, .str z] H Q E :=
  .inr ⟨d, c, n, z, rfl, D, hn, h3, h4, k⟩
end Aw
namespace Aw
open PySem PySem.Spec L2
section
variable {σ : L2.St} {H : Hp} {D : Ends} {Q : VK} {v x y : V} {i j : Nat} {t u : TS} {te ta tb tc : TE} {tt tu : TT} {ts : TA} {g : TG} {gs : TGs}
theorem r_seq (h : t { D with nx := u D } σ H) : tSeq t u D σ H := h
theorem r_next (h : D.nx σ H) : tNext D σ H := h
theorem r_asg (h : te σ H fun x H1 => g x σ H1 D.nx) : tAsg te g D σ H := h
theorem r_name {R : L2.St → Hp → Prop} (h : R (σ.set i (some v)) H) : gName i v σ H R := h
theorem r_sub {to ti : TE} {w : TSet} {R : L2.St → Hp → Prop} (h : to σ H fun o H1 => ti σ H1 fun i H2 => w o i v H2 fun H3 => R σ H3) : gSub to ti w v σ H R := h
theorem r_gtup {K : PySem.W.Frag} {n : Nat} {a : Addr} {xs : List V} {R : L2.St → Hp → Prop} (h : SqT K H a xs) (l : xs.length = n) (q : gs xs σ H R) : gTup K n gs (.ref a) σ H R := ⟨a, xs, rfl, h, l, q⟩
theorem r_gcons {R : L2.St → Hp → Prop} {xs : List V} (h : g x σ H fun σ' H' => gs xs σ' H' R) : gCons g gs (x :: xs) σ H R := ⟨x, xs, rfl, h⟩
theorem r_gnil {R : L2.St → Hp → Prop} (h : R σ H) : gNil [] σ H R := ⟨rfl, h⟩
theorem r_ifS (h : tt σ H fun b H1 => if b = true then t D σ H1 else u D σ H1) : tIfS tt t u D σ H := h
theorem r_ret (h : te σ H D.rt) : tRet te D σ H := h
theorem r_retN (h : D.rt .non H) : tRetN D σ H := h
theorem r_drop (h : te σ H fun _ H1 => D.nx σ H1) : tDrop te D σ H := h
theorem r_par (h : ts σ H fun vs H1 => ∃ v w, vs = [v, w] ∧ D.nx ((σ.set i (some v)).set j (some w)) H1) : tPar i j ts D σ H := h
theorem r_two {R : V → V → Prop} (h : R x y) : ∃ v w, [x, y] = [v, w] ∧ R v w := ⟨x, y, rfl, h⟩
theorem r_par3 {l : Nat} (h : ts σ H fun vs H1 => ∃ u v w, vs = [u, v, w] ∧ D.nx (((σ.set i (some u)).set j (some v)).set l (some w)) H1) : tPar3 i j l ts D σ H := h
theorem r_three {R : V → V → V → Prop} {z : V} (h : R x y z) : ∃ u v w, [x, y, z] = [u, v, w] ∧ R u v w := ⟨x, y, z, rfl, h⟩
theorem r_aug {ti : TIp} (e : σ[i]? = some (some x)) (h : te σ H fun y H1 => ti x y H1 fun z H2 => D.nx (σ.set i (some z)) H2) : tAug i te ti D σ H := ⟨x, e, h⟩
theorem r_ipI {f : Int → Int → Int} {a b : Int} (h : Q (.int (f a b)) H) : ipI f (.int a) (.int b) H Q := ⟨a, b, rfl, rfl, h⟩
theorem r_var (e : σ[i]? = some (some v)) (h : Q v H) : tVar i σ H Q := ⟨v, e, h⟩
theorem r_C (h : Q v H) : tC v σ H Q := h
theorem r_op {r : R2} (h : ta σ H fun x H1 => tb σ H1 fun y H2 => r x y H2 Q) : tOp r ta tb σ H Q := h
theorem r_un {r : V → Hp → VK → Prop} (h : ta σ H fun x H1 => r x H1 Q) : tUn r ta σ H Q := h
theorem r_I0 {f : Int → Int → V} {a b : Int} (h : Q (f a b) H) : rI0 f (.int a) (.int b) H Q := ⟨a, b, rfl, rfl, h⟩
theorem r_I {C : Int → Int → Prop} {f : Int → Int → V} {a b : Int} (h : Q (f a b) H) (c : C a b) : rI C f (.int a) (.int b) H Q := ⟨a, b, rfl, rfl, c, h⟩
theorem r_U {f : Int → V} {a : Int} (h : Q (f a) H) : rU f (.int a) H Q := ⟨a, rfl, h⟩
theorem r_tup (h : ts σ H fun xs H1 => xs.length ≤ sizeLine ∧ ∀ p, H1 p = none → Q (.ref p) (upd H1 p (.tup xs))) : tTup ts σ H Q := h
theorem r_lst (h : ts σ H fun xs H1 => xs.length ≤ sizeLine ∧ ∀ p, H1 p = none → Q (.ref p) (upd H1 p (.lst xs))) : tLst ts σ H Q := h
theorem r_nil {R : List V → Hp → Prop} (h : R [] H) : tNil σ H R := h
theorem r_cons {R : List V → Hp → Prop} (h : te σ H fun x H1 => ts σ H1 fun xs H2 => R (x :: xs) H2) : tCons te ts σ H R := h
theorem r_call {sp : Sp} {E : XK} (h : ts σ H fun vs H1 => sp (vs ++ []) H1 Q E) : tCall sp [] E ts σ H Q := h
theorem r_CB {r : List V → Hp → VK → Prop} (h : ts σ H fun vs H1 => r vs H1 Q) : tCB r ts σ H Q := h
theorem r_BM {K : PySem.W.Frag} {T : String} {r : V → List V → Hp → VK → Prop} {to : TE} (h : to σ H fun x H1 => tyV K T x H1 ∧ ts σ H1 fun xs H2 => r x xs H2 Q) : tBM K T r to ts σ H Q := h
theorem r_BM0 {K : PySem.W.Frag} {T : String} {r : V → List V → Hp → VK → Prop} {to : TE} (h : to σ H fun x H1 => tyV K T x H1 ∧ r x [] H1 Q) : tBM0 K T r to σ H Q := h
theorem r_tyL {K : PySem.W.Frag} {a : Addr} {xs : List V} {R : Prop} (h : H a = some (.lst xs)) (q : R) : tyV K "list" (.ref a) H ∧ R := ⟨.inl ⟨rfl, _, SqL.of h⟩, q⟩
theorem r_M1 {r : V → List V → Hp → VK → Prop} {to : TE} (h : to σ H fun x H1 => (∃ a, x = .str a) ∧ te σ H1 fun y H2 => r x [y] H2 Q) : tM1 r to te σ H Q := h
theorem r_isS {z : Str} {R : Prop} (h : R) : (∃ a, V.str z = .str a) ∧ R := ⟨⟨z, rfl⟩, h⟩
theorem r_if (h : tt σ H fun c H1 => if c = true then ta σ H1 Q else tb σ H1 Q) : tIf tt ta tb σ H Q := h
/-- both ways of a conditional expression meet -/
theorem r_ifJ (R : V → Hp → Prop) (h : ∀ Q' : VK, (∀ x H', R x H' → Q' x H') → tIf tt ta tb σ H Q') (k : ∀ x H', R x H' → Q x H') : tIf tt ta tb σ H Q := h Q k
/-- the ways of a statement meet -/
theorem r_seqJ (R : L2.St → Hp → Prop) (h : ∀ nx' : L2.St → Hp → Prop, (∀ σ' H', R σ' H' → nx' σ' H') → t { D with nx := nx' } σ H) (k : ∀ σ' H', R σ' H' → u D σ' H') : tSeq t u D σ H := h (u D) k
def Bl (R : Bool → Hp → Prop) : V → Hp → Prop := fun x H => ∃ k, x = .bl k ∧ R k H
theorem r_bl {R : Bool → Hp → Prop} {b : Bool} (h : R b H) : Bl R (.bl b) H := ⟨b, rfl, h⟩
theorem r_test {R : Bool → Hp → Prop} (h : te σ H (Bl R)) : tTest te σ H R := h
theorem r_B {R : Bool → Hp → Prop} (h : te σ H (Bl R)) : tB te σ H R := h
theorem r_and {R : Bool → Hp → Prop} (h : tt σ H fun c H1 => if c = true then tu σ H1 R else R false H1) : tAnd tt tu σ H R := h
theorem r_or {R : Bool → Hp → Prop} (h : tt σ H fun c H1 => if c = true then R true H1 else tu σ H1 R) : tOr tt tu σ H R := h
theorem r_orP {R : Bool → Hp → Prop} {p q : Bool} (h1 : ∀ R' : Bool → Hp → Prop, R' p H → tt σ H R') (h2 : ∀ R' : Bool → Hp → Prop, R' q H → tu σ H R') (h : R (p || q) H) : tOr tt tu σ H R := by
  refine h1 _ ?_
  cases p with
  | true => exact iteT h
  | false => exact iteF (h2 _ h)
theorem r_andP {R : Bool → Hp → Prop} {p q : Bool} (h1 : ∀ R' : Bool → Hp → Prop, R' p H → tt σ H R') (h2 : ∀ R' : Bool → Hp → Prop, R' q H → tu σ H R') (h : R (p && q) H) : tAnd tt tu σ H R := by
  refine h1 _ ?_
  cases p with
  | true => exact iteT (h2 _ h)
  | false => exact iteF h
theorem r_not {R : Bool → Hp → Prop} (h : tt σ H fun c H1 => R (!c) H1) : tNot tt σ H R := h
theorem r_andV (h : ta σ H (Bl fun c H1 => if c = true then tb σ H1 Q else Q (.bl false) H1)) : tAndV ta tb σ H Q := h
theorem r_orV (h : ta σ H (Bl fun c H1 => if c = true then Q (.bl true) H1 else tb σ H1 Q)) : tOrV ta tb σ H Q := h
theorem r_notV (h : ta σ H (Bl fun c H1 => Q (.bl (!c)) H1)) : tNotV ta σ H Q := h
theorem r_chain {r r' : R2} (h : ta σ H fun x H1 => tb σ H1 fun y H2 => r x y H2 (Bl fun k H3 => if k = true then tc σ H3 fun w' H4 => r' y w' H4 Q else Q (.bl false) H3)) : tChain r r' ta tb tc σ H Q := h
theorem r_eq (s : scal x y = true) (h : Q (.bl (decide (x = y))) H) : rEq x y H Q := ⟨s, h⟩
theorem r_ne (s : scal x y = true) (h : Q (.bl (!decide (x = y))) H) : rNe x y H Q := ⟨s, h⟩
theorem r_eqT (e : x = y) (s : scal x y = true) (h : Q (.bl true) H) : rEq x y H Q := ⟨s, by rw [decide_eq_true e]; exact h⟩
theorem r_eqF (e : x ≠ y) (s : scal x y = true) (h : Q (.bl false) H) : rEq x y H Q := ⟨s, by rw [decide_eq_false e]; exact h⟩
theorem r_neT (e : x ≠ y) (s : scal x y = true) (h : Q (.bl true) H) : rNe x y H Q := ⟨s, by rw [decide_eq_false e]; exact h⟩
theorem r_neF (e : x = y) (s : scal x y = true) (h : Q (.bl false) H) : rNe x y H Q := ⟨s, by rw [decide_eq_true e]; exact h⟩
theorem ifd {p A B : Prop} [Decidable p] (h1 : p → A) (h2 : ¬ p → B) : if decide p = true then A else B :=
  ite2 (fun c => h1 (of_decide_eq_true c)) fun c => h2 fun q => c (decide_eq_true q)
theorem ifn {p A B : Prop} [Decidable p] (h1 : ¬ p → A) (h2 : p → B) : if (!decide p) = true then A else B := by
  by_cases h : p
  · rw [decide_eq_true h]
    exact iteF (h2 h)
  · rw [decide_eq_false h]
    exact iteT (h1 h)
theorem ifT {A B : Prop} (h : A) : if true = true then A else B := iteT h
theorem ifF {A B : Prop} (h : B) : if false = true then A else B := iteF h
theorem ifnT {A B : Prop} (h : B) : if (!true) = true then A else B := iteF h
theorem ifnF {A B : Prop} (h : A) : if (!false) = true then A else B := iteT h
theorem c_pow {i j : Int} (h : i.natAbs < 2 ^ 64) (h1 : 0 ≤ j) (h2 : j ≤ 1000000) : CPow i j := ⟨h1, h2, h⟩
theorem c_div {i j : Int} (h : 0 < j) (h1 : j < 1073741824) : CDiv i j := ⟨h, h1⟩
theorem c_mulL {i j : Int} (h : -(2 ^ 64) < i) (h1 : i < 2 ^ 64) : CMul i j := .inl ⟨h, h1⟩
theorem c_mulR {i j : Int} (h : -(2 ^ 64) < j) (h1 : j < 2 ^ 64) : CMul i j := .inr ⟨h, h1⟩
def rAddS : R2 := fun x y H Q => ∃ i j, x = .str i ∧ y = .str j ∧ i.length + j.length ≤ sizeLine ∧ Q (.str (i ++ j)) H
theorem op_addS {X : Cx} : OpR X (binaryOp .Add) rAddS := op_add_str
theorem r_addS {a b : Str} (h : Q (.str (a ++ b)) H) (l : a.length + b.length ≤ sizeLine) : rAddS (.str a) (.str b) H Q := ⟨a, b, rfl, rfl, l, h⟩
theorem r_ixL {K : PySem.W.Frag} {a : Addr} {xs : List V} {k : Int} (h : SqL K H a xs) (e : atI xs k = some v) (q : Q v H) : rIxL K (.ref a) (.int k) H Q := ⟨a, xs, k, v, rfl, rfl, h, e, q⟩
theorem r_ixT {K : PySem.W.Frag} {a : Addr} {xs : List V} {k : Int} (h : SqT K H a xs) (e : atI xs k = some v) (q : Q v H) : rIxT K (.ref a) (.int k) H Q := ⟨a, xs, k, v, rfl, rfl, h, e, q⟩
theorem r_ixS {z : Str} {k : Int} {c : Nat} (l : z.length ≤ sizeLine) (e : atI z.cps.toList k = some c) (q : Q (.str ⟨#[c]⟩) H) : rIxS (.str z) (.int k) H Q := ⟨z, k, c, rfl, rfl, l, e, q⟩
theorem r_ixD {K : PySem.W.Frag} {w : World} {a : Addr} {z : Str} (h : KDct K w a z v) (q : Q v H) : rIxD K w (.ref a) (.str z) H Q := ⟨a, z, v, rfl, rfl, h, q⟩
theorem r_setL {R : Hp → Prop} {a : Addr} {xs : List V} {k : Int} {m : Nat} (h : H a = some (.lst xs)) (e : ixN xs.length k = some m) (q : R (upd H a (.lst (xs.set m v)))) : rSetL (.ref a) (.int k) v H R := ⟨a, xs, k, m, rfl, rfl, h, e, q⟩
theorem r_append {a : Addr} {xs : List V} (h : H a = some (.lst xs)) (q : Q .non (upd H a (.lst (xs ++ [x])))) (l : xs.length < sizeLine) : rAppend (.ref a) [x] H Q := ⟨a, xs, x, rfl, rfl, h, l, q⟩
theorem r_extend {a b : Addr} {xs zs : List V} (h : H a = some (.lst xs)) (h2 : H b = some (.lst zs)) (q : Q .non (upd H a (.lst (xs ++ zs)))) (l : xs.length + zs.length ≤ sizeLine) : rExtend (.ref a) [.ref b] H Q := ⟨a, b, xs, zs, rfl, rfl, h, h2, l, q⟩
theorem r_cat {a b : Addr} {xs zs : List V} (h : H a = some (.lst xs)) (h2 : H b = some (.lst zs)) (l : xs.length + zs.length ≤ sizeLine) (q : ∀ p, H p = none → Q (.ref p) (upd H p (.lst (xs ++ zs)))) : rCat (.ref a) (.ref b) H Q := ⟨a, b, xs, zs, rfl, rfl, h, h2, l, q⟩
theorem at_nn {α : Type} {xs : List α} {r : Int} {v : α} (h0 : 0 ≤ r) (h : xs[r.toNat]? = some v) : atI xs r = some v := by
  have q := atI_nat h
  rw [Int.toNat_of_nonneg h0] at q
  exact q
theorem r_sl {r : V → Option Int → Option Int → Hp → VK → Prop} {tl th : TO} (h : te σ H fun x H1 => tl σ H1 fun l H2 => th σ H2 fun u H3 => r x l u H3 Q) : tSl r te tl th σ H Q := h
theorem r_noPart {R : Option Int → Hp → Prop} (h : R none H) : tNoPart σ H R := h
def PartI (R : Option Int → Hp → Prop) : V → Hp → Prop := fun x H1 => ∃ i, x = .int i ∧ R (some i) H1
theorem r_part {R : Option Int → Hp → Prop} (h : te σ H (PartI R)) : tPart te σ H R := h
theorem r_partI {R : Option Int → Hp → Prop} {k : Int} (h : R (some k) H) : PartI R (.int k) H := ⟨k, rfl, h⟩
theorem r_slL {K : PySem.W.Frag} {a : Addr} {xs : List V} {lo hi : Option Int} (s : SqL K H a xs) (h : ∀ p, H p = none → Q (.ref p) (upd H p (.lst (cutV xs lo hi)))) : rSlL K (.ref a) lo hi H Q := ⟨a, xs, rfl, s, h⟩
theorem cutV_map {α : Type} (f : α → V) (xs : List α) (lo hi : Option Int) : ∃ ys : List α, cutV (xs.map f) lo hi = ys.map f ∧ ys.length ≤ xs.length ∧ ∀ y ∈ ys, y ∈ xs := by
  unfold cutV
  rw [List.length_map, ← List.map_drop, ← List.map_take]
  refine ⟨_, rfl, ?_, fun y hy => List.mem_of_mem_drop (List.mem_of_mem_take hy)⟩
  rw [List.length_take, List.length_drop]
  omega
theorem r_pnil {R : List (V × V) → Hp → Prop} (h : R [] H) : tPairs [] σ H R := h
theorem r_pcons {R : List (V × V) → Hp → Prop} {tk tv : TE} {r : List (TE × TE)} (h : tk σ H fun x H1 => tv σ H1 fun y H2 => tPairs r σ H2 fun ps H3 => R ((x, y) :: ps) H3) : tPairs ((tk, tv) :: r) σ H R := h
def DG (Q : VK) : V → V → Hp → Prop := fun x y H2 => ∃ a v, x = .ref a ∧ DGet H2 a y (some v) ∧ Q v H2
theorem r_dget {td ty : TE} (h : td σ H fun x H1 => ty σ H1 fun y H2 => DG Q x y H2) : tDGet td ty σ H Q := h
/-- the turns of a walk -/
def Turns (J : It) (g : TG) (tb : TS) (D : Ends) (σ : L2.St) (H1 : Hp) : Prop := ∃ W : Nat → Nat → L2.St → Hp → Prop, (∃ m, W 0 m σ H1) ∧ ∀ i m σ H, W i m σ H →
  (J.stop i H ∧ D.nx σ H) ∨ (J.go i H ∧ ∃ N : L2.St → Hp → Prop, (∀ σ' H', N σ' H' → ∃ m', m' < m ∧ W (i + 1) m' σ' H') ∧ ∀ x H', J.yld i H x H' → g x σ H' fun σ2 H2 => tb { D with nx := N, ct := N, bk := D.nx } σ2 H2)
def ForT (K : PySem.W.Frag) (g : TG) (tb : TS) (D : Ends) (σ : L2.St) : V → Hp → Prop := fun x H1 => ∃ a, x = .ref a ∧ (∃ xs, SqT K H1 a xs) ∧ Turns (Itt K a) g tb D σ H1
def ForL (K : PySem.W.Frag) (g : TG) (tb : TS) (D : Ends) (σ : L2.St) : V → Hp → Prop := fun x H1 => ∃ a, x = .ref a ∧ (∃ xs, SqL K H1 a xs) ∧ Turns (Itl K a) g tb D σ H1
def ForR (g : TG) (tb : TS) (D : Ends) (σ : L2.St) : List V → Hp → Prop := fun vs H1 => ∃ j : Int, vs = [.int j] ∧ -(2 ^ 62) ≤ j ∧ j < 2 ^ 62 ∧ Turns (Itr 0 j.toNat) g tb D σ H1
def ForR2 (g : TG) (tb : TS) (D : Ends) (σ : L2.St) : List V → Hp → Prop := fun vs H1 => ∃ i j : Int, vs = [.int i, .int j] ∧ (-(2 ^ 62) ≤ i ∧ i < 2 ^ 62 ∧ -(2 ^ 62) ≤ j ∧ j < 2 ^ 62) ∧ Turns (Itr i (j - i).toNat) g tb D σ H1
section
variable {K : PySem.W.Frag} {tb : TS}
theorem r_forT (h : te σ H (ForT K g tb D σ)) : tFor (iTup K te) g tb D σ H := h
theorem r_forL (h : te σ H (ForL K g tb D σ)) : tFor (iList K te) g tb D σ H := h
theorem r_forR (h : ts σ H (ForR g tb D σ)) : tFor (iRng1 ts) g tb D σ H := h
theorem r_forR2 (h : ts σ H (ForR2 g tb D σ)) : tFor (iRng2 ts) g tb D σ H := h
theorem r_ForT {a : Addr} {xs : List V} (s : SqT K H a xs) (R : Nat → L2.St → Hp → Prop) (h0 : R 0 σ H) (hl : ∀ i σ H, R i σ H → SqT K H a xs)
    (hs : ∀ (i : Nat) x σ H, xs[i]? = some x → R i σ H → g x σ H fun σ2 H2 => tb { D with nx := R (i + 1), ct := R (i + 1), bk := D.nx } σ2 H2) (hd : ∀ σ H, R xs.length σ H → D.nx σ H) :
    ForT K g tb D σ (.ref a) H := ⟨a, rfl, ⟨xs, s⟩, for_tup R h0 (fun i σ H _ => hl i σ H) hs hd⟩
theorem r_ForL {a : Addr} {xs : List V} (s : SqL K H a xs) (R : Nat → L2.St → Hp → Prop) (h0 : R 0 σ H) (hl : ∀ i σ H, R i σ H → SqL K H a xs)
    (hs : ∀ (i : Nat) x σ H, xs[i]? = some x → R i σ H → g x σ H fun σ2 H2 => tb { D with nx := R (i + 1), ct := R (i + 1), bk := D.nx } σ2 H2) (hd : ∀ σ H, R xs.length σ H → D.nx σ H) :
    ForL K g tb D σ (.ref a) H := ⟨a, rfl, ⟨xs, s⟩, for_list R h0 (fun i σ H _ => hl i σ H) hs hd⟩
theorem r_ForR {n : Int} (R : Nat → L2.St → Hp → Prop) (h1 : -(2 ^ 62) ≤ n) (h2 : n < 2 ^ 62) (h0 : R 0 σ H)
    (hs : ∀ (i : Nat) σ H, i < n.toNat → R i σ H → g (.int (i : Int)) σ H fun σ2 H2 => tb { D with nx := R (i + 1), ct := R (i + 1), bk := D.nx } σ2 H2) (hd : ∀ σ H, R n.toNat σ H → D.nx σ H) :
    ForR g tb D σ [.int n] H := by
  refine ⟨n, rfl, h1, h2, for_range (lo := 0) (n := n.toNat) R h0 (fun i σ H hi p => ?_) hd⟩
  have z := hs i σ H hi p
  rw [← Int.zero_add (i : Int)] at z
  exact z
end
def LcTurns (J : It) (g : TG) (tt : TT) (te : TE) (vs : List Nat) (σ : L2.St) (Q : VK) (H1 : Hp) : Prop := ∀ D, H1 D = none → ∃ W : Nat → Nat → Hp → Prop, (∃ m, W 0 m (upd H1 D (.lst []))) ∧ ∀ i m H, W i m H →
  (J.stop i H ∧ Q (.ref D) H) ∨ (J.go i H ∧ ∃ Nx : Hp → Prop, (∀ H', Nx H' → ∃ m', m' < m ∧ W (i + 1) m' H') ∧ ∀ x H', J.yld i H x H' → g x (wipe σ vs) H' fun σ2 H2 => wipe σ2 vs = wipe σ vs ∧ tt σ2 H2 fun b H3 =>
    if b = true then te σ2 H3 fun y H4 => ∃ acc, H4 D = some (.lst acc) ∧ acc.length < sizeLine ∧ Nx (upd H4 D (.lst (acc ++ [y]))) else Nx H3)
def LcT (K : PySem.W.Frag) (g : TG) (tt : TT) (te : TE) (vs : List Nat) (σ : L2.St) (Q : VK) : V → Hp → Prop := fun x H1 => ∃ a, x = .ref a ∧ (∃ xs, SqT K H1 a xs) ∧ LcTurns (Itt K a) g tt te vs σ Q H1
def LcL (K : PySem.W.Frag) (g : TG) (tt : TT) (te : TE) (vs : List Nat) (σ : L2.St) (Q : VK) : V → Hp → Prop := fun x H1 => ∃ a, x = .ref a ∧ (∃ xs, SqL K H1 a xs) ∧ LcTurns (Itl K a) g tt te vs σ Q H1
def LcR (g : TG) (tt : TT) (te : TE) (vs : List Nat) (σ : L2.St) (Q : VK) : List V → Hp → Prop := fun us H1 => ∃ j : Int, us = [.int j] ∧ -(2 ^ 62) ≤ j ∧ j < 2 ^ 62 ∧ LcTurns (Itr 0 j.toNat) g tt te vs σ Q H1
section
variable {K : PySem.W.Frag} {tt : TT} {vs : List Nat} {ti : TE}
theorem r_lcT (h : ti σ H (LcT K g tt te vs σ Q)) : tLc (iTup K ti) g tt te vs σ H Q := h
theorem r_lcL (h : ti σ H (LcL K g tt te vs σ Q)) : tLc (iList K ti) g tt te vs σ H Q := h
theorem r_lcR (h : ts σ H (LcR g tt te vs σ Q)) : tLc (iRng1 ts) g tt te vs σ H Q := h
/-- the end of a turn of a comprehension: the element y is taken -/
def LcEnd (D : Addr) (N : Hp → Prop) : VK := fun y H4 => ∃ acc, H4 D = some (.lst acc) ∧ acc.length < sizeLine ∧ N (upd H4 D (.lst (acc ++ [y])))
theorem r_LcEnd {D : Addr} {N : Hp → Prop} {acc : List V} (h : H D = some (.lst acc)) (l : acc.length < sizeLine) (q : N (upd H D (.lst (acc ++ [y])))) : LcEnd D N y H := ⟨acc, h, l, q⟩
def LcTurn (tt : TT) (te : TE) (vs : List Nat) (σ : L2.St) (D : Addr) (N : Hp → Prop) : L2.St → Hp → Prop := fun σ2 H2 => wipe σ2 vs = wipe σ vs ∧ tt σ2 H2 fun b H3 => if b = true then te σ2 H3 (LcEnd D N) else N H3
theorem r_LcL {a : Addr} {xs : List V} (s : SqL K H a xs) (h : ∀ p, H p = none → ∃ R : Nat → Hp → Prop, R 0 (upd H p (.lst [])) ∧ (∀ i H, R i H → SqL K H a xs) ∧
    (∀ (i : Nat) x H, xs[i]? = some x → R i H → g x (wipe σ vs) H (LcTurn tt te vs σ p (R (i + 1)))) ∧ ∀ H, R xs.length H → Q (.ref p) H) : LcL K g tt te vs σ Q (.ref a) H := by
  refine ⟨a, rfl, ⟨xs, s⟩, fun p hp => ?_⟩
  obtain ⟨R, h0, hl, hs, hd⟩ := h p hp
  exact lc_list R h0 (fun i H _ => hl i H) hs hd
theorem r_LcT {a : Addr} {xs : List V} (s : SqT K H a xs) (h : ∀ p, H p = none → ∃ R : Nat → Hp → Prop, R 0 (upd H p (.lst [])) ∧ (∀ i H, R i H → SqT K H a xs) ∧
    (∀ (i : Nat) x H, xs[i]? = some x → R i H → g x (wipe σ vs) H (LcTurn tt te vs σ p (R (i + 1)))) ∧ ∀ H, R xs.length H → Q (.ref p) H) : LcT K g tt te vs σ Q (.ref a) H := by
  refine ⟨a, rfl, ⟨xs, s⟩, fun p hp => ?_⟩
  obtain ⟨R, h0, hl, hs, hd⟩ := h p hp
  exact lc_tup R h0 (fun i H _ => hl i H) hs hd
theorem r_LcR {n : Int} (h1 : -(2 ^ 62) ≤ n) (h2 : n < 2 ^ 62) (h : ∀ p, H p = none → ∃ R : Nat → Hp → Prop, R 0 (upd H p (.lst [])) ∧
    (∀ (i : Nat) H, i < n.toNat → R i H → g (.int (i : Int)) (wipe σ vs) H (LcTurn tt te vs σ p (R (i + 1)))) ∧ ∀ H, R n.toNat H → Q (.ref p) H) : LcR g tt te vs σ Q [.int n] H := by
  refine ⟨n, rfl, h1, h2, fun p hp => ?_⟩
  obtain ⟨R, h0, hs, hd⟩ := h p hp
  refine lc_range (lo := 0) (n := n.toNat) R h0 (fun i H hi q => ?_) hd
  have z := hs i H hi q
  rw [← Int.zero_add (i : Int)] at z
  exact z
theorem r_LcTurn {D : Addr} {N : Hp → Prop} {σ2 : L2.St} (e : wipe σ2 vs = wipe σ vs) (h : tt σ2 H fun b H3 => if b = true then te σ2 H3 (LcEnd D N) else N H3) : LcTurn tt te vs σ D N σ2 H := ⟨e, h⟩
theorem r_yes {R : Bool → Hp → Prop} (h : R true H) : tYes σ H R := h
end
theorem r_in {K : PySem.W.Frag} {a : Addr} {xs : List V} (h : SqL K H a xs ∨ SqT K H a xs) (f1 : flatV x = true) (f2 : xs.all flatV = true) (q : Q (.bl (inV x xs)) H) : rIn K false x (.ref a) H Q :=
  ⟨a, xs, rfl, h, f1, f2, by rw [if_neg Bool.false_ne_true]; exact q⟩
theorem r_inT {K : PySem.W.Frag} {a : Addr} {xs : List V} (h : SqL K H a xs ∨ SqT K H a xs) (f1 : flatV x = true) (f2 : xs.all flatV = true) (e : inV x xs = true) (q : Q (.bl true) H) : rIn K false x (.ref a) H Q :=
  ⟨a, xs, rfl, h, f1, f2, by rw [if_neg Bool.false_ne_true, e]; exact q⟩
theorem kpW {a : Addr} {xs : List V} {o : HO} (h : H a = some (.lst xs)) : Kp [a] H (upd H a o) :=
  (Kp.refl (M := [a]) fun b m => ⟨xs, by rw [List.mem_singleton.mp m]; exact h⟩).write (by simp)
end
section
variable {X : Cx} {H : Hp} {Q : VK}
def qAbs : List V → Hp → VK → Prop := fun xs H Q => ∃ i, xs = [.int i] ∧ Q (.int (if i < 0 then -i else i)) H
theorem c_abs : CallR X (.builtin "abs") qAbs := call_abs
theorem r_abs {i : Int} (h : Q (.int (if i < 0 then -i else i)) H) : qAbs [.int i] H Q := ⟨i, rfl, h⟩
def qInt : List V → Hp → VK → Prop := fun xs H Q => (∃ i, xs = [.int i] ∧ Q (.int i) H) ∨ ∃ k, xs = [.bl k] ∧ Q (.int (if k then 1 else 0)) H
theorem c_int : CallR X (.type "int") qInt := call_int1
theorem r_int {i : Int} (h : Q (.int i) H) : qInt [.int i] H Q := .inl ⟨i, rfl, h⟩
theorem r_intB {b : Bool} (h : Q (.int (if b then 1 else 0)) H) : qInt [.bl b] H Q := .inr ⟨b, rfl, h⟩
def qLen (K : PySem.W.Frag) : List V → Hp → VK → Prop := fun xs H Q => ∃ x n, xs = [x] ∧ LenV K x H n ∧ Q (.int n) H
theorem c_len : CallR X (.builtin "len") (qLen X.K) := call_len
theorem r_lenL {K : PySem.W.Frag} {a : Addr} {xs : List V} (h : SqL K H a xs) (q : Q (.int (xs.length : Nat)) H) : qLen K [.ref a] H Q := ⟨_, _, rfl, .inl ⟨_, h, rfl⟩, q⟩
theorem r_lenT {K : PySem.W.Frag} {a : Addr} {xs : List V} (h : SqT K H a xs) (q : Q (.int (xs.length : Nat)) H) : qLen K [.ref a] H Q := ⟨_, _, rfl, .inr ⟨_, h, rfl⟩, q⟩
theorem r_lenS {K : PySem.W.Frag} {z : Str} (q : Q (.int (z.length : Nat)) H) (h : z.length ≤ sizeLine) : qLen K [.str z] H Q := ⟨_, _, rfl, ⟨h, rfl⟩, q⟩
def qStr : List V → Hp → VK → Prop := fun xs H Q => (∃ i, xs = [.int i] ∧ i.natAbs.log2 < 1920 ∧ Q (.str (toString i)) H) ∨ ∃ a, xs = [.str a] ∧ Q (.str a) H
theorem c_str : CallR X (.type "str") qStr := call_str_int.or SkE.call_str_str
theorem r_strI {i : Int} (h : Q (.str (toString i)) H) (l : i.natAbs.log2 < 1920) : qStr [.int i] H Q := .inl ⟨i, rfl, l, h⟩
theorem r_strS {z : Str} (h : Q (.str z) H) : qStr [.str z] H Q := .inr ⟨z, rfl, h⟩
def qTup (K : PySem.W.Frag) : List V → Hp → VK → Prop := fun xs H Q => ∃ p ys, xs = [.ref p] ∧ ((SqL K H p ys ∧ ∀ l, H l = none → Q (.ref l) (upd H l (.tup ys))) ∨ (SqT K H p ys ∧ Q (.ref p) H))
theorem c_tup : CallR X (.type "tuple") (qTup X.K) := call_tuple_of
theorem r_tupL {K : PySem.W.Frag} {a : Addr} {xs : List V} (s : SqL K H a xs) (h : ∀ l, H l = none → Q (.ref l) (upd H l (.tup xs))) : qTup K [.ref a] H Q := ⟨a, xs, rfl, .inl ⟨s, h⟩⟩
end
section
variable {X : Cx} {x : Str} {pos : Pos}
theorem pe_ty {T : String} (hg : Gl X x) (hm : X.mg x = none) (hv : bootBuiltins x = some (.type T)) (hn : x ≠ "__name__" := by decide) (hd : (x == ("__debug__" : Str)) = false := by decide) : PE X (.Name x pos) (tC (.ty T)) := pe_bltn hg hm hv rfl hn hd
theorem pe_gref {a : Addr} (hg : Gl X x) (hm : X.mg x = some (.ref a)) (hd : (x == ("__debug__" : Str)) = false := by decide) : PE X (.Name x pos) (tC (.ref a)) := pe_glob hg hm rfl hd
theorem pe_gint {i : Int} {t : Tok} (hg : Gl X x) (hm : X.mg x = some (.int i t)) (hd : (x == ("__debug__" : Str)) = false := by decide) : PE X (.Name x pos) (tC (.int i)) := pe_glob hg hm ⟨t, rfl⟩ hd
theorem pe_gstr {z : Str} {t : Tok} (hg : Gl X x) (hm : X.mg x = some (.str z t)) (hd : (x == ("__debug__" : Str)) = false := by decide) : PE X (.Name x pos) (tC (.str z)) := pe_glob hg hm ⟨t, rfl⟩ hd
end
def tyD : PyData → String
  | .none => "NoneType"
  | .bool _ => "bool"
  | .int _ => "int"
  | .str _ => "str"
  | .list _ => "list"
  | .tuple _ => "tuple"
  | .dict _ => "dict"
def isaD (d : PyData) (n : String) : Bool := tyD d == n || (tyD d == "bool" && n == "int")
def qIs (K : PySem.W.Frag) : List V → Hp → VK → Prop := fun xs H Q => ∃ (x : V) (d : PyData) (n : String), xs = [x, .ty n] ∧ Dp K H x d ∧
  n ∈ ["int", "bool", "str", "tuple", "list", "dict"] ∧ Q (.bl (isaD d n)) H
theorem tyX_T {K : PySem.W.Frag} {H : Hp} {a : Addr} {xs : List V} (h : SqT K H a xs) : TyX K H (.ref a) (.type "tuple") := by
  rcases h with (h | ⟨o, h⟩) | ⟨o, its, n, h, c, _⟩
  · exact .base (.tup h)
  · exact .fTuple h
  · exact .kTuple h c
section
variable {X : Cx} {H : Hp} {Q : VK}
def types : List String := ["int", "bool", "str", "tuple", "list", "dict"]
theorem kitAll : ∀ t ∈ "NoneType" :: types, ∀ n ∈ types, kitB t n = some (t == n || (t == "bool" && n == "int")) := by decide +kernel
theorem kitD (K : PySem.W.Frag) (d : PyData) (n : String) (h : n ∈ types) : PySem.W.kitOne K (.type (tyD d)) (.type n) = some (isaD d n) := by
  refine kit_ty (kitAll _ ?_ n h)
  cases d <;> simp [tyD, types]
theorem r_isT {K : PySem.W.Frag} {x : V} {d : PyData} {n : String} (h : Dp K H x d) (e : isaD d n = true) (hn : n ∈ types) (q : Q (.bl true) H) : qIs K [x, .ty n] H Q := ⟨x, d, n, rfl, h, hn, by rw [e]; exact q⟩
theorem r_isF {K : PySem.W.Frag} {x : V} {d : PyData} {n : String} (h : Dp K H x d) (e : isaD d n = false) (hn : n ∈ types) (q : Q (.bl false) H) : qIs K [x, .ty n] H Q := ⟨x, d, n, rfl, h, hn, by rw [e]; exact q⟩
end
end Aw
namespace Aw
open PySem PySem.Spec L2
/-- a text of at most n signs -/
structure Sok (x : Str) (n : Nat) : Prop where
  ok : PyData.strOk x = true
  len : x.length ≤ n
theorem Sok.app {x y : Str} {m n : Nat} (a : Sok x m) (b : Sok y n) : Sok (x ++ y) (m + n) := by
  refine ⟨?_, ?_⟩
  · have h1 := a.ok
    have h2 := b.ok
    unfold PyData.strOk at *
    rw [Str.cps_append, Array.all_append, h1, h2]
    rfl
  · rw [Str.length_append]
    have := a.len
    have := b.len
    omega
theorem Sok.mono {x : Str} {m n : Nat} (a : Sok x m) (h : m ≤ n) : Sok x n := ⟨a.ok, Nat.le_trans a.len h⟩
theorem Sok.line {x : Str} {m : Nat} (a : Sok x m) (h : m ≤ 16777216) : x.length ≤ sizeLine := by
  rw [sizeLine_eq]
  exact Nat.le_trans a.len h
theorem Sok.lit {x : Str} {n : Nat} (h : (PyData.strOk x && decide (x.length ≤ n)) = true) : Sok x n := by
  rw [Bool.and_eq_true, decide_eq_true_eq] at h
  exact ⟨h.1, h.2⟩
theorem Sok.repr {x : Str} {n : Nat} (a : Sok x n) : (reprText x).length ≤ 10 * n + 2 := by
  have h := PySem.StrLaws.reprText_len x (fun c hc => by
    have q := a.ok
    unfold PyData.strOk at q
    rw [Array.all_eq_true_iff_forall_mem] at q
    have := of_decide_eq_true (q c (Array.mem_def.mpr hc))
    omega)
  have := a.len
  omega
/-- small ints as texts -/
theorem Sok.num : ∀ i : Int, -99 ≤ i → i ≤ 99 → Sok (Str.ofString (toString i)) 3 := by
  have h : ∀ n : Fin 199, (PyData.strOk (Str.ofString (toString ((n.val : Int) - 99))) && decide ((Str.ofString (toString ((n.val : Int) - 99))).length ≤ 3)) = true := by
    decide +kernel
  intro i h1 h2
  have q := h ⟨(i + 99).toNat, by omega⟩
  have e : (((i + 99).toNat : Nat) : Int) - 99 = i := by omega
  simp only [e] at q
  exact Sok.lit q
theorem log2_small {i : Int} (h1 : -(2 ^ 64) < i) (h2 : i < 2 ^ 64) : i.natAbs.log2 < 1920 := by
  by_cases h : i.natAbs = 0
  · rw [h]
    decide
  · exact Nat.lt_of_lt_of_le ((Nat.log2_lt h).mpr (show i.natAbs < 2 ^ 64 by omega)) (by decide)
structure Shw (d : PyData) (k n : Nat) : Prop where
  sh : d.showable = true
  nd : d.hasDict = false
  dep : d.depth ≤ k
  len : d.shown.length ≤ n
theorem Shw.mono {d : PyData} {k n k' n' : Nat} (h : Shw d k n) (hk : k ≤ k') (hn : n ≤ n') : Shw d k' n' := ⟨h.sh, h.nd, Nat.le_trans h.dep hk, Nat.le_trans h.len hn⟩
theorem Shw.str {x : Str} {m k : Nat} (h : Sok x m) : Shw (.str x) k (10 * m + 2) :=
  ⟨by rw [PyData.showable], by rw [PyData.hasDict], by rw [PyData.depth]; exact Nat.zero_le _, by rw [PyData.shown]; exact h.repr⟩
theorem Shw.non {k : Nat} : Shw .none k 4 :=
  ⟨by rw [PyData.showable], by rw [PyData.hasDict], by rw [PyData.depth]; exact Nat.zero_le _, by rw [PyData.shown]; decide +kernel⟩
theorem Shw.bool {b : Bool} {k : Nat} : Shw (.bool b) k 5 :=
  ⟨by rw [PyData.showable], by rw [PyData.hasDict], by rw [PyData.depth]; exact Nat.zero_le _, by rw [PyData.shown]; cases b <;> decide +kernel⟩
theorem shownAll_len {ds : List PyData} {k n : Nat} (h : ∀ d ∈ ds, Shw d k n) : PyData.showableAll ds = true ∧ PyData.hasDictAll ds = false ∧ PyData.depthAll ds ≤ k ∧ (PyData.shownAll ds).length = ds.length ∧
    ((PyData.shownAll ds).map (·.length)).sum ≤ ds.length * n := by
  induction ds with
  | nil => exact ⟨by rw [PyData.showableAll], by rw [PyData.hasDictAll], by rw [PyData.depthAll]; exact Nat.zero_le _, by rw [PyData.shownAll]; rfl, by rw [PyData.shownAll]; exact Nat.zero_le _⟩
  | cons d r ih =>
    obtain ⟨a1, a2, a3, a4, a5⟩ := ih fun d hd => h d (List.mem_cons_of_mem _ hd)
    have q := h d (List.mem_cons_self ..)
    refine ⟨by rw [PyData.showableAll, q.sh, a1]; rfl, by rw [PyData.hasDictAll, q.nd, a2]; rfl, by rw [PyData.depthAll]; exact Nat.max_le.mpr ⟨q.dep, a3⟩, by rw [PyData.shownAll, List.length_cons, List.length_cons, a4], ?_⟩
    have := q.len
    rw [PyData.shownAll, List.map_cons, List.sum_cons, List.length_cons, Nat.add_mul, Nat.one_mul]
    omega
theorem Shw.list {ds : List PyData} {k n : Nat} (h : ∀ d ∈ ds, Shw d k n) : Shw (.list ds) (k + 1) (ds.length * (n + 2) + 3) := by
  obtain ⟨a1, a2, a3, a4, a5⟩ := shownAll_len h
  refine ⟨by rw [PyData.showable]; exact a1, by rw [PyData.hasDict]; exact a2, by rw [PyData.depth]; omega, ?_⟩
  rw [PyData.shown]
  have q := listText_len_le (PyData.shownAll ds)
  rw [a4] at q
  rw [Nat.mul_add]
  omega
theorem Shw.tup {ds : List PyData} {k n : Nat} (h : ∀ d ∈ ds, Shw d k n) : Shw (.tuple ds) (k + 1) (ds.length * (n + 2) + 3) := by
  obtain ⟨a1, a2, a3, a4, a5⟩ := shownAll_len h
  refine ⟨by rw [PyData.showable]; exact a1, by rw [PyData.hasDict]; exact a2, by rw [PyData.depth]; omega, ?_⟩
  rw [PyData.shown]
  have q := tupleText_len_le (PyData.shownAll ds)
  rw [a4] at q
  rw [Nat.mul_add]
  omega
structure DtL (K : PySem.W.Frag) (H : Hp) (vs : List V) (ds : List PyData) : Prop where
  len : vs.length = ds.length
  all : ∀ (i : Nat) (v : V) (d : PyData), vs[i]? = some v → ds[i]? = some d → Dt K H v d
theorem DtL.nil {K : PySem.W.Frag} {H : Hp} : DtL K H [] [] := ⟨rfl, fun i v d e => by simp at e⟩
theorem DtL.kp {K : PySem.W.Frag} {M : List Addr} {H H1 : Hp} {vs : List V} {ds : List PyData} (h : DtL K H vs ds) (a : Kp M H H1) : DtL K H1 vs ds := ⟨h.len, fun i v d e e' => (h.all i v d e e').kp a⟩
theorem DtL.snoc {K : PySem.W.Frag} {H : Hp} {vs : List V} {ds : List PyData} {v : V} {d : PyData} (h : DtL K H vs ds) (hv : Dt K H v d) : DtL K H (vs ++ [v]) (ds ++ [d]) := by
  refine ⟨by rw [List.length_append, List.length_append, h.len]; rfl, fun i u e q q' => ?_⟩
  by_cases hi : i < vs.length
  · rw [List.getElem?_append_left hi] at q
    rw [List.getElem?_append_left (by rw [← h.len]; exact hi)] at q'
    exact h.all i u e q q'
  · rw [List.getElem?_append_right (by omega)] at q
    rw [List.getElem?_append_right (by rw [← h.len]; omega), ← h.len] at q'
    have hlt := (List.getElem?_eq_some_iff.mp q).1
    rw [List.length_singleton] at hlt
    obtain h0 : i - vs.length = 0 := by omega
    rw [h0] at q q'
    cases q
    cases q'
    exact hv
theorem DtL.cons {K : PySem.W.Frag} {H : Hp} {vs : List V} {ds : List PyData} {v : V} {d : PyData} (hv : Dt K H v d) (h : DtL K H vs ds) : DtL K H (v :: vs) (d :: ds) := by
  refine ⟨by rw [List.length_cons, List.length_cons, h.len], fun i u e q q' => ?_⟩
  cases i with
  | zero =>
    cases q
    cases q'
    exact hv
  | succ i => exact h.all i u e (by simpa using q) (by simpa using q')
theorem DtL.tup {K : PySem.W.Frag} {H : Hp} {vs : List V} {ds : List PyData} {a : Addr} (h : DtL K H vs ds) (e : H a = some (.tup vs)) : Dt K H (.ref a) (.tuple ds) := .tup (SqT.of e) h.len h.all
section
variable {K : PySem.W.Frag} {H : Hp} {v : V}
theorem Dt.isInt {i : Int} (h : Dt K H v (.int i)) : v = .int i := by cases h; rfl
theorem Dt.isStr {x : Str} (h : Dt K H v (.str x)) : v = .str x := by cases h; rfl
theorem Dt.isNone (h : Dt K H v .none) : v = .non := by cases h; rfl
theorem Dt.isTup {ds : List PyData} (h : Dt K H v (.tuple ds)) : ∃ (a : Addr) (xs : List V), v = .ref a ∧ SqT K H a xs ∧ xs.length = ds.length ∧
    ∀ (i : Nat) (v : V) (d : PyData), xs[i]? = some v → ds[i]? = some d → Dt K H v d := by
  cases h with
  | tup s l q => exact ⟨_, _, rfl, s, l, q⟩
theorem Dt.is1 {d : PyData} (h : Dt K H v (.tuple [d])) : ∃ (a : Addr) (x : V), v = .ref a ∧ SqT K H a [x] ∧ Dt K H x d := by
  obtain ⟨a, xs, rfl, s, l, q⟩ := h.isTup
  match xs, l, s, q with
  | [x], _, s, q => exact ⟨a, x, rfl, s, q 0 x d rfl rfl⟩
theorem Dt.is2 {d e : PyData} (h : Dt K H v (.tuple [d, e])) : ∃ (a : Addr) (x y : V), v = .ref a ∧ SqT K H a [x, y] ∧ Dt K H x d ∧ Dt K H y e := by
  obtain ⟨a, xs, rfl, s, l, q⟩ := h.isTup
  match xs, l, s, q with
  | [x, y], _, s, q => exact ⟨a, x, y, rfl, s, q 0 x d rfl rfl, q 1 y e rfl rfl⟩
theorem Dt.is3 {d e f : PyData} (h : Dt K H v (.tuple [d, e, f])) : ∃ (a : Addr) (x y z : V), v = .ref a ∧ SqT K H a [x, y, z] ∧ Dt K H x d ∧ Dt K H y e ∧ Dt K H z f := by
  obtain ⟨a, xs, rfl, s, l, q⟩ := h.isTup
  match xs, l, s, q with
  | [x, y, z], _, s, q => exact ⟨a, x, y, z, rfl, s, q 0 x d rfl rfl, q 1 y e rfl rfl, q 2 z f rfl rfl⟩
theorem Dt.is4 {d e f g : PyData} (h : Dt K H v (.tuple [d, e, f, g])) : ∃ (a : Addr) (x y z u : V), v = .ref a ∧ SqT K H a [x, y, z, u] ∧ Dt K H x d ∧ Dt K H y e ∧ Dt K H z f ∧ Dt K H u g := by
  obtain ⟨a, xs, rfl, s, l, q⟩ := h.isTup
  match xs, l, s, q with
  | [x, y, z, u], _, s, q => exact ⟨a, x, y, z, u, rfl, s, q 0 x d rfl rfl, q 1 y e rfl rfl, q 2 z f rfl rfl, q 3 u g rfl rfl⟩
theorem Dt.mk2 {a : Addr} {x y : V} {d e : PyData} (h : H a = some (.tup [x, y])) (h0 : Dt K H x d) (h1 : Dt K H y e) : Dt K H (.ref a) (.tuple [d, e]) :=
  .tup (SqT.of h) rfl fun i v d' e e' => by
    match i, e, e' with
    | 0, e, e' => cases e; cases e'; exact h0
    | 1, e, e' => cases e; cases e'; exact h1
end
end Aw
namespace Aw
open PySem PySem.Spec L2
def rNil (K : PySem.W.Frag) (neg : Bool) : R2 := fun x y H Q => ∃ (a b : Addr) (xs : List V), x = .ref a ∧ y = .ref b ∧
  ((SqL K H a xs ∧ SqL K H b []) ∨ (SqT K H a xs ∧ SqT K H b [])) ∧ Q (.bl (xs.isEmpty != neg)) H
section
variable {X : Cx} {H : Hp} {Q : VK}
theorem vals_nil {us : List Value} (r : Vals [] us) : us = [] := by cases r; rfl
theorem op_eqNil (hu : X.A.units + 64 < cLine) : OpR X (compareOp .Eq) (rNil X.K false) := by
  intro pins s σ H x y v u Q I rx ry h
  obtain ⟨a, b, xs, rfl, rfl, h, q⟩ := h
  cases (show v = Value.ref a from rx)
  cases (show u = Value.ref b from ry)
  have hu' : X.A.units < cLine := by omega
  rcases h with ⟨ha, hb⟩ | ⟨ha, hb⟩
  · obtain ⟨its, r, ⟨o, n, e, c, _, d⟩, _⟩ := I.list ha
    obtain ⟨its2, r2, ⟨o2, n2, e2, c2, _, d2⟩, _⟩ := I.list hb
    obtain rfl := vals_nil r2
    have hl : s.heap.IsList a its.toArray := ⟨o, e, c, n, d⟩
    have hl2 : s.heap.IsList b #[] := ⟨o2, e2, c2, n2, d2⟩
    cases xs with
    | nil =>
      obtain rfl := vals_nil r
      exact PySem.SeqAt.eq_listAt (e := fun _ => true) hl hl2 rfl hu' (fun j h1 => absurd h1 (by simp)) ⟨.bl true, H, I, rfl, q⟩
    | cons x xs =>
      cases r with
      | cons r0 r1 => exact PySem.SeqAt.eq_list_lengthsAt hl hl2 (by simp) hu' ⟨.bl false, H, I, rfl, q⟩
  · obtain ⟨its, r, ⟨o, e, c, n, d⟩, _⟩ := I.tuple ha
    obtain ⟨its2, r2, ⟨o2, e2, c2, n2, d2⟩, _⟩ := I.tuple hb
    obtain rfl := vals_nil r2
    have hl : s.heap.IsTuple a its.toArray := ⟨o, e, c, n, d⟩
    have hl2 : s.heap.IsTuple b #[] := ⟨o2, e2, c2, n2, d2⟩
    refine PySem.SeqAt.eq_tupleAt (e := fun _ => true) hl hl2 hu' (fun j h1 h2 => absurd h2 (by simp)) ?_
    cases xs with
    | nil =>
      obtain rfl := vals_nil r
      exact ⟨.bl true, H, I, rfl, q⟩
    | cons x xs =>
      cases r with
      | cons r0 r1 => exact ⟨.bl false, H, I, rfl, q⟩
theorem op_neNil (hu : X.A.units + 64 < cLine) : OpR X (compareOp .NotEq) (rNil X.K true) := by
  intro pins s σ H x y v u Q I rx ry h
  obtain ⟨a, b, xs, rfl, rfl, h, q⟩ := h
  cases (show v = Value.ref a from rx)
  cases (show u = Value.ref b from ry)
  have hu' : X.A.units < cLine := by omega
  rcases h with ⟨ha, hb⟩ | ⟨ha, hb⟩
  · obtain ⟨its, r, ⟨o, n, e, c, _, d⟩, _⟩ := I.list ha
    obtain ⟨its2, r2, ⟨o2, n2, e2, c2, _, d2⟩, _⟩ := I.list hb
    obtain rfl := vals_nil r2
    have hl : s.heap.IsList a its.toArray := ⟨o, e, c, n, d⟩
    have hl2 : s.heap.IsList b #[] := ⟨o2, e2, c2, n2, d2⟩
    cases xs with
    | nil =>
      obtain rfl := vals_nil r
      exact PySem.SeqAt.RcNeAt.lists (e := fun _ => true) hl hl2 rfl hu' (fun j h1 => absurd h1 (by simp)) _ _ _ _ ⟨.bl false, H, I, rfl, q⟩
    | cons x xs =>
      cases r with
      | cons r0 r1 => exact PySem.SeqAt.RcNeAt.lists_lengths hl hl2 (by simp) hu' _ _ _ _ ⟨.bl true, H, I, rfl, q⟩
  · obtain ⟨its, r, ⟨o, e, c, n, d⟩, _⟩ := I.tuple ha
    obtain ⟨its2, r2, ⟨o2, e2, c2, n2, d2⟩, _⟩ := I.tuple hb
    obtain rfl := vals_nil r2
    have hl : s.heap.IsTuple a its.toArray := ⟨o, e, c, n, d⟩
    have hl2 : s.heap.IsTuple b #[] := ⟨o2, e2, c2, n2, d2⟩
    refine PySem.SeqAt.RcNeAt.tuples (e := fun _ => true) hl hl2 hu' (fun j h1 h2 => absurd h2 (by simp)) _ _ _ _ ?_
    cases xs with
    | nil =>
      obtain rfl := vals_nil r
      exact ⟨.bl false, H, I, rfl, q⟩
    | cons x xs =>
      cases r with
      | cons r0 r1 => exact ⟨.bl true, H, I, rfl, q⟩
theorem r_eqNL {K : PySem.W.Frag} {a b : Addr} {xs : List V} (h1 : SqL K H a xs) (h2 : SqL K H b []) (q : Q (.bl xs.isEmpty) H) : rNil K false (.ref a) (.ref b) H Q := ⟨a, b, xs, rfl, rfl, .inl ⟨h1, h2⟩, by simpa using q⟩
theorem r_eqNT {K : PySem.W.Frag} {a b : Addr} {xs : List V} (h1 : SqT K H a xs) (h2 : SqT K H b []) (q : Q (.bl xs.isEmpty) H) : rNil K false (.ref a) (.ref b) H Q := ⟨a, b, xs, rfl, rfl, .inr ⟨h1, h2⟩, by simpa using q⟩
theorem r_neNL {K : PySem.W.Frag} {a b : Addr} {xs : List V} (h1 : SqL K H a xs) (h2 : SqL K H b []) (q : Q (.bl (!xs.isEmpty)) H) : rNil K true (.ref a) (.ref b) H Q := ⟨a, b, xs, rfl, rfl, .inl ⟨h1, h2⟩, by simpa using q⟩
theorem r_neNT {K : PySem.W.Frag} {a b : Addr} {xs : List V} (h1 : SqT K H a xs) (h2 : SqT K H b []) (q : Q (.bl (!xs.isEmpty)) H) : rNil K true (.ref a) (.ref b) H Q := ⟨a, b, xs, rfl, rfl, .inr ⟨h1, h2⟩, by simpa using q⟩
end
def keyD : Key → PyData
  | .inl i => .int i
  | .inr x => .str x
/-- data, the lists and dicts of which are none of M -/
inductive Dw (M : List Addr) (K : PySem.W.Frag) (H : Hp) : V → PyData → Prop
  | non : Dw M K H .non .none
  | bl (b : Bool) : Dw M K H (.bl b) (.bool b)
  | int (i : Int) : Dw M K H (.int i) (.int i)
  | str (x : Str) : Dw M K H (.str x) (.str x)
  | tup {a : Addr} {xs : List V} {ds : List PyData} : SqT K H a xs → xs.length = ds.length →
      (∀ (i : Nat) (v : V) (d : PyData), xs[i]? = some v → ds[i]? = some d → Dw M K H v d) → Dw M K H (.ref a) (.tuple ds)
  | lst {a : Addr} {xs : List V} {ds : List PyData} : H a = some (.lst xs) → a ∉ M → xs.length = ds.length →
      (∀ (i : Nat) (v : V) (d : PyData), xs[i]? = some v → ds[i]? = some d → Dw M K H v d) → Dw M K H (.ref a) (.list ds)
  | dct {a : Addr} {kvs : List (Key × V)} {ps : List (PyData × PyData)} : H a = some (.dK kvs) → a ∉ M → kvs.length = ps.length →
      (∀ (i : Nat) (kv : Key × V) (p : PyData × PyData), kvs[i]? = some kv → ps[i]? = some p → p.1 = keyD kv.1) →
      (∀ (i : Nat) (kv : Key × V) (p : PyData × PyData), kvs[i]? = some kv → ps[i]? = some p → Dw M K H kv.2 p.2) → Dw M K H (.ref a) (.dict ps)
section
variable {K : PySem.W.Frag} {M : List Addr} {H H1 : Hp} {v : V} {d : PyData}
theorem Dw.kp (a : Kp M H H1) (h : Dw M K H v d) : Dw M K H1 v d := by
  induction h with
  | non => exact .non
  | bl b => exact .bl b
  | int i => exact .int i
  | str x => exact .str x
  | tup s l _ ih => exact .tup (sqT_kp a s) l ih
  | lst e n l _ ih => exact .lst (a.get e n) n l ih
  | dct e n l q _ ih => exact .dct (a.get e n) n l q ih
theorem Dw.kp0 (a : Kp [] H H1) (h : Dw M K H v d) : Dw M K H1 v d := by
  induction h with
  | non => exact .non
  | bl b => exact .bl b
  | int i => exact .int i
  | str x => exact .str x
  | tup s l _ ih => exact .tup (sqT_kp a s) l ih
  | lst e n l _ ih => exact .lst (a.get e (by simp)) n l ih
  | dct e n l q _ ih => exact .dct (a.get e (by simp)) n l q ih
theorem Dw.sub {M' : List Addr} (s : ∀ a ∈ M', a ∈ M) (h : Dw M K H v d) : Dw M' K H v d := by
  induction h with
  | non => exact .non
  | bl b => exact .bl b
  | int i => exact .int i
  | str x => exact .str x
  | tup s l _ ih => exact .tup s l ih
  | lst e n l _ ih => exact .lst e (fun m => n (s _ m)) l ih
  | dct e n l q _ ih => exact .dct e (fun m => n (s _ m)) l q ih
theorem Dw.nil (h : Dw M K H v d) : Dw [] K H v d := h.sub (by simp)
theorem Dt.dw (h : Dt K H v d) : Dw M K H v d := by
  induction h with
  | non => exact .non
  | bl b => exact .bl b
  | int i => exact .int i
  | str x => exact .str x
  | tup s l _ ih => exact .tup s l ih
theorem Dw.isTup {ds : List PyData} (h : Dw M K H v (.tuple ds)) : ∃ (a : Addr) (xs : List V), v = .ref a ∧ SqT K H a xs ∧ xs.length = ds.length ∧
    ∀ (i : Nat) (v : V) (d : PyData), xs[i]? = some v → ds[i]? = some d → Dw M K H v d := by
  cases h with
  | tup s l q => exact ⟨_, _, rfl, s, l, q⟩
theorem Dw.isStr {x : Str} (h : Dw M K H v (.str x)) : v = .str x := by cases h; rfl
theorem Dw.isInt {i : Int} (h : Dw M K H v (.int i)) : v = .int i := by cases h; rfl
theorem Dw.ty (h : Dw M K H v d) : TyX K H v (.type (tyD d)) := by
  cases h with
  | non => exact .base .non
  | bl b => exact .base (.bl b)
  | int i => exact .base (.int i)
  | str z => exact .base (.str z)
  | tup s _ _ => exact tyX_T s
  | lst e _ _ _ => exact .base (.lst e)
  | dct e _ _ _ _ => exact .base (.dK e)
end
def qIs2 (K : PySem.W.Frag) : List V → Hp → VK → Prop := fun xs H Q => ∃ (x : V) (d : PyData) (n : String), xs = [x, .ty n] ∧ TyX K H x (.type (tyD d)) ∧
  n ∈ types ∧ Q (.bl (isaD d n)) H
theorem c_is2 {X : Cx} : CallR X (.builtin "isinstance") (qIs2 X.K) := by
  intro pins s σ H xs us Q I r h
  obtain ⟨x, d, n, rfl, hd, hn, q⟩ := h
  exact call_isi pins s σ H _ us Q I r ⟨x, _, _, _, _, rfl, .ty n, hd, kitD X.K d n hn, q⟩
section
variable {K : PySem.W.Frag} {M : List Addr} {H : Hp} {Q : VK} {x : V} {d : PyData} {n : String}
theorem r_is2 (h : Dw M K H x d) (hn : n ∈ types) (q : Q (.bl (isaD d n)) H) : qIs2 K [x, .ty n] H Q := ⟨x, d, n, rfl, h.ty, hn, q⟩
theorem r_is2T (h : Dw M K H x d) (e : isaD d n = true) (hn : n ∈ types) (q : Q (.bl true) H) : qIs2 K [x, .ty n] H Q := ⟨x, d, n, rfl, h.ty, hn, by rw [e]; exact q⟩
theorem r_is2F (h : Dw M K H x d) (e : isaD d n = false) (hn : n ∈ types) (q : Q (.bl false) H) : qIs2 K [x, .ty n] H Q := ⟨x, d, n, rfl, h.ty, hn, by rw [e]; exact q⟩
end
theorem sign_in (x : Str) (c : Nat) : (!(Builtin.Str.occurrences x ⟨#[c]⟩ 0 x.length 1).isEmpty) = decide (c ∈ x.cps.toList) := StrLaws.found_one x c
def rInC : R2 := fun x y H Q => ∃ (c : Nat) (z : Str), x = .str ⟨#[c]⟩ ∧ y = .str z ∧ Q (.bl (decide (c ∈ z.cps.toList))) H
def rNotInC : R2 := fun x y H Q => ∃ (c : Nat) (z : Str), x = .str ⟨#[c]⟩ ∧ y = .str z ∧ Q (.bl (!decide (c ∈ z.cps.toList))) H
section
variable {X : Cx} {H : Hp} {Q : VK} {σ : L2.St}
theorem op_notinC : OpR X (compareOp .NotIn) rNotInC := by
  intro pins s σ H x y v u Q I rx ry h
  obtain ⟨c, z, rfl, rfl, q⟩ := h
  exact op_notin_str pins s σ H _ _ v u Q I rx ry ⟨_, _, rfl, rfl, by rw [sign_in]; exact q⟩
theorem r_inC {c : Nat} {z : Str} (q : Q (.bl (decide (c ∈ z.cps.toList))) H) : rInC (.str ⟨#[c]⟩) (.str z) H Q := ⟨c, z, rfl, rfl, q⟩
theorem r_notinC {c : Nat} {z : Str} (q : Q (.bl (!decide (c ∈ z.cps.toList))) H) : rNotInC (.str ⟨#[c]⟩) (.str z) H Q := ⟨c, z, rfl, rfl, q⟩
def RevL (K : PySem.W.Frag) (Q : VK) : V → Hp → Prop := fun x H1 => ∃ a xs, x = .ref a ∧ SqL K H1 a xs ∧ ∀ p, H1 p = none → Q (.ref p) (upd H1 p (.lst xs.reverse))
theorem r_revL {K : PySem.W.Frag} {te : TE} (h : te σ H (RevL K Q)) : tRevL K te σ H Q := h
theorem r_RevL {K : PySem.W.Frag} {a : Addr} {xs : List V} (s : SqL K H a xs) (h : ∀ p, H p = none → Q (.ref p) (upd H p (.lst xs.reverse))) : RevL K Q (.ref a) H := ⟨a, xs, rfl, s, h⟩
theorem r_pop {a : Addr} {xs : List V} {y : V} (h : H a = some (.lst (xs ++ [y]))) (q : Q y (upd H a (.lst xs))) : rPop (.ref a) [] H Q :=
  ⟨a, _, y, rfl, rfl, h, by simp, by rw [List.dropLast_concat]; exact q⟩
def LcS (g : TG) (tt : TT) (te : TE) (vs : List Nat) (σ : L2.St) (Q : VK) : V → Hp → Prop := fun v H1 => ∃ x, v = .str x ∧ LcTurns (Its x) g tt te vs σ Q H1
section
variable {g : TG} {tt : TT} {te ti : TE} {vs : List Nat}
theorem r_lcS (h : ti σ H (LcS g tt te vs σ Q)) : tLc (iStr ti) g tt te vs σ H Q := h
theorem r_LcS {x : Str} (h : ∀ p, H p = none → ∃ R : Nat → Hp → Prop, R 0 (upd H p (.lst [])) ∧
    (∀ (i : Nat) (c : Nat) H, x.cps.toList[i]? = some c → R i H → g (.str ⟨#[c]⟩) (wipe σ vs) H (LcTurn tt te vs σ p (R (i + 1)))) ∧ ∀ H, R x.cps.toList.length H → Q (.ref p) H) : LcS g tt te vs σ Q (.str x) H := by
  refine ⟨x, rfl, fun p hp => ?_⟩
  obtain ⟨R, h0, hs, hd⟩ := h p hp
  refine ⟨fun i m H' => i + m = x.cps.size ∧ R i H', ⟨x.cps.size, by omega, h0⟩, fun i m H' ⟨e, r⟩ => ?_⟩
  by_cases hi : i < x.cps.size
  · refine .inr ⟨hi, R (i + 1), fun H2 r2 => ⟨m - 1, by omega, by omega, r2⟩, fun v H2 hy => ?_⟩
    obtain ⟨rfl, c, hc, rfl⟩ := hy
    exact hs i c _ (by rw [Array.getElem?_toList]; exact hc) r
  · refine .inl ⟨by show x.cps.size ≤ i; omega, hd H' ?_⟩
    have e : i = x.cps.toList.length := by rw [Array.length_toList]; omega
    rw [← e]
    exact r
/-- the signs of a text that are not f -/
theorem r_LcSf {x : Str} {f : Nat → Bool} {i : Nat} (hz : x.length ≤ 16777216) (ht : ∀ (c : Nat) (H' : Hp) (R : Bool → Hp → Prop), R (f c) H' → tt ((wipe σ vs).set i (some (.str ⟨#[c]⟩))) H' R)
    (he : ∀ (c : Nat) (H' : Hp) (R : VK), R (.str ⟨#[c]⟩) H' → te ((wipe σ vs).set i (some (.str ⟨#[c]⟩))) H' R) (hw : ∀ v : V, wipe ((wipe σ vs).set i (some v)) vs = wipe σ vs)
    (h : ∀ p, H p = none → Q (.ref p) (upd H p (.lst ((x.cps.toList.filter f).map fun c => V.str ⟨#[c]⟩)))) : LcS (gName i) tt te vs σ Q (.str x) H := by
  refine r_LcS fun p hp => ⟨fun n H' => H' = upd H p (.lst (((x.cps.toList.take n).filter f).map fun c => V.str ⟨#[c]⟩)), rfl, ?_, ?_⟩
  · rintro n c H' hc rfl
    refine r_name (r_LcTurn (hw _) (ht c _ _ ?_))
    have htk : x.cps.toList.take (n + 1) = x.cps.toList.take n ++ [c] := by rw [List.take_add_one, hc]; rfl
    cases hf : f c with
    | true =>
      refine ifT (he c _ _ (r_LcEnd upd_same ?_ ?_))
      · rw [List.length_map, sizeLine_eq]
        have a := List.length_filter_le f (x.cps.toList.take n)
        rw [List.length_take] at a
        have b := (List.getElem?_eq_some_iff.mp hc).1
        have e : x.cps.toList.length = x.length := by rw [Array.length_toList]; rfl
        omega
      · show _ = upd H p (.lst (((x.cps.toList.take (n + 1)).filter f).map fun c => V.str ⟨#[c]⟩))
        rw [htk, List.filter_append, List.filter_cons_of_pos (by exact hf), List.filter_nil, List.map_append]
        funext b
        by_cases hb : b = p
        · rw [hb, upd_same, upd_same]
          rfl
        · rw [upd_ne hb, upd_ne hb, upd_ne hb]
    | false =>
      refine ifF ?_
      show _ = upd H p (.lst (((x.cps.toList.take (n + 1)).filter f).map fun c => V.str ⟨#[c]⟩))
      rw [htk, List.filter_append, List.filter_cons_of_neg (by rw [hf]; exact Bool.false_ne_true), List.filter_nil, List.append_nil]
  · rintro H' rfl
    rw [List.take_length]
    exact h p hp
end
theorem r_while {c : TT} {tb : TS} {D : Ends} (Pv : Nat → L2.St → Hp → Prop) (m : Nat) (h0 : Pv m σ H)
    (hs : ∀ m σ H, Pv m σ H → c σ H fun b H1 => if b = true then ∃ N : L2.St → Hp → Prop, (∀ σ' H', N σ' H' → ∃ m', m' < m ∧ Pv m' σ' H') ∧ tb { D with nx := N, ct := N, bk := D.nx } σ H1 else D.nx σ H1) : tWhile c tb D σ H :=
  ⟨Pv, ⟨m, h0⟩, hs⟩
theorem r_turn {tb : TS} {D : Ends} {Pv : Nat → L2.St → Hp → Prop} {m : Nat} (h : tb { D with nx := fun σ' H' => ∃ m', m' < m ∧ Pv m' σ' H', ct := fun σ' H' => ∃ m', m' < m ∧ Pv m' σ' H', bk := D.nx } σ H) :
    ∃ N : L2.St → Hp → Prop, (∀ σ' H', N σ' H' → ∃ m', m' < m ∧ Pv m' σ' H') ∧ tb { D with nx := N, ct := N, bk := D.nx } σ H := ⟨_, fun _ _ z => z, h⟩
def DG2 (a : Addr) (Q : VK) : V → V → Hp → Prop := fun y z H3 => ∃ o, DGet H3 a y o ∧ Q (o.getD z) H3
def DG2a (ty tx : TE) (σ : L2.St) (Q : VK) : V → Hp → Prop := fun x H1 => ∃ a, x = .ref a ∧ IsD H1 a ∧ ty σ H1 fun y H2 => tx σ H2 fun z H3 => DG2 a Q y z H3
theorem r_dget2 {td ty tx : TE} (h : td σ H (DG2a ty tx σ Q)) : tDGet2 td ty tx σ H Q := h
theorem r_DG2a {ty tx : TE} {a : Addr} {kvs : List (Key × V)} (e : H a = some (.dK kvs)) (h : ty σ H fun y H2 => tx σ H2 fun z H3 => DG2 a Q y z H3) : DG2a ty tx σ Q (.ref a) H := ⟨a, rfl, .inl ⟨kvs, .inl e⟩, h⟩
theorem r_DG2 {a : Addr} {kvs : List (Key × V)} {z : V} {x : Str} (e : H a = some (.dK kvs)) (q : Q ((valV kvs (Sum.inr x)).getD z) H) : DG2 a Q (.str x) z H := ⟨_, DGet.k (k := Sum.inr x) e, q⟩
section
variable {K : PySem.W.Frag} {g : TG} {tt : TT} {te : TE} {ts : TA} {vs : List Nat} {tb : TS} {D : Ends}
def LcR2 (g : TG) (tt : TT) (te : TE) (vs : List Nat) (σ : L2.St) (Q : VK) : List V → Hp → Prop := fun us H1 => ∃ i j : Int, us = [.int i, .int j] ∧ (-(2 ^ 62) ≤ i ∧ i < 2 ^ 62 ∧ -(2 ^ 62) ≤ j ∧ j < 2 ^ 62) ∧ LcTurns (Itr i (j - i).toNat) g tt te vs σ Q H1
theorem r_lcR2 (h : ts σ H (LcR2 g tt te vs σ Q)) : tLc (iRng2 ts) g tt te vs σ H Q := h
def ForE (K : PySem.W.Frag) (g : TG) (tb : TS) (D : Ends) (σ : L2.St) : List V → Hp → Prop := fun us H1 => ∃ a xs, us = [.ref a] ∧ SqL K H1 a xs ∧ Turns (Ite K a) g tb D σ H1
theorem r_forE (h : ts σ H (ForE K g tb D σ)) : tFor (iEnum K ts) g tb D σ H := by
  refine cast ?_ h
  rfl
end
theorem ix_listK {X : Cx} {K : PySem.W.Frag} (h : X.K = K) : IxR X (rIxL K) := by
  subst h
  exact ix_list
theorem ix_tupK {X : Cx} {K : PySem.W.Frag} (h : X.K = K) : IxR X (rIxT K) := by
  subst h
  exact ix_tup
end
/-- an expression that makes data and keeps all that is there -/
def CD (K : PySem.W.Frag) (σ : L2.St) (H0 : Hp) (te : TE) (d : PyData) : Prop := ∀ (H : Hp) (Q : VK), Kp [] H0 H → (∀ H' v, Kp [] H H' → Dt K H' v d → Q v H') → te σ H Q
def CDs (K : PySem.W.Frag) (σ : L2.St) (H0 : Hp) (ts : TA) (ds : List PyData) : Prop := ∀ (H : Hp) (R : List V → Hp → Prop), Kp [] H0 H → (∀ H' vs, Kp [] H H' → DtL K H' vs ds → R vs H') → ts σ H R
section
variable {K : PySem.W.Frag} {σ : L2.St} {H0 : Hp} {te : TE} {ts : TA} {d : PyData} {ds : List PyData}
theorem cd_str {x : Str} : CD K σ H0 (tC (.str x)) (.str x) := fun H Q _ h => h H _ Kp.nil (.str x)
theorem cd_int {x : Int} : CD K σ H0 (tC (.int x)) (.int x) := fun H Q _ h => h H _ Kp.nil (.int x)
theorem cd_non : CD K σ H0 (tC .non) .none := fun H Q _ h => h H _ Kp.nil .non
theorem cd_var {i : Nat} {v : V} (e : σ[i]? = some (some v)) (hv : Dt K H0 v d) : CD K σ H0 (tVar i) d := fun H Q k h => ⟨v, e, h H _ Kp.nil (hv.kp k)⟩
theorem cds_nil : CDs K σ H0 tNil [] := fun H R _ h => h H _ Kp.nil DtL.nil
theorem cds_cons (a : CD K σ H0 te d) (b : CDs K σ H0 ts ds) : CDs K σ H0 (tCons te ts) (d :: ds) := fun H R k h =>
  a H _ k fun H1 v k1 hv => b H1 _ (k.trans k1) fun H2 vs k2 hs => h H2 (v :: vs) (k1.trans k2) (DtL.cons (hv.kp k2) hs)
theorem cd_tup (b : CDs K σ H0 ts ds) (hz : ds.length ≤ 16777216) : CD K σ H0 (tTup ts) (.tuple ds) := fun H Q k h =>
  b H _ k fun H1 vs k1 hs => ⟨by rw [hs.len, sizeLine_eq]; exact hz, fun p hp => h _ _ (k1.new hp) ((hs.kp (Kp.nil.new hp)).tup upd_same)⟩
theorem CD.use {H : Hp} {Q : VK} (a : CD K σ H te d) (h : ∀ H' v, Kp [] H H' → Dt K H' v d → Q v H') : te σ H Q := a H Q Kp.nil h
theorem CDs.use {H : Hp} {R : List V → Hp → Prop} (a : CDs K σ H ts ds) (h : ∀ H' vs, Kp [] H H' → DtL K H' vs ds → R vs H') : ts σ H R := a H R Kp.nil h
end
theorem DtL.app {K : PySem.W.Frag} {H : Hp} {vs us : List V} {ds es : List PyData} (h : DtL K H vs ds) (g : DtL K H us es) : DtL K H (vs ++ us) (ds ++ es) := by
  refine ⟨by rw [List.length_append, List.length_append, h.len, g.len], fun i u e q q' => ?_⟩
  by_cases hi : i < vs.length
  · rw [List.getElem?_append_left hi] at q
    rw [List.getElem?_append_left (by rw [← h.len]; exact hi)] at q'
    exact h.all i u e q q'
  · rw [List.getElem?_append_right (by omega)] at q
    rw [List.getElem?_append_right (by rw [← h.len]; omega), ← h.len] at q'
    exact g.all _ u e q q'
theorem DtL.rep {K : PySem.W.Frag} {H : Hp} {vs : List V} {ds : List PyData} (h : DtL K H vs ds) : ∀ n : Nat, DtL K H (List.replicate n vs).flatten (List.replicate n ds).flatten
  | 0 => DtL.nil
  | n + 1 => by
    rw [List.replicate_succ, List.replicate_succ, List.flatten_cons, List.flatten_cons]
    exact h.app (DtL.rep h n)
theorem Dt.items {K : PySem.W.Frag} {H : Hp} {v : V} {ds : List PyData} (h : Dt K H v (.tuple ds)) : ∃ (a : Addr) (xs : List V), v = .ref a ∧ SqT K H a xs ∧ DtL K H xs ds := by
  obtain ⟨a, xs, e, s, l, q⟩ := h.isTup
  exact ⟨a, xs, e, s, l, q⟩
end Aw
namespace Aw
open PySem PySem.Spec L2
section
variable {X : Cx} {pins : List (Addr × Obj)} {σ : L2.St} {H : Hp} {s : Shared}
theorem readsAll_of {h : Heap} : ∀ {xs : List V} {ds : List PyData} {its : List Value}, xs.length = ds.length → Vals xs its →
    (∀ (i : Nat) (v : V) (d : PyData), xs[i]? = some v → ds[i]? = some d → ∀ u, RelV v u → ∃ as, Reads h u d as ∧ sysModules ∉ as) → ∃ as, ReadsAll h its ds as ∧ sysModules ∉ as
  | [], [], _, _, r, _ => by
    cases r
    exact ⟨[], .nil, by simp⟩
  | x :: xs, d :: ds, _, l, r, f => by
    cases r with
    | cons r0 r1 =>
      obtain ⟨as, a1, a2⟩ := f 0 x d rfl rfl _ r0
      obtain ⟨bs, b1, b2⟩ := readsAll_of (by simpa using l) r1 fun i v d e e' => f (i + 1) v d (by simpa using e) (by simpa using e')
      exact ⟨as ++ bs, .cons a1 b1, fun m => (List.mem_append.mp m).elim a2 b2⟩
  | [], _ :: _, _, l, _, _ => by cases l
  | _ :: _, [], _, l, _, _ => by cases l
theorem Dw.reads {M : List Addr} {v : V} {d : PyData} (I : Inv X pins σ H s) (hM : H sysModules = none) (h : Dw M X.K H v d) : ∀ u, RelV v u → ∃ as, Reads s.heap u d as ∧ sysModules ∉ as := by
  induction h with
  | non => intro u r; cases r; exact ⟨_, Reads.none, by simp⟩
  | bl b => intro u r; cases r; exact ⟨_, Reads.bool b, by simp⟩
  | int i => intro u r; obtain ⟨t, rfl⟩ := r; exact ⟨_, Reads.int i t, by simp⟩
  | str x => intro u r; obtain ⟨t, rfl⟩ := r; exact ⟨_, Reads.str x t, by simp⟩
  | tup hs l _ ih =>
    intro u r
    cases r
    obtain ⟨its, rv, ⟨o, ho, hc, n, hd⟩, _⟩ := I.tuple hs
    obtain ⟨as, a1, a2⟩ := readsAll_of l rv ih
    exact ⟨_, Reads.tuple ho hc hd a1, a2⟩
  | @lst a xs ds he _ l _ ih =>
    intro u r
    cases r
    obtain ⟨its, rv, ⟨o, n, ho, hc, _, hd⟩, _⟩ := I.list (SqL.of he)
    obtain ⟨as, a1, a2⟩ := readsAll_of l rv ih
    refine ⟨_, Reads.list ho hc hd a1, fun m => ?_⟩
    rcases List.mem_cons.mp m with z | z
    · rw [z, he] at hM
      cases hM
    · exact a2 z
  | @dct a kvs ps he _ l hk _ ih =>
    intro u r
    cases r
    obtain ⟨_, hsm, vs, kv, o, es, ep, ho, hx, hd, _, pr, _⟩ := dk_of I.hok he
    have keys : ∀ {es : List DictEntry} {kvs : List (Key × V)} {vs : List (Key × Value)} {ps : List (PyData × PyData)}, PySem.Pairs (mixKind X.prog X.w) es vs → KV kvs vs → kvs.length = ps.length →
        (∀ (i : Nat) (kv : Key × V) (p : PyData × PyData), kvs[i]? = some kv → ps[i]? = some p → p.1 = keyD kv.1) →
        (∀ (i : Nat) (kv : Key × V) (p : PyData × PyData), kvs[i]? = some kv → ps[i]? = some p → ∀ u, RelV kv.2 u → ∃ as, Reads s.heap u p.2 as ∧ sysModules ∉ as) →
        (∃ as, ReadsAll s.heap (es.map (·.key)) (ps.map (·.1)) as ∧ sysModules ∉ as) ∧ (∃ as, ReadsAll s.heap (es.map (·.val)) (ps.map (·.2)) as ∧ sysModules ∉ as) := by
      intro es kvs vs ps pr
      induction pr generalizing kvs ps with
      | nil =>
        intro kv l hk ih
        cases kv
        have : ps = [] := List.length_eq_zero_iff.mp l.symm
        subst this
        exact ⟨⟨[], .nil, by simp⟩, ⟨[], .nil, by simp⟩⟩
      | @cons e q es qs h1 h2 h3 ihp =>
        intro kv l hk ih
        cases kv with
        | @cons p q' kvs' _ hpq hr =>
        cases ps with
        | nil => cases l
        | cons pp ps =>
          obtain ⟨⟨as, a1, a2⟩, ⟨bs, b1, b2⟩⟩ := ihp hr (by simpa using l) (fun i kv p e e' => hk (i + 1) kv p (by simpa using e) (by simpa using e')) (fun i kv p e e' => ih (i + 1) kv p (by simpa using e) (by simpa using e'))
          have hk0 := hk 0 _ _ rfl rfl
          obtain ⟨e1, e2⟩ := hpq
          obtain ⟨cs, c1, c2⟩ := ih 0 _ _ rfl rfl _ e2
          refine ⟨⟨[] ++ as, ?_, by simpa using a2⟩, ⟨cs ++ bs, ?_, fun m => (List.mem_append.mp m).elim c2 b2⟩⟩
          · refine ReadsAll.cons ?_ a1
            show Reads s.heap e.key pp.1 []
            rw [hk0, e1]
            rcases keyIs_shape h1 with ⟨i, t, z1, z2⟩ | ⟨x, t, z1, z2⟩
            · rw [z1, z2]
              exact Reads.int i t
            · rw [z1, z2]
              exact Reads.str x t
          · refine ReadsAll.cons ?_ b1
            show Reads s.heap e.val pp.2 cs
            rw [h2]
            exact c1
    obtain ⟨⟨as, a1, a2⟩, ⟨bs, b1, b2⟩⟩ := keys pr kv l hk ih
    refine ⟨_, Reads.dict ho hx.1 hd a1 b1, fun m => ?_⟩
    rcases List.mem_append.mp m with m | m
    · rcases List.mem_cons.mp m with z | z
      · rw [← z] at hsm
        exact absurd hsm (by decide)
      · exact a2 z
    · exact b2 m
end
/-- data that is shown, with dicts -/
structure ShwD (d : PyData) (k n : Nat) : Prop where
  sh : d.showable = true
  dep : d.depth ≤ k
  len : d.shown.length ≤ n
def qRepr3 (K : PySem.W.Frag) : List V → Hp → VK → Prop := fun xs H Q => ∃ x d, xs = [x] ∧
    Dw [] K H x d ∧ d.showable = true ∧ d.depth ≤ 100 ∧ d.shown.length ≤ sizeLine ∧ Q (.str d.shown) H
theorem c_repr3 {X : Cx} {k : Nat} (hr : RoomG k X.A) (hM : ∃ mm, X.base.Ns sysModules mm) : CallR X (.builtin "repr") (qRepr3 X.K) := by
  intro pins s σ H xs us Q I r h
  obtain ⟨x, d, rfl, hd, h1, h3, h4, q⟩ := h
  have hS : H sysModules = none := by
    obtain ⟨mm, o, es, ep, e, _⟩ := hM
    exact (I.bs _ _ e).2
  have go : ∀ a : Addr, x = .ref a → wpAny (model X.prog X.w) X.A (call (.builtin "repr") us) (EP X pins σ Q) X.xe s := by
    intro a e
    subst e
    obtain ⟨u, rfl, r1⟩ := vals1 r
    cases (show u = Value.ref a from r1)
    obtain ⟨as, rd, hn⟩ := hd.reads I hS _ r1
    have hu := hr.r.un
    refine repr_of_reads' rd h1 (fun _ => hn) hr.g (by omega) (fun _ _ e => e) (fun h' u tk hk => ?_) h4
    exact ⟨.str d.shown, H, I.kept hk, ⟨_, rfl⟩, q⟩
  cases hd with
  | non =>
    obtain ⟨u, rfl, r1⟩ := vals1 r
    cases (show u = Value.none from r1)
    refine PySem.P.repr_of_none ⟨.str _, H, I.tok _, ⟨_, rfl⟩, ?_⟩
    rw [PyData.shown] at q
    exact q
  | bl b =>
    obtain ⟨u, rfl, r1⟩ := vals1 r
    cases (show u = Value.bool b from r1)
    refine PySem.P.repr_of_bool ⟨.str _, H, I.tok _, ⟨_, rfl⟩, ?_⟩
    rw [PyData.shown] at q
    exact q
  | int i =>
    obtain ⟨u, rfl, r1⟩ := vals1 r
    obtain ⟨t, rfl⟩ := (show ∃ t, u = Value.int i t from r1)
    rw [PyData.showable] at h1
    refine PySem.P.repr_of_int (of_decide_eq_true h1) ⟨.str _, H, I.tok _, ⟨_, rfl⟩, ?_⟩
    rw [PyData.shown] at q
    exact q
  | str z =>
    obtain ⟨u, rfl, r1⟩ := vals1 r
    obtain ⟨t, rfl⟩ := (show ∃ t, u = Value.str z t from r1)
    rw [PyData.shown] at q h4
    exact PySem.P.repr_of_str ⟨.str _, H, I.tok _, ⟨_, rfl⟩, q⟩ h4
  | tup _ _ _ => exact go _ rfl
  | lst _ _ _ _ => exact go _ rfl
  | dct _ _ _ _ _ => exact go _ rfl
theorem r_repr3 {K : PySem.W.Frag} {H : Hp} {Q : VK} {x : V} {d : PyData} {k n : Nat} (h : Dw [] K H x d) (s : ShwD d k n) (hk : k ≤ 100) (hn : n ≤ 16777216) (q : Q (.str d.shown) H) : qRepr3 K [x] H Q :=
  ⟨x, d, rfl, h, s.sh, Nat.le_trans s.dep hk, by rw [sizeLine_eq]; exact Nat.le_trans s.len hn, q⟩
theorem RoomG.make {k : Nat} {A : Around} (h : RoomG (k + 1) A) (C : Addr) (us : List Value) (kw : List (Str × Value)) : RoomG k (A.under (.builtin "type.__call__" ⟨.ref C :: us, kw⟩)) := ⟨h.r.make C us kw, h.g⟩
/-- a method of the class at C keeps its promise -/
def HasM (P : Program) (w : World) (K : PySem.W.Frag) (mg : Str → Option Value) (base : Heap) (CX : CXT) (C : Addr) (m : Str) (ps : List Str) (k : Nat) (sp : Sp) : Prop :=
  ∃ (f : Addr) (fd : FuncData), (∃ oc od osl, K.lookup f = some ⟨oc, od, .func fd, osl⟩) ∧ Meth K C m f ∧ Binds K fd ps [] ∧ FnG P w K mg base CX k f fd ps sp
/-- a method of the class at C stands in the top -/
def DfM (K : PySem.W.Frag) (C : Addr) (m q : Str) (st : Stmt) (ps : List Str) : Prop :=
  ∃ (f : Addr) (fd : FuncData), Fun K m q st f fd ∧ Meth K C m f ∧ Binds K fd ps []
section
variable {P : Program} {w : World} {K : PySem.W.Frag} {mg : Str → Option Value} {base : Heap} {CX : CXT} {C : Addr} {m q : Str} {st : Stmt} {ps N : List Str} {j k : Nat} {sp sp' : Sp}
theorem HasM.mono (h : HasM P w K mg base CX C m ps j sp) (z : j ≤ k) : HasM P w K mg base CX C m ps k sp := by
  obtain ⟨f, fd, a, b, c, d⟩ := h
  exact ⟨f, fd, a, b, c, d.mono z⟩
theorem HasM.imp (h : HasM P w K mg base CX C m ps k sp) (z : ∀ vs H Q E, sp' vs H Q E → sp vs H Q E) : HasM P w K mg base CX C m ps k sp' := by
  obtain ⟨f, fd, a, b, c, d⟩ := h
  exact ⟨f, fd, a, b, c, fun vs H Q E y => d.len _ _ _ _ (z _ _ _ _ y), fun A o s H ar us vs Q E hr he hb hv hs => d.run A o s H ar us vs Q E hr he hb hv (z _ _ _ _ hs)⟩
theorem DfM.void (d : DfM K C m q st ps) (h : ∀ vs H Q E, ¬ sp vs H Q E) : HasM P w K mg base CX C m ps 0 sp := by
  obtain ⟨f, fd, F, mm, b⟩ := d
  have lk : ∃ oc od osl, K.lookup f = some ⟨oc, od, .func fd, osl⟩ := by
    obtain ⟨oc, od, kV, doc, pm, an, cdv, ct, osl, rfl, lk, hcd⟩ := F.ex
    exact ⟨oc, od, osl, lk⟩
  exact ⟨f, fd, lk, mm, b, fun vs H Q E z => absurd z (h _ _ _ _), fun A o s H ar us vs Q E hr he hb hv hs => absurd hs (h _ _ _ _)⟩
theorem DfM.has (d : DfM K C m q st ps) (S : FnScope N ps (defScope st)) (len : ∀ vs H Q E, sp vs H Q E → vs.length = ps.length)
    (hb : ∀ (f : Addr) (cdv : Value) (A : Around) (outer : List Env) (s : Shared) (H : Hp) (vs : List V) (Q : VK) (E : XK),
      RoomG k (A.deeper (PyProof.Rows.envOfC q (defScope st) s.heap.objs.size f cdv)) → sp vs H Q E →
      ∃ t, PSs (cxOf CX0 P w K mg base N q (defScope st) f cdv A outer s H E).nox (defBody st) t ∧
        t { nx := fun _ H' => Q .non H', rt := Q } (start N vs) H) : HasM P w K mg base CX0 C m ps (k + 1) sp := by
  obtain ⟨f, fd, F, mm, b⟩ := d
  obtain ⟨oc, od, kV, doc, pm, an, cdv, ct, osl, rfl, lk, hcd⟩ := F.ex
  refine ⟨f, _, ⟨oc, od, osl, lk⟩, mm, b, fnG_of lk hcd S len fun A outer s H vs Q E hr hsp => ?_⟩
  obtain ⟨t, h, q⟩ := hb f cdv A outer s H vs Q E hr hsp
  exact ⟨t, h.nox, q⟩
end
section
variable {X : Cx} {CX : CXT} {k : Nat} {C : Addr} {ps : List Str} {sp : Sp} {E : XK} {x m : Str} {p pos apos : Pos} {e o : Expr} {es : List Expr} {ta : TE} {t : TA}
/-- o.m(e, ..) -/
theorem pe_m {pl : Sem Bool} (F : HasM X.prog X.w X.K X.mg X.base CX C m ps k sp) (c : Cls X.K C) (hr : RoomG k X.A) (hx : Passes CX X E) (he : PE X o ta) (ha : PA X (e :: es) t)
    (hst : starEach (e :: es) X.env = (false, eval e X.env) :: starEach es X.env := by rfl) (hpl : (backTo pos (starEach es X.env)).any (·.1) = false := by rfl)
    (ht : eval (.Call (.Attribute o m apos) (e :: es) [] pos) X.env = (do
      let ov ← eval o X.env
      standAt apos.atName
      let (f, first) ← holding [ov] (getMethod ov m pl)
      callWith pos f first (backTo pos (starEach (e :: es) X.env)) (backToKw pos (keywordEach [] X.env))) := by rfl) :
    PE X (.Call (.Attribute o m apos) (e :: es) [] pos) (tMeth C m sp [] E ta t) := by
  obtain ⟨f, fd, _, hm, hb, F⟩ := F
  refine ⟨fun pins s σ H Q I h => ?_⟩
  refine PySem.W.methodCall_KW (pl := pl) (thn (he.run pins s σ H _ I h) fun u s1 ⟨x, H1, I1, rx, a, dx, fs, ex, ea, l, q⟩ => ?_) ht
  subst ex
  obtain rfl : u = Value.ref a := rx
  refine getmeth_ok I1 ea c hm l ?_
  refine PySem.W.callWith_K (first := [.ref a]) (h₀ := X.base) I.ok.mod.kin hm.kp (thn (ha.run pos pins s1 σ H1 _ I1 q) fun us s2 ⟨vs, H2, I2, r, q2⟩ => ⟨I2.kIn, ?_⟩) hst hpl
  have q2 : sp (.ref a :: (vs ++ [])) H2 Q E := q2
  rw [List.append_nil] at q2
  exact runG (us := .ref a :: us) (vs := .ref a :: vs) F hr hb hx I2 (.cons rfl r) q2
theorem pe_m0 {pl : Sem Bool} (F : HasM X.prog X.w X.K X.mg X.base CX C m ps k sp) (c : Cls X.K C) (hr : RoomG k X.A) (hx : Passes CX X E) (he : PE X o ta)
    (ht : eval (.Call (.Attribute o m apos) [] [] pos) X.env = (do
      let ov ← eval o X.env
      standAt apos.atName
      let (f, first) ← holding [ov] (getMethod ov m pl)
      callWith pos f first (backTo pos (starEach [] X.env)) (backToKw pos (keywordEach [] X.env))) := by rfl) :
    PE X (.Call (.Attribute o m apos) [] [] pos) (tMeth C m sp [] E ta tNil) := by
  obtain ⟨f, fd, _, hm, hb, F⟩ := F
  refine ⟨fun pins s σ H Q I h => ?_⟩
  refine PySem.W.methodCall_KW (pl := pl) (thn (he.run pins s σ H _ I h) fun u s1 ⟨x, H1, I1, rx, a, dx, fs, ex, ea, l, q⟩ => ?_) ht
  subst ex
  obtain rfl : u = Value.ref a := rx
  refine getmeth_ok I1 ea c hm l ?_
  exact PySem.W.callWith_K0 (first := [.ref a]) I1.kIn hm.kp (runG (us := [.ref a]) (vs := [.ref a]) F hr hb hx I1 (.cons rfl .nil) q)
theorem runMake {f : Addr} {fd : FuncData} {pins : List (Addr × Obj)} {σ : L2.St} {H : Hp} {s : Shared} {Q : VK} {us : List Value} {vs : List V} (M : Mk X.K C f) (F : FnG X.prog X.w X.K X.mg X.base CX k f fd ps sp) (hr : RoomG (k + 1) X.A) (hb : Binds X.K fd ps [])
    (hx : Passes CX X E) (I : Inv X pins σ H s) (r : Vals vs us)
    (h : ∀ x dx, H x = none → H dx = none → dx ≠ x → sp (.ref x :: vs) (upd (upd H dx (.own x)) x (.ins C dx [])) (fun v H2 => v = .non ∧ Q (.ref x) H2) E) :
    wpAny (model X.prog X.w) X.A (call (.ref C) us) (EP X pins σ Q) X.xe s := by
  have hq := h (s.heap.objs.size + 1) s.heap.objs.size (I.hok.fresh (Nat.le_succ _)) (I.hok.fresh (Nat.le_refl _)) (Nat.ne_of_lt (Nat.lt_succ_self _))
  have I2 := Inv.made (C := C) I
  have r2 : Vals (V.ref (s.heap.objs.size + 1) :: vs) (Value.ref (s.heap.objs.size + 1) :: us) := .cons rfl r
  have hl : (Value.ref (s.heap.objs.size + 1) :: us ++ []).length = ps.length := by
    have e := r2.length
    rw [F.len _ _ _ _ hq] at e
    rw [List.append_nil]
    exact e.symm
  have bb := hb _ (Value.ref (s.heap.objs.size + 1) :: us) I2.kIn hl
  rw [List.append_nil] at bb
  refine wpAny_call (make_map (f := f) I.kIn M.makes M.init (beq_iff_eq.mp M.fn) (codeAny_mono (F.run _ X.stack _ _ ⟨Value.ref (s.heap.objs.size + 1) :: us, []⟩ (Value.ref (s.heap.objs.size + 1) :: us) _ _ E (hr.make C us [])
    (I2.env0.make C us []) bb r2 hq) fun r s' hq' => ?_))
  cases r with
  | error e => exact hx pins σ _ _ e s' I2 hq'
  | ok fl =>
    cases fl with
    | ret u =>
      obtain ⟨v, H', I3, rv, ev, q3⟩ := I2.after hq'
      subst ev
      exact ⟨rv, ⟨V.ref (s.heap.objs.size + 1), H', I3, rfl, q3⟩⟩
    | next => exact False.elim hq'
    | brk => exact False.elim hq'
    | cont => exact False.elim hq'
/-- a class of the top and its __init__ -/
def HasC (P : Program) (w : World) (K : PySem.W.Frag) (mg : Str → Option Value) (base : Heap) (CX : CXT) (x : Str) (C : Addr) (ps : List Str) (k : Nat) (sp : Sp) : Prop :=
  ∃ (f : Addr) (fd : FuncData), Mk K C f ∧ mg x = some (.ref C) ∧ Binds K fd ps [] ∧ FnG P w K mg base CX k f fd ps sp
theorem pe_new (F : HasC X.prog X.w X.K X.mg X.base CX x C ps k sp) (hr : RoomG (k + 1) X.A) (hg : Gl X x) (hx : Passes CX X E)
    (ha : PA X (e :: es) t) (hdb : (x == ("__debug__" : Str)) = false := by decide) (he : starEach (e :: es) X.env = (false, eval e X.env) :: starEach es X.env := by rfl) (hpl : (backTo pos (starEach es X.env)).any (·.1) = false := by rfl) :
    PE X (.Call (.Name x p) (e :: es) [] pos) (tMake C sp [] E t) := by
  obtain ⟨f, fd, M, hm, hb, F⟩ := F
  refine ⟨fun pins s σ H Q I h => ?_⟩
  refine wpAny_Call_Name_kw (ld_glob I hg hm ?_ hdb)
  refine PySem.W.callWith_K (h₀ := X.base) I.ok.mod.kin M.kp (thn (ha.run pos pins s σ H _ I h) fun us s1 ⟨vs, H1, I1, r, q⟩ => ⟨I1.kIn, ?_⟩) he hpl
  refine runMake M F hr hb hx I1 r fun x dx a b c => ?_
  have z : sp (.ref x :: (vs ++ [])) _ _ _ := q x dx a b c
  rw [List.append_nil] at z
  exact z
end
end Aw
namespace Aw
open PySem PySem.Spec L2
section
variable {σ : L2.St} {H : Hp} {D : Ends} {Q : VK} {v x y : V} {te td ty tv ta : TE} {tt : TT} {ts : TA} {g : TG} {tb : TS} {vs : List Nat} {K : PySem.W.Frag}
def FldQ (K : PySem.W.Frag) (f : Str) (Q : VK) : V → Hp → Prop := fun x H1 => ∃ a C dx fs v, x = .ref a ∧ H1 a = some (.ins C dx fs) ∧ Cls K C ∧ NoAttr K C f ∧ fs.lookup f = some v ∧ Q v H1
theorem r_fld {f : Str} (h : ta σ H (FldQ K f Q)) : tFld K ta f σ H Q := h
theorem r_Fld {f : Str} {a C dx : Addr} {fs : List (Str × V)} (e : H a = some (.ins C dx fs)) (c : Cls K C) (n : NoAttr K C f) (l : fs.lookup f = some v) (q : Q v H) : FldQ K f Q (.ref a) H := ⟨a, C, dx, fs, v, rfl, e, c, n, l, q⟩
def SFldQ (K : PySem.W.Frag) (f : Str) (y : V) (D : Ends) (σ : L2.St) : V → Hp → Prop := fun x H2 => ∃ a C dx fs, x = .ref a ∧ H2 a = some (.ins C dx fs) ∧ Cls K C ∧ NoAttr K C f ∧ fs.length < 1000 ∧ D.nx σ (upd H2 a (.ins C dx (putF f y fs)))
theorem r_sfld {f : Str} (h : tv σ H fun y H1 => ta σ H1 (SFldQ K f y D σ)) : sFld K ta tv f D σ H := h
theorem r_SFld {f : Str} {a C dx : Addr} {fs : List (Str × V)} (e : H a = some (.ins C dx fs)) (c : Cls K C) (n : NoAttr K C f) (l : fs.length < 1000) (q : D.nx σ (upd H a (.ins C dx (putF f y fs)))) : SFldQ K f y D σ (.ref a) H := ⟨a, C, dx, fs, rfl, e, c, n, l, q⟩
def MethQ (C : Addr) (m : Str) (sp : Sp) (E : XK) (ts : TA) (σ : L2.St) (Q : VK) : V → Hp → Prop := fun x H1 => ∃ a dx fs, x = .ref a ∧ H1 a = some (.ins C dx fs) ∧ fs.lookup m = none ∧ ts σ H1 fun vs H2 => sp (x :: (vs ++ [])) H2 Q E
theorem r_meth {C : Addr} {m : Str} {sp : Sp} {E : XK} (h : ta σ H (MethQ C m sp E ts σ Q)) : tMeth C m sp [] E ta ts σ H Q := h
theorem r_Meth {C a dx : Addr} {m : Str} {sp : Sp} {E : XK} {fs : List (Str × V)} (e : H a = some (.ins C dx fs)) (l : fs.lookup m = none) (q : ts σ H fun vs H2 => sp (.ref a :: (vs ++ [])) H2 Q E) : MethQ C m sp E ts σ Q (.ref a) H := ⟨a, dx, fs, rfl, e, l, q⟩
theorem r_make {C : Addr} {sp : Sp} {E : XK} (h : ts σ H fun vs H1 => ∀ x dx, H1 x = none → H1 dx = none → dx ≠ x → sp (.ref x :: (vs ++ [])) (upd (upd H1 dx (.own x)) x (.ins C dx [])) (fun v H2 => v = .non ∧ Q (.ref x) H2) E) : tMake C sp [] E ts σ H Q := h
def DPutQ (D : Ends) (σ : L2.St) (v : V) : V → V → Hp → Prop := fun x y H3 => ∃ a H4, x = .ref a ∧ DPut H3 a y v H4 ∧ D.nx σ H4
theorem r_dput (h : tv σ H fun v H1 => td σ H1 fun x H2 => ty σ H2 fun y H3 => DPutQ D σ v x y H3) : sDPut td ty tv D σ H := h
def DInQ (Q : VK) : V → V → Hp → Prop := fun y x H2 => ∃ a o, x = .ref a ∧ DGet H2 a y o ∧ Q (.bl o.isSome) H2
theorem r_din (h : ty σ H fun y H1 => td σ H1 fun x H2 => DInQ Q y x H2) : tDIn ty td σ H Q := h
theorem r_DIn {a : Addr} {kvs : List (Key × V)} {z : Str} (e : H a = some (.dK kvs)) (q : Q (.bl (valV kvs (Sum.inr z)).isSome) H) : DInQ Q (.str z) (.ref a) H := ⟨a, _, rfl, DGet.k (k := Sum.inr z) e, q⟩
def DG1 (a : Addr) (Q : VK) : V → Hp → Prop := fun y H2 => ∃ o, DGet H2 a y o ∧ Q (o.getD .non) H2
def DG1a (ty : TE) (σ : L2.St) (Q : VK) : V → Hp → Prop := fun x H1 => ∃ a, x = .ref a ∧ IsD H1 a ∧ ty σ H1 (DG1 a Q)
theorem r_dget1 (h : td σ H (DG1a ty σ Q)) : tDGet1 td ty σ H Q := h
theorem r_DG1a {a : Addr} {kvs : List (Key × V)} (e : H a = some (.dK kvs)) (h : ty σ H (DG1 a Q)) : DG1a ty σ Q (.ref a) H := ⟨a, rfl, .inl ⟨kvs, .inl e⟩, h⟩
theorem r_DG1 {a : Addr} {kvs : List (Key × V)} {z : Str} (e : H a = some (.dK kvs)) (q : Q ((valV kvs (Sum.inr z)).getD .non) H) : DG1 a Q (.str z) H := ⟨_, DGet.k (k := Sum.inr z) e, q⟩
theorem r_DG2i {a : Addr} {kvs : List (Key × V)} {z : V} {i : Int} (e : H a = some (.dK kvs)) (q : Q ((valV kvs (Sum.inl i)).getD z) H) : DG2 a Q (.int i) z H := ⟨_, DGet.k (k := Sum.inl i) e, q⟩
def DPop1Q (a : Addr) (Q : VK) : V → Hp → Prop := fun y H2 => ∃ kvs k v, H2 a = some (.dK kvs) ∧ y = kV k ∧ valV kvs k = some v ∧ Q v (upd H2 a (.dK (dropK kvs k)))
def DPop1a (ty : TE) (σ : L2.St) (Q : VK) : V → Hp → Prop := fun x H1 => ∃ a, x = .ref a ∧ IsD H1 a ∧ ty σ H1 (DPop1Q a Q)
theorem r_dpop1 (h : td σ H (DPop1a ty σ Q)) : tDPop1 td ty σ H Q := h
def ForK (g : TG) (tb : TS) (D : Ends) (σ : L2.St) : V → Hp → Prop := fun x H1 => ∃ d o, x = .ref d ∧ ((∃ kvs, H1 d = some (.frz o (.dK kvs)) ∧ Turns (Itk d o kvs) g tb D σ H1) ∨ ∃ kvs, H1 d = some (.frz o (.dT kvs)) ∧ Turns (Itkt d o kvs) g tb D σ H1)
theorem r_forK (h : te σ H (ForK g tb D σ)) : tFor (iKeys te) g tb D σ H := h
def LcV (g : TG) (tt : TT) (te : TE) (vs : List Nat) (σ : L2.St) (Q : VK) : V → Hp → Prop := fun x H1 => ∃ d o kvs, x = .ref d ∧ H1 d = some (.frz o (.dK kvs)) ∧ LcTurns (Itd d o kvs) g tt te vs σ Q H1
theorem r_lcV {ti : TE} (h : ti σ H (LcV g tt te vs σ Q)) : tLc (iVals ti) g tt te vs σ H Q := h
end
def tListVals (te : TE) : TE := fun σ H Q => te σ H fun x H1 => ∃ (d : Addr) (kvs : List (Key × V)), x = .ref d ∧ H1 d = some (.dK kvs) ∧ ∀ p, H1 p = none → Q (.ref p) (upd H1 p (.lst (kvs.map (·.2))))
def ListValsQ (Q : VK) : V → Hp → Prop := fun x H1 => ∃ (d : Addr) (kvs : List (Key × V)), x = .ref d ∧ H1 d = some (.dK kvs) ∧ ∀ p, H1 p = none → Q (.ref p) (upd H1 p (.lst (kvs.map (·.2))))
theorem r_listVals {te : TE} {σ : L2.St} {H : Hp} {Q : VK} (h : te σ H (ListValsQ Q)) : tListVals te σ H Q := h
def ListItemsQ (Q : VK) : V → Hp → Prop := fun x H1 => LiI.rItemsL x H1 Q
theorem r_listItems {te : TE} {σ : L2.St} {H : Hp} {Q : VK} (h : te σ H (ListItemsQ Q)) : LiI.tListItems te σ H Q := h
/-- what was made behind the beginning may have been written -/
theorem Kp.outs {N M : List Addr} {H H1 H2 : Hp} (k1 : Kp N H H1) (hM : ∀ b ∈ M, H b = none ∨ b ∈ N) (k2 : Kp M H1 H2) : Kp N H H2 := by
  intro c o ec
  refine ⟨(k1 c o ec).1, fun n => (k2 c o ((k1 c o ec).2 n)).2 fun m => ?_⟩
  rcases hM c m with z | z
  · rw [z] at ec
    cases ec
  · exact n z
theorem Kp.own1 {H H1 H2 : Hp} {p : Addr} (k1 : Kp [] H H1) (hp : H p = none) (k2 : Kp [p] H1 H2) : Kp [] H H2 := k1.outs (fun b m => .inl (by rw [List.mem_singleton.mp m]; exact hp)) k2
theorem kpW2 {H : Hp} {a : Addr} {u o : HO} (h : H a = some u) (m : Mut u) : Kp [a] H (upd H a o) := (Kp.reflM (Ms.cons h m Ms.nil)).write (by simp)
end Aw
namespace Aw
open PySem PySem.Spec L2
inductive Ex where
  | int (i : Int)
  | name (x : Str)
  | bin (o : Str) (a b : Ex)
def opSign (o : Str) : Str := if o = "plus" then " + " else if o = "minus" then " - " else " * "
def Ex.d : Ex → PyData
  | .int i => .int i
  | .name x => .str x
  | .bin o a b => .tuple [.str o, a.d, b.d]
def Ex.text : Ex → Str
  | .int i => Str.ofString (toString i)
  | .name x => x
  | .bin o a b => "(" ++ a.text ++ opSign o ++ b.text ++ ")"
def IsOp (o : Str) : Prop := o = "plus" ∨ o = "minus" ∨ o = "times"
def Ex.ok : Nat → Ex → Prop
  | 0, _ => False
  | _ + 1, .int i => -99 ≤ i ∧ i ≤ 99
  | _ + 1, .name x => Sok x 8
  | n + 1, .bin o a b => IsOp o ∧ a.ok n ∧ b.ok n
theorem Ex.ok.succ : ∀ {n : Nat} {e : Ex}, e.ok n → e.ok (n + 1)
  | 0, _, h => h.elim
  | _ + 1, .int _, h => h
  | _ + 1, .name _, h => h
  | _ + 1, .bin _ _ _, h => ⟨h.1, h.2.1.succ, h.2.2.succ⟩
theorem Ex.ok.mono {m n : Nat} {e : Ex} (h : e.ok m) (q : m ≤ n) : e.ok n := by
  induction q with
  | refl => exact h
  | step _ ih => exact ih.succ
theorem opSign_ok {o : Str} (h : IsOp o) : Sok (opSign o) 3 := by
  rcases h with rfl | rfl | rfl <;> exact Sok.lit (by decide +kernel)
theorem IsOp.sok {o : Str} (h : IsOp o) : Sok o 5 := by
  rcases h with rfl | rfl | rfl <;> exact Sok.lit (by decide +kernel)
def eLen : Nat → Nat
  | 0 => 0
  | n + 1 => 2 * eLen n + 8
theorem Ex.ok.sok : ∀ {n : Nat} {e : Ex}, e.ok n → Sok e.text (eLen n)
  | 0, _, h => h.elim
  | n + 1, .int i, h => (Sok.num i h.1 h.2).mono (by unfold eLen; omega)
  | n + 1, .name x, h => Sok.mono h (by unfold eLen; omega)
  | n + 1, .bin o a b, h => by
    have h1 := h.2.1.sok
    have h2 := h.2.2.sok
    have l : Sok ("(" : Str) 1 := Sok.lit (by decide +kernel)
    have r : Sok (")" : Str) 1 := Sok.lit (by decide +kernel)
    exact ((((l.app h1).app (opSign_ok h.1)).app h2).app r).mono (by show 1 + eLen n + 3 + eLen n + 1 ≤ 2 * eLen n + 8; omega)
inductive Ts where
  | not (t : Ts)
  | given (x : Str)
  | rest (e : Ex) (b r : Int)
  | less (a b : Ex)
def Ts.d : Ts → PyData
  | .not t => .tuple [.str "not", t.d]
  | .given x => .tuple [.str "given", .str x]
  | .rest e b r => .tuple [.str "rest", e.d, .int b, .int r]
  | .less a b => .tuple [.str "less", a.d, b.d]
def numT (i : Int) : Str := Str.ofString (toString i)
def Ts.text : Ts → Str
  | .not t => "not " ++ t.text
  | .given x => "set " ++ x
  | .rest e b r => "rest " ++ numT r ++ " of " ++ numT b ++ " " ++ e.text
  | .less a b => a.text ++ " < " ++ b.text
def Ts.ok : Nat → Ts → Prop
  | 0, .not _ => False
  | n + 1, .not t => t.ok n
  | _, .given x => Sok x 8
  | _, .rest e b r => e.ok 3 ∧ 0 ≤ b ∧ b ≤ 99 ∧ 0 ≤ r ∧ r ≤ 99
  | _, .less a b => a.ok 3 ∧ b.ok 3
theorem Ts.ok.sok : ∀ {n : Nat} {t : Ts}, t.ok n → Sok t.text (4 * n + 200)
  | n + 1, .not t, h => by
    have q := Ts.ok.sok (n := n) (t := t) h
    have l : Sok ("not " : Str) 4 := Sok.lit (by decide +kernel)
    exact (l.app q).mono (by omega)
  | n, .given x, h => by
    have q : Sok x 8 := by cases n <;> exact h
    have l : Sok ("set " : Str) 4 := Sok.lit (by decide +kernel)
    exact (l.app q).mono (by omega)
  | n, .rest e b r, h => by
    have q : e.ok 3 ∧ 0 ≤ b ∧ b ≤ 99 ∧ 0 ≤ r ∧ r ≤ 99 := by cases n <;> exact h
    obtain ⟨q, b0, b1, r0, r1⟩ := q
    have l : Sok ("rest " : Str) 5 := Sok.lit (by decide +kernel)
    have m : Sok (" of " : Str) 4 := Sok.lit (by decide +kernel)
    have s : Sok (" " : Str) 1 := Sok.lit (by decide +kernel)
    exact (((((l.app (Sok.num r (by omega) r1)).app m).app (Sok.num b (by omega) b1)).app s).app q.sok).mono (by show 5 + 3 + 4 + 3 + 1 + 56 ≤ _; omega)
  | n, .less a b, h => by
    have q : a.ok 3 ∧ b.ok 3 := by cases n <;> exact h
    have m : Sok (" < " : Str) 3 := Sok.lit (by decide +kernel)
    exact ((q.1.sok.app m).app q.2.sok).mono (by show 56 + 3 + 56 ≤ _; omega)
inductive Pl where
  | set (x : Str) (e : Ex)
  | unset (x : Str)
  | tell (e : Ex)
  | say (w : Str)
  | stop (w : Str)
def Pl.d : Pl → PyData
  | .set x e => .tuple [.str "set", .str x, e.d]
  | .unset x => .tuple [.str "unset", .str x]
  | .tell e => .tuple [.str "tell", e.d]
  | .say w => .tuple [.str "say", .str w]
  | .stop w => .tuple [.str "stop", .str w]
def Pl.text : Pl → Str
  | .set x e => "set " ++ x ++ " " ++ e.text
  | .unset x => "unset" ++ " " ++ x
  | .tell e => "tell " ++ e.text
  | .say w => "say" ++ " " ++ w
  | .stop w => "stop" ++ " " ++ w
def Pl.ok : Pl → Prop
  | .set x e => Sok x 8 ∧ e.ok 3
  | .unset x => Sok x 8
  | .tell e => e.ok 3
  | .say w => Sok w 8
  | .stop w => Sok w 8
theorem Pl.ok.sok {s : Pl} (h : s.ok) : Sok s.text 100 := by
  have sp : Sok (" " : Str) 1 := Sok.lit (by decide +kernel)
  cases s with
  | set x e =>
    have l : Sok ("set " : Str) 4 := Sok.lit (by decide +kernel)
    exact (((l.app h.1).app sp).app h.2.sok).mono (by show 4 + 8 + 1 + 56 ≤ _; omega)
  | unset x =>
    have l : Sok ("unset" : Str) 5 := Sok.lit (by decide +kernel)
    exact ((l.app sp).app h).mono (by omega)
  | tell e =>
    have l : Sok ("tell " : Str) 5 := Sok.lit (by decide +kernel)
    exact (l.app (Ex.ok.sok h)).mono (by show 5 + 56 ≤ _; omega)
  | say w =>
    have l : Sok ("say" : Str) 3 := Sok.lit (by decide +kernel)
    exact ((l.app sp).app h).mono (by omega)
  | stop w =>
    have l : Sok ("stop" : Str) 4 := Sok.lit (by decide +kernel)
    exact ((l.app sp).app h).mono (by omega)
inductive Sm where
  | pl (s : Pl)
  | ifs (t : Ts) (y n : List Sm)
  | rep (k : Int) (b : List Sm)
mutual
def Sm.d : Sm → PyData
  | .pl s => s.d
  | .ifs t y n => .tuple [.str "if", t.d, .tuple (Sm.ds y), .tuple (Sm.ds n)]
  | .rep k b => .tuple [.str "repeat", .int k, .tuple (Sm.ds b)]
def Sm.ds : List Sm → List PyData
  | [] => []
  | s :: r => s.d :: Sm.ds r
end
theorem Sm.ds_map : ∀ b : List Sm, Sm.ds b = b.map Sm.d
  | [] => rfl
  | s :: r => by rw [Sm.ds, Sm.ds_map r, List.map_cons]
def Sm.line : Sm → Str
  | .pl s => s.text
  | .ifs t _ _ => "if " ++ t.text
  | .rep k _ => "repeat" ++ " " ++ numT k
mutual
def Sm.lines (ah : Str) : Sm → List Str
  | .pl s => [ah ++ s.text]
  | .ifs t y n => (ah ++ ("if " ++ t.text)) :: ((if y.isEmpty then [ah ++ "  " ++ "pass"] else Sm.all (ah ++ "  ") y) ++
      (if n.isEmpty then [] else (ah ++ "else") :: Sm.all (ah ++ "  ") n))
  | .rep k b => (ah ++ ("repeat" ++ " " ++ numT k)) :: (if b.isEmpty then [ah ++ "  " ++ "pass"] else Sm.all (ah ++ "  ") b)
def Sm.all (ah : Str) : List Sm → List Str
  | [] => []
  | s :: r => Sm.lines ah s ++ Sm.all ah r
end
mutual
def Sm.size : Sm → Nat
  | .pl _ => 1
  | .ifs _ y n => 1 + Sm.sizes y + Sm.sizes n
  | .rep _ b => 1 + Sm.sizes b
def Sm.sizes : List Sm → Nat
  | [] => 0
  | s :: r => Sm.size s + Sm.sizes r
end
theorem Sm.sizes_app : ∀ a b : List Sm, Sm.sizes (a ++ b) = Sm.sizes a + Sm.sizes b
  | [], b => by rw [List.nil_append, Sm.sizes, Nat.zero_add]
  | s :: r, b => by rw [List.cons_append, Sm.sizes, Sm.sizes, Sm.sizes_app r b, Nat.add_assoc]
theorem Sm.size_pos (s : Sm) : 1 ≤ s.size := by cases s <;> (rw [Sm.size]; omega)
theorem Sm.sizes_mem {s : Sm} : ∀ {b : List Sm}, s ∈ b → s.size ≤ Sm.sizes b
  | _ :: r, .head _ => by rw [Sm.sizes]; omega
  | _ :: r, .tail _ h => by have := Sm.sizes_mem h; rw [Sm.sizes]; omega
def Sm.ok : Nat → Sm → Prop
  | _, .pl s => s.ok
  | 0, .ifs _ _ _ => False
  | 0, .rep _ _ => False
  | n + 1, .ifs t y z => t.ok 2 ∧ (∀ s ∈ y, Sm.ok n s) ∧ (∀ s ∈ z, Sm.ok n s)
  | n + 1, .rep k b => 0 ≤ k ∧ k ≤ 8 ∧ ∀ s ∈ b, Sm.ok n s
theorem Sm.ok.line {n : Nat} {s : Sm} (h : s.ok n) : Sok s.line 300 := by
  have sp : Sok (" " : Str) 1 := Sok.lit (by decide +kernel)
  cases s with
  | pl s =>
    have q : s.ok := by cases n <;> exact h
    exact q.sok.mono (by omega)
  | ifs t y z =>
    cases n with
    | zero => exact h.elim
    | succ n =>
      have l : Sok ("if " : Str) 3 := Sok.lit (by decide +kernel)
      exact (l.app h.1.sok).mono (by omega)
  | rep k b =>
    cases n with
    | zero => exact h.elim
    | succ n =>
      have l : Sok ("repeat" : Str) 6 := Sok.lit (by decide +kernel)
      exact ((l.app sp).app (Sok.num k (by have := h.1; omega) (by have := h.2.1; omega))).mono (by omega)
theorem depth_tup {ds : List PyData} {n : Nat} (h : ∀ d ∈ ds, d.depth ≤ n) : (PyData.tuple ds).depth ≤ n + 1 := by
  have q : PyData.depthAll ds ≤ n := by
    induction ds with
    | nil => exact Nat.zero_le _
    | cons d r ih =>
      rw [PyData.depthAll]
      exact Nat.max_le.mpr ⟨h d (List.mem_cons_self ..), ih fun d hd => h d (List.mem_cons_of_mem _ hd)⟩
  rw [PyData.depth]
  omega
theorem lay_tup {ds : List PyData} (h : ∀ d ∈ ds, d.canLay0 = true) : (PyData.tuple ds).canLay0 = true := by
  rw [PyData.canLay0]
  induction ds with
  | nil => rfl
  | cons d r ih =>
    rw [PyData.canLayAll0, h d (List.mem_cons_self ..), ih fun d hd => h d (List.mem_cons_of_mem _ hd)]
    rfl
/-- data that may be compared -/
structure Cmp (d : PyData) (n : Nat) : Prop where
  lay : d.canLay0 = true
  dep : d.depth ≤ n
theorem Cmp.tup {ds : List PyData} {n : Nat} (h : ∀ d ∈ ds, Cmp d n) : Cmp (.tuple ds) (n + 1) :=
  ⟨lay_tup fun d hd => (h d hd).lay, depth_tup fun d hd => (h d hd).dep⟩
theorem Cmp.mono {d : PyData} {m n : Nat} (h : Cmp d m) (q : m ≤ n) : Cmp d n := ⟨h.lay, Nat.le_trans h.dep q⟩
theorem Cmp.str {x : Str} {k n : Nat} (h : Sok x k) : Cmp (.str x) n := ⟨by rw [PyData.canLay0]; exact h.ok, by rw [PyData.depth]; exact Nat.zero_le _⟩
theorem Cmp.int {i : Int} {n : Nat} : Cmp (.int i) n := ⟨by rw [PyData.canLay0], by rw [PyData.depth]; exact Nat.zero_le _⟩
theorem Cmp.nil {n : Nat} : Cmp (.tuple []) (n + 1) := Cmp.tup fun _ h => nomatch h
def Pl.word : Pl → Str
  | .set _ _ => "set"
  | .unset _ => "unset"
  | .tell _ => "tell"
  | .say _ => "say"
  | .stop _ => "stop"
theorem Pl.head {K : PySem.W.Frag} {H : Hp} {v : V} {s : Pl} (h : Dt K H v s.d) : ∃ (p : Addr) (ys : List V), v = .ref p ∧ SqT K H p ys ∧ atI ys 0 = some (.str s.word) := by
  cases s with
  | set x e =>
    obtain ⟨p, a, b, c, rfl, hT, h1, _, _⟩ := Dt.is3 h
    obtain rfl := Dt.isStr h1
    exact ⟨p, _, rfl, hT, rfl⟩
  | unset x =>
    obtain ⟨p, a, b, rfl, hT, h1, _⟩ := Dt.is2 h
    obtain rfl := Dt.isStr h1
    exact ⟨p, _, rfl, hT, rfl⟩
  | tell e =>
    obtain ⟨p, a, b, rfl, hT, h1, _⟩ := Dt.is2 h
    obtain rfl := Dt.isStr h1
    exact ⟨p, _, rfl, hT, rfl⟩
  | say x =>
    obtain ⟨p, a, b, rfl, hT, h1, _⟩ := Dt.is2 h
    obtain rfl := Dt.isStr h1
    exact ⟨p, _, rfl, hT, rfl⟩
  | stop x =>
    obtain ⟨p, a, b, rfl, hT, h1, _⟩ := Dt.is2 h
    obtain rfl := Dt.isStr h1
    exact ⟨p, _, rfl, hT, rfl⟩
end Aw
namespace Aw
open PySem PySem.Spec L2
structure Nms (H : Hp) (a : Addr) (xs : List Str) : Prop where
  h : H a = some (.lst (xs.map V.str))
  ne : 1 ≤ xs.length
  ok : ∀ x ∈ xs, Sok x 8
  len : xs.length ≤ 100
theorem Nms.kp {M : List Addr} {H H1 : Hp} {a : Addr} {xs : List Str} (h : Nms H a xs) (k : Kp M H H1) (n : a ∉ M) : Nms H1 a xs := ⟨k.get h.h n, h.ne, h.ok, h.len⟩
theorem Nms.item {H : Hp} {a : Addr} {xs : List Str} (h : Nms H a xs) {i : Nat} {x : V} (e : (xs.map V.str)[i]? = some x) : ∃ z : Str, x = .str z ∧ Sok z 8 := by
  rw [List.getElem?_map] at e
  obtain ⟨z, hz, rfl⟩ := Option.map_eq_some_iff.mp e
  exact ⟨z, rfl, h.ok z (List.mem_of_getElem? hz)⟩
def eDraws : Nat → Nat
  | 0 => 0
  | n + 1 => 3 + 2 * eDraws n
theorem eDraws_le : ∀ {m : Nat}, m ≤ 3 → eDraws m ≤ 21
  | 0, _ => by decide
  | 1, _ => by decide
  | 2, _ => by decide
  | 3, _ => by decide
/-- an expression is made -/
def spExpr (K : PySem.W.Frag) (m : Nat) : Sp := fun vs H Q _ => ∃ (d c nm : Addr) (n : Int) (xs : List Str), vs = [.ref d, .ref nm, .int m] ∧ Deck H d c n ∧ n + eDraws m < 10 ^ 12 ∧ Nms H nm xs ∧ nm ≠ d ∧ nm ≠ c ∧
  ∀ (H' : Hp) (v : V) (e : Ex) (n' : Int), Deck H' d c n' → n ≤ n' → n' ≤ n + eDraws m → Kp [d, c] H H' → Dt K H' v e.d → e.ok m → Q v H'
def spExprA (K : PySem.W.Frag) : Sp := fun vs H Q E => ∃ i : { m : Nat // 1 ≤ m ∧ m ≤ 3 }, spExpr K i.1 vs H Q E
theorem spExprA.use {K : PySem.W.Frag} {H : Hp} {Q : VK} {E : XK} {d c nm : Addr} {n m : Int} {xs : List Str} (D : Deck H d c n) (hn : n + 21 < 10 ^ 12) (N : Nms H nm xs) (n1 : nm ≠ d) (n2 : nm ≠ c) (m1 : 1 ≤ m) (m2 : m ≤ 3)
    (k : ∀ (H' : Hp) (v : V) (e : Ex) (n' : Int), Deck H' d c n' → n ≤ n' → n' ≤ n + 21 → Kp [d, c] H H' → Dt K H' v e.d → e.ok 3 → Q v H') : spExprA K [.ref d, .ref nm, .int m] H Q E := by
  have e : ((m.toNat : Nat) : Int) = m := Int.toNat_of_nonneg (by omega)
  have hE : eDraws m.toNat ≤ 21 := eDraws_le (by omega)
  refine ⟨⟨m.toNat, by omega⟩, d, c, nm, n, xs, by rw [e], D, by show n + ((eDraws m.toNat : Nat) : Int) < _; omega, N, n1, n2, fun H' v e n' D' q1 q2 k' hv he => ?_⟩
  have q2 : n' ≤ n + ((eDraws m.toNat : Nat) : Int) := q2
  exact k H' v e n' D' q1 (by omega) k' hv (Ex.ok.mono (m := m.toNat) he (by omega))
theorem Ts.ok.succ : ∀ {n : Nat} {t : Ts}, t.ok n → t.ok (n + 1)
  | n + 1, .not t, h => Ts.ok.succ (n := n) (t := t) h
  | n, .given x, h => by cases n <;> exact h
  | n, .rest e b r, h => by cases n <;> exact h
  | n, .less a b, h => by cases n <;> exact h
theorem Ts.ok.mono {m n : Nat} {t : Ts} (h : t.ok m) (q : m ≤ n) : t.ok n := by
  induction q with
  | refl => exact h
  | step _ ih => exact ih.succ
theorem Sm.ok.succ : ∀ (n : Nat) (s : Sm), s.ok n → s.ok (n + 1) := by
  intro n
  induction n with
  | zero =>
    intro s h
    cases s with
    | pl s => exact h
    | ifs t y z => exact h.elim
    | rep k b => exact h.elim
  | succ n ih =>
    intro s h
    cases s with
    | pl s => exact h
    | ifs t y z => exact ⟨h.1, fun s hs => ih s (h.2.1 s hs), fun s hs => ih s (h.2.2 s hs)⟩
    | rep k b => exact ⟨h.1, h.2.1, fun s hs => ih s (h.2.2 s hs)⟩
theorem Sm.ok.mono {m n : Nat} {s : Sm} (h : s.ok m) (q : m ≤ n) : s.ok n := by
  induction q with
  | refl => exact h
  | step _ ih => exact Sm.ok.succ _ _ ih
theorem Sok.iff {x : Str} {n : Nat} : Sok x n ↔ (∀ c ∈ x.cps.toList, c < 1114112) ∧ x.cps.toList.length ≤ n := by
  constructor
  · intro h
    have q := h.ok
    unfold PyData.strOk at q
    rw [Array.all_eq_true_iff_forall_mem] at q
    exact ⟨fun c hc => of_decide_eq_true (q c (Array.mem_def.mpr hc)), by rw [Array.length_toList]; exact h.len⟩
  · intro h
    refine ⟨?_, ?_⟩
    · unfold PyData.strOk
      rw [Array.all_eq_true_iff_forall_mem]
      exact fun c hc => decide_eq_true (h.1 c (Array.mem_def.mp hc))
    · have q := h.2
      rw [Array.length_toList] at q
      exact q
theorem joinL_ok {S : List Nat} {m s : Nat} (hS : S.length ≤ s) (h1 : ∀ c ∈ S, c < 1114112) : ∀ ps : List (List Nat), (∀ p ∈ ps, p.length ≤ m ∧ ∀ c ∈ p, c < 1114112) →
    (TL.joinL S ps).length ≤ ps.length * (m + s) ∧ ∀ c ∈ TL.joinL S ps, c < 1114112
  | [], _ => ⟨Nat.zero_le _, fun c h => (nomatch h)⟩
  | [p], h => by
    obtain ⟨a, b⟩ := h p (List.mem_cons_self ..)
    rw [TL.joinL]
    exact ⟨by rw [List.length_singleton, Nat.one_mul]; omega, b⟩
  | p :: q :: r, h => by
    obtain ⟨a, b⟩ := h p (List.mem_cons_self ..)
    obtain ⟨a2, b2⟩ := joinL_ok hS h1 (q :: r) fun p' hp' => h p' (List.mem_cons_of_mem _ hp')
    rw [TL.joinL]
    refine ⟨?_, fun c hc => ?_⟩
    · rw [List.length_append, List.length_append, List.length_cons, Nat.add_mul, Nat.one_mul]
      omega
    · rcases List.mem_append.mp hc with hc | hc
      · exact b c hc
      · rcases List.mem_append.mp hc with hc | hc
        · exact h1 c hc
        · exact b2 c hc
theorem Sok.join {sep : Str} {ys : List Str} {m s : Nat} (hs : Sok sep s) (h : ∀ y ∈ ys, Sok y m) : Sok (Txt.join sep ys) (ys.length * (m + s)) := by
  rw [Sok.iff] at *
  rw [TL.join_eq]
  have e : (Str.join sep ys).cps.toList = TL.joinL sep.cps.toList (ys.map fun y => y.cps.toList) := TL.tl_join sep ys
  rw [e]
  obtain ⟨a, b⟩ := joinL_ok (m := m) hs.2 hs.1 (ys.map fun y => y.cps.toList) fun p hp => by
    obtain ⟨y, hy, rfl⟩ := List.mem_map.mp hp
    have q := Sok.iff.mp (h y hy)
    exact ⟨q.2, q.1⟩
  rw [List.length_map] at a
  exact ⟨b, a⟩
end Aw
namespace Aw
open PySem PySem.Spec L2
def LETT : Str := "abcdefghijklmnopqrstuvwxyz"
def SGN : Str := "abcdefghijklmnopqrstuvwxyz0123456789"
def KEPTS : List Str := ["unset", "tell", "say", "stop", "if", "else", "repeat", "pass", "rest", "of", "set", "not", "program"]
def isSgn (c : Nat) : Bool := decide (c ∈ SGN.cps.toList)
def isLet (c : Nat) : Bool := decide (c ∈ LETT.cps.toList)
def isWordS (x : Str) : Bool := decide (1 ≤ x.length) && decide (x.length ≤ 8) && !decide (x = "unsure") && x.cps.toList.all isSgn
def isNameS (x : Str) : Bool := decide (1 ≤ x.length) && decide (x.length ≤ 8) && isLet (x.cps.toList.headD 0) && x.cps.toList.all isSgn && !KEPTS.contains x
theorem inV_strs (x : Str) : ∀ ys : List Str, inV (.str x) (ys.map V.str) = ys.contains x
  | [] => rfl
  | y :: r => by
    have q := inV_strs x r
    unfold inV at q ⊢
    rw [List.map_cons, List.any_cons, q, List.contains_cons]
    congr 1
    show decide (y = x) = decide (x = y)
    exact decide_eq_decide.mpr ⟨Eq.symm, Eq.symm⟩
theorem filter_all {α : Type} (f : α → Bool) : ∀ l : List α, (l.filter fun c => !f c).isEmpty = l.all f
  | [] => rfl
  | c :: r => by
    cases h : f c with
    | true => rw [List.filter_cons_of_neg (by rw [h]; decide), List.all_cons, h, Bool.true_and]; exact filter_all f r
    | false => rw [List.filter_cons_of_pos (by rw [h]; decide), List.all_cons, h, Bool.false_and]; rfl
def isWord : PyData → Bool
  | .str x => isWordS x
  | _ => false
def isName : PyData → Bool
  | .str x => isNameS x
  | _ => false
def isWhole (lo hi : Int) : PyData → Bool
  | .int i => decide (lo ≤ i) && decide (i ≤ hi)
  | _ => false
def isExprL (f : PyData → Bool) : List PyData → Bool
  | [.str w, a, b] => f b && (if w = "times" then isWhole (-9) 9 a else (decide (w = "plus") || decide (w = "minus")) && f a)
  | _ => false
def isExprW (f : PyData → Bool) : PyData → Bool
  | .tuple ds => isExprL f ds
  | d => isName d || isWhole (-99) 99 d
def isExpr : Nat → PyData → Bool
  | 0 => fun _ => false
  | n + 1 => isExprW (isExpr n)
theorem isStr_of {a : PyData} (h : isaD a "str" = true) : ∃ x, a = .str x := by
  cases a <;> first | exact ⟨_, rfl⟩ | (exfalso; revert h; simp [isaD, tyD]; done)
theorem inV_two (x a b : Str) : inV (.str x) [.str a, .str b] = (decide (x = a) || decide (x = b)) := by
  have q := inV_strs x [a, b]
  rw [show [a, b].map V.str = [.str a, .str b] from rfl] at q
  rw [q]
  by_cases h1 : x = a <;> by_cases h2 : x = b <;> simp [h1, h2]
theorem isExprL_len {f : PyData → Bool} {ds : List PyData} (h : ds.length ≠ 3) : isExprL f ds = false := by
  unfold isExprL
  split
  · exact absurd rfl h
  · rfl
theorem isExprL_str {f : PyData → Bool} {a b c : PyData} (h : isaD a "str" = false) : isExprL f [a, b, c] = false := by
  cases a <;> first | rfl | (exfalso; revert h; simp [isaD, tyD]; done)
def isRestL : List PyData → Bool
  | [_, a, .int b, c] => isExpr 3 a && isWhole 2 6 (.int b) && isWhole 0 (b - 1) c
  | _ => false
theorem isRestL_len {ds : List PyData} (h : ds.length ≠ 4) : isRestL ds = false := by
  unfold isRestL
  split
  · exact absurd rfl h
  · rfl
theorem isRestL4 (x a b c : PyData) : isRestL [x, a, b, c] = (isExpr 3 a && (isWhole 2 6 b && (match b with | .int i => isWhole 0 (i - 1) c | _ => false))) := by
  cases b with
  | int i => rw [isRestL, Bool.and_assoc]
  | _ => simp [isRestL, isWhole]
def two (f : PyData → PyData → Bool) : List PyData → Bool
  | [a, b] => f a b
  | _ => false
def one (f : PyData → Bool) : List PyData → Bool
  | [a] => f a
  | _ => false
theorem two_len {f : PyData → PyData → Bool} {r : List PyData} (h : r.length ≠ 2) : two f r = false := by
  unfold two
  split
  · exact absurd rfl h
  · rfl
theorem one_len {f : PyData → Bool} {r : List PyData} (h : r.length ≠ 1) : one f r = false := by
  unfold one
  split
  · exact absurd rfl h
  · rfl
def isTestL (f : PyData → Bool) (w : Str) (r : List PyData) : Bool :=
  if w = "less" then two (fun a b => isExpr 3 a && isExpr 3 b) r
  else if w = "rest" then isRestL (.str w :: r)
  else if w = "given" then one isName r
  else if w = "not" then one f r
  else false
def isTestW (f : PyData → Bool) : PyData → Bool
  | .tuple (.str w :: r) => isTestL f w r
  | _ => false
def isTest : Nat → PyData → Bool
  | 0 => isTestW fun _ => false
  | n + 1 => isTestW (isTest n)
theorem isTest_F (n : Nat) (d : PyData) : ∃ F : PyData → Bool, isTest n d = isTestW F d ∧ ((n = 0 ∧ F = fun _ => false) ∨ ∃ m, n = m + 1 ∧ F = isTest m) := by
  cases n with
  | zero => exact ⟨_, rfl, .inl ⟨rfl, rfl⟩⟩
  | succ m => exact ⟨_, rfl, .inr ⟨m, rfl, rfl⟩⟩
theorem isTestW_str {f : PyData → Bool} {a : PyData} {r : List PyData} (h : isaD a "str" = false) : isTestW f (.tuple (a :: r)) = false := by
  cases a <;> first | rfl | (exfalso; revert h; simp [isaD, tyD]; done)
def isPlainL (w : Str) (r : List PyData) : Bool :=
  if w = "set" then two (fun a b => isName a && isExpr 3 b) r
  else if w = "unset" then one isName r
  else if w = "tell" then one (isExpr 3) r
  else if w = "say" ∨ w = "stop" then one isWord r
  else false
def isTupD : PyData → Bool
  | .tuple _ => true
  | _ => false
theorem isa_tup (d : PyData) : isaD d "tuple" = isTupD d := by
  cases d <;> simp [isaD, tyD, isTupD]
def three (f : PyData → PyData → PyData → Bool) : List PyData → Bool
  | [a, b, c] => f a b c
  | _ => false
theorem three_len {f : PyData → PyData → PyData → Bool} {r : List PyData} (h : r.length ≠ 3) : three f r = false := by
  unfold three
  split
  · exact absurd rfl h
  · rfl
theorem two_view {f : PyData → PyData → Bool} {r : List PyData} (h : two f r = true) : ∃ a b, r = [a, b] ∧ f a b = true := by
  unfold two at h
  split at h
  · exact ⟨_, _, rfl, h⟩
  · cases h
theorem one_view {f : PyData → Bool} {r : List PyData} (h : one f r = true) : ∃ a, r = [a] ∧ f a = true := by
  unfold one at h
  split at h
  · exact ⟨_, rfl, h⟩
  · cases h
theorem three_view {f : PyData → PyData → PyData → Bool} {r : List PyData} (h : three f r = true) : ∃ a b c, r = [a, b, c] ∧ f a b c = true := by
  unfold three at h
  split at h
  · exact ⟨_, _, _, rfl, h⟩
  · cases h
def isStmtL (w : Str) (r : List PyData) : Bool :=
  if w = "if" then three (fun t y z => isTest 2 t && (isTupD y && isTupD z)) r
  else if w = "repeat" then two (fun k b => isWhole 0 8 k && isTupD b) r
  else isPlainL w r
def isStmt : PyData → Bool
  | .tuple (.str w :: r) => isStmtL w r
  | _ => false
theorem isStmt_str {a : PyData} {r : List PyData} (h : isaD a "str" = false) : isStmt (.tuple (a :: r)) = false := by
  cases a <;> first | rfl | (exfalso; revert h; simp [isaD, tyD]; done)
mutual
def dsz : PyData → Nat
  | .none => 1
  | .bool _ => 1
  | .int _ => 1
  | .str x => 1 + x.length
  | .list ds => 1 + dszs ds
  | .tuple ds => 1 + dszs ds
  | .dict _ => 1
def dszs : List PyData → Nat
  | [] => 0
  | d :: r => dsz d + dszs r
end
theorem dsz_pos (d : PyData) : 1 ≤ dsz d := by cases d <;> (rw [dsz]; try omega)
theorem dszs_app : ∀ a b : List PyData, dszs (a ++ b) = dszs a + dszs b
  | [], b => by rw [List.nil_append, dszs, Nat.zero_add]
  | s :: r, b => by rw [List.cons_append, dszs, dszs, dszs_app r b, Nat.add_assoc]
theorem dszs_len : ∀ b : List PyData, b.length ≤ dszs b
  | [] => Nat.zero_le _
  | d :: r => by have := dszs_len r; have := dsz_pos d; rw [dszs, List.length_cons]; omega
def tupOf : PyData → List PyData
  | .tuple ds => ds
  | _ => []
/-- the blocks of a statement -/
def blks : PyData → List (List PyData)
  | .tuple (.str w :: r) => if w = "if" then (match r with
      | [_, y, z] => [tupOf y, tupOf z]
      | _ => [])
    else if w = "repeat" then (match r with
      | [_, b] => [tupOf b]
      | _ => [])
    else []
  | _ => []
def inner (d : PyData) : List PyData := (blks d).flatten
theorem dsz_tupOf (d : PyData) : dszs (tupOf d) + 1 ≤ dsz d := by
  cases d <;> simp [tupOf, dsz, dszs]; omega
theorem inner_size (d : PyData) : dszs (inner d) + 1 ≤ dsz d := by
  have h0 := dsz_pos d
  unfold inner
  unfold blks
  split
  · rename_i w r
    split
    · split
      · rename_i t y z
        have a := dsz_tupOf y
        have b := dsz_tupOf z
        have c := dsz_pos t
        simp only [List.flatten_cons, List.flatten_nil, List.append_nil, dszs_app, dsz, dszs]
        omega
      · rw [List.flatten_nil, dszs]
        omega
    · split
      · split
        · rename_i t b
          have a := dsz_tupOf b
          simp only [List.flatten_cons, List.flatten_nil, List.append_nil, dszs_app, dsz, dszs]
          omega
        · rw [List.flatten_nil, dszs]
          omega
      · rw [List.flatten_nil, dszs]
        omega
  · rw [List.flatten_nil, dszs]
    omega
/-- the stack, its top first -/
def ordLoop : Nat → List (Nat × PyData) → Nat → Option (Nat × Str)
  | _, [], _ => none
  | 0, _ :: _, _ => none
  | f + 1, (dep, d) :: st, pl => if dep > 3 then some (pl, "nest") else if isStmt d = false then some (pl, "statement")
      else ordLoop f ((inner d).map (fun e => (dep + 1, e)) ++ st) (pl + 1)
def stSize (st : List (Nat × PyData)) : Nat := dszs (st.map (·.2))
theorem stSize_cons (n : Nat) (d : PyData) (st : List (Nat × PyData)) : stSize ((n, d) :: st) = dsz d + stSize st := by
  unfold stSize
  rw [List.map_cons, dszs]
theorem stSize_app (a b : List (Nat × PyData)) : stSize (a ++ b) = stSize a + stSize b := by
  unfold stSize
  rw [List.map_append, dszs_app]
theorem stSize_map (n : Nat) (ds : List PyData) : stSize (ds.map fun e => (n, e)) = dszs ds := by
  unfold stSize
  rw [List.map_map]
  have e : ((·.2) ∘ fun e : PyData => (n, e)) = id := rfl
  rw [e, List.map_id]
theorem ordLoop_fuel : ∀ (f g : Nat) (st : List (Nat × PyData)) (pl : Nat), stSize st ≤ f → stSize st ≤ g → ordLoop f st pl = ordLoop g st pl := by
  intro f
  induction f with
  | zero =>
    intro g st pl h1 h2
    cases st with
    | nil => cases g <;> rfl
    | cons p st =>
      obtain ⟨n, d⟩ := p
      rw [stSize_cons] at h1
      have := dsz_pos d
      omega
  | succ f ih =>
    intro g st pl h1 h2
    cases st with
    | nil => cases g <;> rfl
    | cons p st =>
      obtain ⟨n, d⟩ := p
      rw [stSize_cons] at h1 h2
      have := dsz_pos d
      have hi := inner_size d
      cases g with
      | zero => omega
      | succ g =>
        rw [ordLoop, ordLoop, ih g _ _ (by rw [stSize_app, stSize_map]; omega) (by rw [stSize_app, stSize_map]; omega)]
def ordErr (ds : List PyData) : Option (Nat × Str) := ordLoop (dszs ds) (ds.map fun e => (0, e)) 0
def Ex.vd : Nat → Ex → Prop
  | 0, _ => False
  | _ + 1, .int i => -99 ≤ i ∧ i ≤ 99
  | _ + 1, .name x => isNameS x = true
  | n + 1, .bin o a b => b.vd n ∧ ((o = "times" ∧ ∃ i : Int, a = .int i ∧ -9 ≤ i ∧ i ≤ 9) ∨ ((o = "plus" ∨ o = "minus") ∧ a.vd n))
def Ts.vd : Nat → Ts → Prop
  | 0, .not _ => False
  | n + 1, .not t => t.vd n
  | _, .given x => isNameS x = true
  | _, .rest e b r => e.vd 3 ∧ 2 ≤ b ∧ b ≤ 6 ∧ 0 ≤ r ∧ r ≤ b - 1
  | _, .less a b => a.vd 3 ∧ b.vd 3
def Pl.vd : Pl → Prop
  | .set x e => isNameS x = true ∧ e.vd 3
  | .unset x => isNameS x = true
  | .tell e => e.vd 3
  | .say w => isWordS w = true
  | .stop w => isWordS w = true
def Sm.vd : Nat → Sm → Prop
  | _, .pl s => s.vd
  | 0, .ifs t y z => t.vd 2 ∧ y = [] ∧ z = []
  | 0, .rep k b => 0 ≤ k ∧ k ≤ 8 ∧ b = []
  | n + 1, .ifs t y z => t.vd 2 ∧ (∀ s ∈ y, Sm.vd n s) ∧ (∀ s ∈ z, Sm.vd n s)
  | n + 1, .rep k b => 0 ≤ k ∧ k ≤ 8 ∧ ∀ s ∈ b, Sm.vd n s
theorem name_view {d : PyData} (h : isName d = true) : ∃ x, d = .str x ∧ isNameS x = true := by
  unfold isName at h
  split at h
  · exact ⟨_, rfl, h⟩
  · cases h
theorem word_view {d : PyData} (h : isWord d = true) : ∃ x, d = .str x ∧ isWordS x = true := by
  unfold isWord at h
  split at h
  · exact ⟨_, rfl, h⟩
  · cases h
theorem whole_view {d : PyData} {lo hi : Int} (h : isWhole lo hi d = true) : ∃ i, d = .int i ∧ lo ≤ i ∧ i ≤ hi := by
  unfold isWhole at h
  split at h
  · simp only [Bool.and_eq_true, decide_eq_true_eq] at h
    exact ⟨_, rfl, h.1, h.2⟩
  · cases h
theorem tup_view {d : PyData} (h : isTupD d = true) : ∃ ds, d = .tuple ds := by
  unfold isTupD at h
  split at h
  · exact ⟨_, rfl⟩
  · cases h
theorem expr_view : ∀ {n : Nat} {d : PyData}, isExpr n d = true → ∃ e : Ex, d = e.d ∧ e.vd n := by
  intro n
  induction n with
  | zero =>
    intro d h
    rw [isExpr] at h
    cases h
  | succ n ih =>
    intro d h
    rw [isExpr] at h
    unfold isExprW at h
    split at h
    · unfold isExprL at h
      split at h
      · rename_i w a b
        rw [Bool.and_eq_true] at h
        obtain ⟨h1, h2⟩ := h
        obtain ⟨eb, rfl, vb⟩ := ih h1
        split at h2
        · rename_i hw
          subst hw
          unfold isWhole at h2
          split at h2
          · rename_i i
            simp only [Bool.and_eq_true, decide_eq_true_eq] at h2
            exact ⟨.bin "times" (.int i) eb, rfl, vb, .inl ⟨rfl, i, rfl, h2.1, h2.2⟩⟩
          · cases h2
        · simp only [Bool.and_eq_true, Bool.or_eq_true, decide_eq_true_eq] at h2
          obtain ⟨h2, h3⟩ := h2
          obtain ⟨ea, rfl, va⟩ := ih h3
          exact ⟨.bin w ea eb, rfl, vb, .inr ⟨h2, va⟩⟩
      · cases h
    · rw [Bool.or_eq_true] at h
      rcases h with h | h
      · obtain ⟨x, rfl, hx⟩ := name_view h
        exact ⟨.name x, rfl, hx⟩
      · obtain ⟨i, rfl, h1, h2⟩ := whole_view h
        exact ⟨.int i, rfl, h1, h2⟩
theorem testL_view {f : PyData → Bool} {w : Str} {r : List PyData} (h : isTestL f w r = true) :
    (∃ a b : Ex, w = "less" ∧ r = [a.d, b.d] ∧ a.vd 3 ∧ b.vd 3) ∨ (∃ (e : Ex) (b c : Int), w = "rest" ∧ r = [e.d, .int b, .int c] ∧ e.vd 3 ∧ 2 ≤ b ∧ b ≤ 6 ∧ 0 ≤ c ∧ c ≤ b - 1) ∨
    (∃ x, w = "given" ∧ r = [.str x] ∧ isNameS x = true) ∨ (∃ a, w = "not" ∧ r = [a] ∧ f a = true) := by
  unfold isTestL at h
  split at h
  · rename_i hw
    obtain ⟨a, b, rfl, hh⟩ := two_view h
    clear h
    have h := hh
    rw [Bool.and_eq_true] at h
    obtain ⟨a, rfl, va⟩ := expr_view h.1
    obtain ⟨b, rfl, vb⟩ := expr_view h.2
    exact .inl ⟨a, b, hw, rfl, va, vb⟩
  split at h
  · rename_i hw
    unfold isRestL at h
    split at h
    · rename_i hr
      cases hr
      simp only [Bool.and_eq_true] at h
      obtain ⟨⟨h1, h2⟩, h3⟩ := h
      obtain ⟨e, rfl, ve⟩ := expr_view h1
      obtain ⟨i, hi, b1, b2⟩ := whole_view h2
      cases hi
      obtain ⟨j, rfl, c1, c2⟩ := whole_view h3
      exact .inr (.inl ⟨e, _, j, hw, rfl, ve, b1, b2, c1, c2⟩)
    · cases h
  split at h
  · rename_i hw
    obtain ⟨a, rfl, hh⟩ := one_view h
    clear h
    have h := hh
    obtain ⟨x, rfl, hx⟩ := name_view h
    exact .inr (.inr (.inl ⟨x, hw, rfl, hx⟩))
  split at h
  · rename_i hw
    obtain ⟨a, rfl, hh⟩ := one_view h
    clear h
    have h := hh
    exact .inr (.inr (.inr ⟨_, hw, rfl, h⟩))
  · cases h
theorem testW_view {n : Nat} {f : PyData → Bool} {d : PyData} (hf : ∀ a, f a = true → ∃ t : Ts, a = t.d ∧ (Ts.not t).vd n) (h : isTestW f d = true) : ∃ t : Ts, d = t.d ∧ t.vd n := by
  unfold isTestW at h
  split at h
  · rcases testL_view h with ⟨a, b, rfl, rfl, va, vb⟩ | ⟨e, b, c, rfl, rfl, q⟩ | ⟨x, rfl, rfl, q⟩ | ⟨a, rfl, rfl, q⟩
    · exact ⟨.less a b, rfl, by cases n <;> exact ⟨va, vb⟩⟩
    · exact ⟨.rest e b c, rfl, by cases n <;> exact q⟩
    · exact ⟨.given x, rfl, by cases n <;> exact q⟩
    · obtain ⟨t, rfl, ht⟩ := hf a q
      exact ⟨.not t, rfl, ht⟩
  · cases h
theorem test_view : ∀ {n : Nat} {d : PyData}, isTest n d = true → ∃ t : Ts, d = t.d ∧ t.vd n
  | 0, d, h => testW_view (fun a q => by cases q) h
  | n + 1, d, h => testW_view (fun a q => test_view (n := n) q) h
theorem plain_view {w : Str} {r : List PyData} (h : isPlainL w r = true) : ∃ p : Pl, .tuple (.str w :: r) = p.d ∧ p.vd := by
  unfold isPlainL at h
  split at h
  · rename_i hw
    subst hw
    obtain ⟨a, b, rfl, hh⟩ := two_view h
    clear h
    have h := hh
    rw [Bool.and_eq_true] at h
    obtain ⟨x, rfl, hx⟩ := name_view h.1
    obtain ⟨e, rfl, he⟩ := expr_view h.2
    exact ⟨.set x e, rfl, hx, he⟩
  split at h
  · rename_i hw
    subst hw
    obtain ⟨a, rfl, hh⟩ := one_view h
    clear h
    have h := hh
    obtain ⟨x, rfl, hx⟩ := name_view h
    exact ⟨.unset x, rfl, hx⟩
  split at h
  · rename_i hw
    subst hw
    obtain ⟨a, rfl, hh⟩ := one_view h
    clear h
    have h := hh
    obtain ⟨e, rfl, he⟩ := expr_view h
    exact ⟨.tell e, rfl, he⟩
  split at h
  · rename_i hw
    obtain ⟨a, rfl, hh⟩ := one_view h
    clear h
    have h := hh
    obtain ⟨x, rfl, hx⟩ := word_view h
    rcases hw with rfl | rfl
    · exact ⟨.say x, rfl, hx⟩
    · exact ⟨.stop x, rfl, hx⟩
  · cases h
theorem Pl.hd (p : Pl) : ∃ u r, p.d = .tuple (.str u :: r) ∧ u ≠ "if" ∧ u ≠ "repeat" := by
  cases p <;> exact ⟨_, _, rfl, by decide +kernel, by decide +kernel⟩
/-- what a statement is -/
theorem stmt_view {d : PyData} (h : isStmt d = true) : (∃ p : Pl, d = p.d ∧ p.vd ∧ blks d = []) ∨ (∃ (t : Ts) (y z : List PyData), d = .tuple [.str "if", t.d, .tuple y, .tuple z] ∧ t.vd 2 ∧ blks d = [y, z]) ∨
    (∃ (k : Int) (b : List PyData), d = .tuple [.str "repeat", .int k, .tuple b] ∧ 0 ≤ k ∧ k ≤ 8 ∧ blks d = [b]) := by
  unfold isStmt at h
  split at h
  · unfold isStmtL at h
    split at h
    · rename_i hw
      subst hw
      obtain ⟨a, b, c, rfl, hh⟩ := three_view h
      clear h
      have h := hh
      simp only [Bool.and_eq_true] at h
      obtain ⟨t, rfl, ht⟩ := test_view h.1
      obtain ⟨y, rfl⟩ := tup_view h.2.1
      obtain ⟨z, rfl⟩ := tup_view h.2.2
      exact .inr (.inl ⟨t, y, z, rfl, ht, rfl⟩)
    split at h
    · rename_i hw
      subst hw
      obtain ⟨a, b, rfl, hh⟩ := two_view h
      clear h
      have h := hh
      simp only [Bool.and_eq_true] at h
      obtain ⟨k, rfl, k1, k2⟩ := whole_view h.1
      obtain ⟨b, rfl⟩ := tup_view h.2
      exact .inr (.inr ⟨k, b, rfl, k1, k2, rfl⟩)
    · rename_i w r n1 n2
      obtain ⟨p, e, hp⟩ := plain_view h
      refine .inl ⟨p, e, hp, ?_⟩
      unfold blks
      simp only [if_neg n1, if_neg n2]
  · cases h
theorem trees_of {n : Nat} : ∀ {ds : List PyData}, (∀ d ∈ ds, ∃ s : Sm, d = s.d ∧ s.vd n) → ∃ b : List Sm, ds = Sm.ds b ∧ ∀ s ∈ b, Sm.vd n s
  | [], _ => ⟨[], by rw [Sm.ds], fun _ h => nomatch h⟩
  | d :: r, h => by
    obtain ⟨s, rfl, hs⟩ := h d (List.mem_cons_self ..)
    obtain ⟨b, rfl, hb⟩ := trees_of fun d hd => h d (List.mem_cons_of_mem _ hd)
    refine ⟨s :: b, by rw [Sm.ds], fun z hz => ?_⟩
    rcases List.mem_cons.mp hz with rfl | hz
    · exact hs
    · exact hb z hz
theorem ordLoop_view : ∀ (f : Nat) (st : List (Nat × PyData)) (pl : Nat), stSize st ≤ f → ordLoop f st pl = none → ∀ p ∈ st, p.1 ≤ 3 ∧ ∃ s : Sm, p.2 = s.d ∧ s.vd (3 - p.1) := by
  intro f
  induction f with
  | zero =>
    intro st pl h _ p hp
    cases st with
    | nil => cases hp
    | cons q st =>
      obtain ⟨n, d⟩ := q
      rw [stSize_cons] at h
      have := dsz_pos d
      omega
  | succ f ih =>
    intro st pl h e p hp
    cases st with
    | nil => cases hp
    | cons q st =>
      obtain ⟨n, d⟩ := q
      rw [stSize_cons] at h
      have hz := dsz_pos d
      have hi := inner_size d
      rw [ordLoop] at e
      split at e
      · cases e
      rename_i hn
      split at e
      · cases e
      rename_i hs
      have IH := ih _ _ (by rw [stSize_app, stSize_map]; omega) e
      rcases List.mem_cons.mp hp with rfl | hp
      · refine ⟨by omega, ?_⟩
        have kids : ∀ b ∈ blks d, (n = 3 → b = []) ∧ ∃ c : List Sm, b = Sm.ds c ∧ ∀ s ∈ c, Sm.vd (3 - (n + 1)) s := by
          intro b hb
          have hall : ∀ x ∈ b, n + 1 ≤ 3 ∧ ∃ s : Sm, x = s.d ∧ s.vd (3 - (n + 1)) := fun x hx =>
            IH (n + 1, x) (List.mem_append_left _ (List.mem_map.mpr ⟨x, List.mem_flatten.mpr ⟨b, hb, hx⟩, rfl⟩))
          refine ⟨fun h3 => ?_, trees_of fun x hx => (hall x hx).2⟩
          cases b with
          | nil => rfl
          | cons x r =>
            have := (hall x (List.mem_cons_self ..)).1
            omega
        have hs : isStmt d = true := by
          cases hq : isStmt d with
          | true => rfl
          | false => exact absurd hq hs
        have hn3 : n ≤ 3 := by omega
        rcases stmt_view hs with ⟨p, rfl, hp, _⟩ | ⟨t, y, z, rfl, ht, hb⟩ | ⟨k, b, rfl, k1, k2, hb⟩
        · exact ⟨.pl p, by rw [Sm.d], by cases (3 - n) <;> exact hp⟩
        · rw [hb] at kids
          obtain ⟨y3, cy, rfl, vy⟩ := kids y (by simp)
          obtain ⟨z3, cz, rfl, vz⟩ := kids z (by simp)
          refine ⟨.ifs t cy cz, by rw [Sm.d], ?_⟩
          by_cases h3 : n = 3
          · subst h3
            refine ⟨ht, ?_, ?_⟩
            · have q := y3 rfl
              cases cy with
              | nil => rfl
              | cons _ _ => rw [Sm.ds] at q; cases q
            · have q := z3 rfl
              cases cz with
              | nil => rfl
              | cons _ _ => rw [Sm.ds] at q; cases q
          · obtain ⟨m, hm⟩ : ∃ m, 3 - n = m + 1 := ⟨2 - n, by omega⟩
            have hm2 : 3 - (n + 1) = m := by omega
            rw [hm2] at vy vz
            rw [hm]
            exact ⟨ht, vy, vz⟩
        · rw [hb] at kids
          obtain ⟨y3, cy, rfl, vy⟩ := kids b (by simp)
          refine ⟨.rep k cy, by rw [Sm.d], ?_⟩
          by_cases h3 : n = 3
          · subst h3
            refine ⟨k1, k2, ?_⟩
            have q := y3 rfl
            cases cy with
            | nil => rfl
            | cons _ _ => rw [Sm.ds] at q; cases q
          · obtain ⟨m, hm⟩ : ∃ m, 3 - n = m + 1 := ⟨2 - n, by omega⟩
            have hm2 : 3 - (n + 1) = m := by omega
            rw [hm2] at vy
            rw [hm]
            exact ⟨k1, k2, vy⟩
      · exact IH p (List.mem_append_right _ hp)
theorem ordErr_view {ds : List PyData} (h : ordErr ds = none) : ∃ b : List Sm, ds = Sm.ds b ∧ ∀ s ∈ b, Sm.vd 3 s :=
  trees_of fun d hd => (ordLoop_view _ _ 0 (by rw [stSize_map]; exact Nat.le_refl _) h (0, d) (List.mem_map.mpr ⟨d, hd, rfl⟩)).2
structure DwL (M : List Addr) (K : PySem.W.Frag) (H : Hp) (vs : List V) (ds : List PyData) : Prop where
  len : vs.length = ds.length
  all : ∀ (i : Nat) (v : V) (d : PyData), vs[i]? = some v → ds[i]? = some d → Dw M K H v d
structure Stk (M : List Addr) (K : PySem.W.Frag) (H : Hp) (vs : List V) (st : List (Nat × PyData)) : Prop where
  len : vs.length = st.length
  all : ∀ (i : Nat) (v : V) (p : Nat × PyData), vs[i]? = some v → st[i]? = some p → ∃ (a : Addr) (y : V), v = .ref a ∧ H a = some (.tup [.int p.1, y]) ∧ Dw M K H y p.2
section
variable {M : List Addr} {K : PySem.W.Frag} {H H1 : Hp} {v : V} {vs us : List V} {d : PyData} {ds es : List PyData} {st tt : List (Nat × PyData)} {p : Nat × PyData}
theorem Dw.fresh {l : Addr} (h : Dw M K H v d) (n : H l = none) : Dw (l :: M) K H v d := by
  induction h with
  | non => exact .non
  | bl b => exact .bl b
  | int i => exact .int i
  | str x => exact .str x
  | tup s l _ ih => exact .tup s l ih
  | lst e k l _ ih =>
    refine .lst e (fun m => ?_) l ih
    rcases List.mem_cons.mp m with z | z
    · rw [z, n] at e; cases e
    · exact k z
  | dct e k l q _ ih =>
    refine .dct e (fun m => ?_) l q ih
    rcases List.mem_cons.mp m with z | z
    · rw [z, n] at e; cases e
    · exact k z
theorem Dw.items {ds : List PyData} (h : Dw M K H v (.tuple ds)) : ∃ (a : Addr) (xs : List V), v = .ref a ∧ SqT K H a xs ∧ DwL M K H xs ds := by
  obtain ⟨a, xs, e, s, l, q⟩ := h.isTup
  exact ⟨a, xs, e, s, l, q⟩
theorem DwL.kp (h : DwL M K H vs ds) (k : Kp M H H1) : DwL M K H1 vs ds := ⟨h.len, fun i v d e e' => (h.all i v d e e').kp k⟩
theorem DwL.kp0 (h : DwL M K H vs ds) (k : Kp [] H H1) : DwL M K H1 vs ds := ⟨h.len, fun i v d e e' => (h.all i v d e e').kp0 k⟩
theorem DwL.nil : DwL M K H [] [] := ⟨rfl, fun i v d e => by simp at e⟩
theorem DwL.cons (hv : Dw M K H v d) (h : DwL M K H vs ds) : DwL M K H (v :: vs) (d :: ds) := by
  refine ⟨by rw [List.length_cons, List.length_cons, h.len], fun i u e q q' => ?_⟩
  cases i with
  | zero =>
    cases q
    cases q'
    exact hv
  | succ i => exact h.all i u e (by simpa using q) (by simpa using q')
theorem DwL.inv (h : DwL M K H vs (d :: ds)) : ∃ v r, vs = v :: r ∧ Dw M K H v d ∧ DwL M K H r ds := by
  cases vs with
  | nil => have := h.len; simp at this
  | cons v r => exact ⟨v, r, rfl, h.all 0 v d rfl rfl, by have := h.len; simpa using this, fun i u e q q' => h.all (i + 1) u e (by simpa using q) (by simpa using q')⟩
theorem DwL.inv0 (h : DwL M K H vs []) : vs = [] := List.length_eq_zero_iff.mp h.len
theorem DwL.get {i : Nat} (h : DwL M K H vs ds) (e : vs[i]? = some v) : ∃ d, ds[i]? = some d ∧ Dw M K H v d := by
  have hi := (List.getElem?_eq_some_iff.mp e).1
  have hj : i < ds.length := by rw [← h.len]; exact hi
  exact ⟨ds[i], List.getElem?_eq_getElem hj, h.all i v _ e (List.getElem?_eq_getElem hj)⟩
theorem DwL.is1 (h : DwL M K H vs ds) (e : vs.length = 1) : ∃ (x : V) (a : PyData), vs = [x] ∧ ds = [a] ∧ Dw M K H x a := by
  have e2 := h.len
  match vs, ds, e, e2, h with
  | [x], [a], _, _, h => exact ⟨x, a, rfl, rfl, h.all 0 x a rfl rfl⟩
theorem DwL.is2 (h : DwL M K H vs ds) (e : vs.length = 2) : ∃ (x y : V) (a b : PyData), vs = [x, y] ∧ ds = [a, b] ∧ Dw M K H x a ∧ Dw M K H y b := by
  have e2 := h.len
  match vs, ds, e, e2, h with
  | [x, y], [a, b], _, _, h => exact ⟨x, y, a, b, rfl, rfl, h.all 0 x a rfl rfl, h.all 1 y b rfl rfl⟩
theorem DwL.is3 (h : DwL M K H vs ds) (e : vs.length = 3) : ∃ (x y z : V) (a b c : PyData), vs = [x, y, z] ∧ ds = [a, b, c] ∧ Dw M K H x a ∧ Dw M K H y b ∧ Dw M K H z c := by
  have e2 := h.len
  match vs, ds, e, e2, h with
  | [x, y, z], [a, b, c], _, _, h => exact ⟨x, y, z, a, b, c, rfl, rfl, h.all 0 x a rfl rfl, h.all 1 y b rfl rfl, h.all 2 z c rfl rfl⟩
theorem DwL.is4 (h : DwL M K H vs ds) (e : vs.length = 4) : ∃ (x y z u : V) (a b c d : PyData), vs = [x, y, z, u] ∧ ds = [a, b, c, d] ∧ Dw M K H x a ∧ Dw M K H y b ∧ Dw M K H z c ∧ Dw M K H u d := by
  have e2 := h.len
  match vs, ds, e, e2, h with
  | [x, y, z, u], [a, b, c, d], _, _, h => exact ⟨x, y, z, u, a, b, c, d, rfl, rfl, h.all 0 x a rfl rfl, h.all 1 y b rfl rfl, h.all 2 z c rfl rfl, h.all 3 u d rfl rfl⟩
theorem Stk.kp (h : Stk M K H vs st) (k : Kp M H H1) : Stk M K H1 vs st := ⟨h.len, fun i v p e e' => by
  obtain ⟨a, y, q1, q2, q3⟩ := h.all i v p e e'
  exact ⟨a, y, q1, k.tup q2, q3.kp k⟩⟩
theorem Stk.kp0 (h : Stk M K H vs st) (k : Kp [] H H1) : Stk M K H1 vs st := ⟨h.len, fun i v p e e' => by
  obtain ⟨a, y, q1, q2, q3⟩ := h.all i v p e e'
  exact ⟨a, y, q1, k.tup q2, q3.kp0 k⟩⟩
theorem Stk.fresh {l : Addr} (h : Stk M K H vs st) (n : H l = none) : Stk (l :: M) K H vs st := ⟨h.len, fun i v p e e' => by
  obtain ⟨a, y, q1, q2, q3⟩ := h.all i v p e e'
  exact ⟨a, y, q1, q2, q3.fresh n⟩⟩
theorem Stk.nil : Stk M K H [] [] := ⟨rfl, fun i v d e => by simp at e⟩
theorem Stk.app (h : Stk M K H vs st) (h2 : Stk M K H us tt) : Stk M K H (vs ++ us) (st ++ tt) := by
  refine ⟨by rw [List.length_append, List.length_append, h.len, h2.len], fun i u e q q' => ?_⟩
  by_cases hi : i < vs.length
  · rw [List.getElem?_append_left hi] at q
    rw [List.getElem?_append_left (by rw [← h.len]; exact hi)] at q'
    exact h.all i u e q q'
  · rw [List.getElem?_append_right (by omega)] at q
    rw [List.getElem?_append_right (by rw [← h.len]; omega), ← h.len] at q'
    exact h2.all _ u e q q'
theorem Stk.rev (h : Stk M K H vs st) : Stk M K H vs.reverse st.reverse := by
  refine ⟨by rw [List.length_reverse, List.length_reverse, h.len], fun i u e q q' => ?_⟩
  have hi : i < vs.length := by have := (List.getElem?_eq_some_iff.mp q).1; rwa [List.length_reverse] at this
  rw [List.getElem?_reverse hi] at q
  rw [List.getElem?_reverse (by rw [← h.len]; exact hi), ← h.len] at q'
  exact h.all _ u e q q'
theorem Stk.one {a : Addr} {y : V} (h : H a = some (.tup [.int p.1, y])) (hy : Dw M K H y p.2) : Stk M K H [.ref a] [p] := ⟨rfl, fun i v q e e' => by
  match i, e, e' with
  | 0, e, e' => cases e; cases e'; exact ⟨a, y, rfl, h, hy⟩⟩
theorem Stk.last (h : Stk M K H vs (st ++ [p])) : ∃ (us : List V) (a : Addr) (y : V), vs = us ++ [.ref a] ∧ Stk M K H us st ∧ H a = some (.tup [.int p.1, y]) ∧ Dw M K H y p.2 := by
  have hl := h.len
  rw [List.length_append, List.length_singleton] at hl
  have hlt : st.length < vs.length := by omega
  obtain ⟨a, y, e, q1, q2⟩ := h.all st.length vs[st.length] p (List.getElem?_eq_getElem hlt) (by simp)
  refine ⟨vs.take st.length, a, y, ?_, ⟨by rw [List.length_take]; omega, fun i u e' q q' => ?_⟩, q1, q2⟩
  · rw [← e]
    have q := List.take_append_drop st.length vs
    rw [List.drop_eq_getElem_cons hlt, List.drop_eq_nil_of_le (by omega)] at q
    exact q.symm
  · have hi : i < st.length := (List.getElem?_eq_some_iff.mp q').1
    rw [List.getElem?_take, if_pos hi] at q
    exact h.all i u e' q (by rw [List.getElem?_append_left hi]; exact q')
end
section
variable {M N : List Addr} {K : PySem.W.Frag} {H H1 : Hp} {v : V} {vs us : List V} {d : PyData} {ds es : List PyData} {st tt : List (Nat × PyData)}
theorem Dw.kpS (a : Kp N H H1) (s : ∀ b ∈ N, b ∈ M) (h : Dw M K H v d) : Dw M K H1 v d := by
  induction h with
  | non => exact .non
  | bl b => exact .bl b
  | int i => exact .int i
  | str x => exact .str x
  | tup e l _ ih => exact .tup (sqT_kp a e) l ih
  | lst e n l _ ih => exact .lst (a.get e fun m => n (s _ m)) n l ih
  | dct e n l q _ ih => exact .dct (a.get e fun m => n (s _ m)) n l q ih
theorem DwL.kpS (h : DwL M K H vs ds) (a : Kp N H H1) (s : ∀ b ∈ N, b ∈ M) : DwL M K H1 vs ds := ⟨h.len, fun i v d e e' => (h.all i v d e e').kpS a s⟩
theorem Stk.kpS (h : Stk M K H vs st) (a : Kp N H H1) (s : ∀ b ∈ N, b ∈ M) : Stk M K H1 vs st := ⟨h.len, fun i v p e e' => by
  obtain ⟨c, y, q1, q2, q3⟩ := h.all i v p e e'
  exact ⟨c, y, q1, a.tup q2, q3.kpS a s⟩⟩
theorem DwL.fresh {l : Addr} (h : DwL M K H vs ds) (n : H l = none) : DwL (l :: M) K H vs ds := ⟨h.len, fun i v d e e' => (h.all i v d e e').fresh n⟩
theorem DwL.sub (h : DwL M K H vs ds) (s : ∀ b ∈ N, b ∈ M) : DwL N K H vs ds := ⟨h.len, fun i v d e e' => (h.all i v d e e').sub s⟩
theorem Stk.sub (h : Stk M K H vs st) (s : ∀ b ∈ N, b ∈ M) : Stk N K H vs st := ⟨h.len, fun i v p e e' => by
  obtain ⟨c, y, q1, q2, q3⟩ := h.all i v p e e'
  exact ⟨c, y, q1, q2, q3.sub s⟩⟩
/-- [(n, item) for item in a tuple] -/
theorem lc_stk {te : TE} {ws : List Nat} {σ : L2.St} {Q : VK} {a : Addr} {n j : Nat} (hT : SqT K H a vs) (hL : DwL M K H vs ds) (hz : ds.length ≤ 1000000)
    (he : ∀ (x : V) (H' : Hp) (R : VK), (∀ p, H' p = none → R (.ref p) (upd H' p (.tup [.int n, x]))) → te ((wipe σ ws).set j (some x)) H' R)
    (hw : ∀ v : V, wipe ((wipe σ ws).set j (some v)) ws = wipe σ ws)
    (h : ∀ (q : Addr) (H' : Hp) (us : List V), H q = none → Kp [] H H' → H' q = some (.lst us) → Stk M K H' us (ds.map fun e => (n, e)) → Q (.ref q) H') :
    LcT K (gName j) tYes te ws σ Q (.ref a) H := by
  refine r_LcT hT fun q hq => ⟨fun i H' => ∃ us, Kp [] H H' ∧ H' q = some (.lst us) ∧ Stk (q :: M) K H' us ((ds.take i).map fun e => (n, e)), ?_, ?_, ?_, ?_⟩
  · exact ⟨[], Kp.nil.new hq, upd_same, Stk.nil⟩
  · rintro i H' ⟨us, k1, _⟩
    exact sqT_kp k1 hT
  · rintro i x H' hx ⟨us, k1, hq1, hS⟩
    obtain ⟨d, hd, hx1⟩ := hL.get hx
    refine r_name (r_LcTurn (hw _) (r_yes (ifT (he x H' _ fun p hp => ?_))))
    have hqp : q ≠ p := ne_of_none hq1 hp
    have k2 : Kp [] H' (upd H' p (.tup [.int n, x])) := Kp.nil.new hp
    have hq2 := k2.get hq1 (by simp)
    have hil : i < ds.length := (List.getElem?_eq_some_iff.mp hd).1
    have hul : us.length ≤ i := by
      rw [hS.len, List.length_map, List.length_take]
      omega
    refine r_LcEnd hq2 (by rw [sizeLine_eq]; omega) ⟨us ++ [.ref p], (k1.trans k2).own hq, upd_same, ?_⟩
    have k3 := kpW (o := .lst (us ++ [.ref p])) hq2
    have S2 := (hS.kp0 k2).kpS k3 (fun b hb => by rw [List.mem_singleton.mp hb]; exact List.mem_cons_self ..)
    have htk : ds.take (i + 1) = ds.take i ++ [d] := by rw [List.take_add_one, hd]; rfl
    rw [htk, List.map_append]
    refine S2.app (Stk.one (p := (n, d)) (k3.tup upd_same) ?_)
    exact (hx1.fresh hq).kp0 ((k1.trans k2).own hq)
  · rintro H' ⟨us, k1, hq1, hS⟩
    rw [hL.len, List.take_length] at hS
    exact h q H' us hq k1 hq1 (hS.sub fun b hb => List.mem_cons_of_mem _ hb)
end
def spWhole (K : PySem.W.Frag) : Sp := fun vs H Q _ => ∃ (v : V) (d : PyData) (lo hi : Int), vs = [v, .int lo, .int hi] ∧ Dw [] K H v d ∧ Q (.bl (isWhole lo hi d)) H
/-- a question about data -/
def spAsk (K : PySem.W.Frag) (f : PyData → Bool) : Sp := fun vs H Q _ => ∃ (v : V) (d : PyData), vs = [v] ∧ Dw [] K H v d ∧ dsz d ≤ 1000000 ∧ ∀ H', Kp [] H H' → Q (.bl (f d)) H'
def spAskN (K : PySem.W.Frag) (f : Nat → PyData → Bool) (n : Nat) : Sp := fun vs H Q _ => ∃ (v : V) (d : PyData), vs = [v, .int n] ∧ Dw [] K H v d ∧ dsz d ≤ 1000000 ∧ ∀ H', Kp [] H H' → Q (.bl (f n d)) H'
def spAskL (K : PySem.W.Frag) (f : List PyData → Bool) : Sp := fun vs H Q _ => ∃ (v : V) (ds : List PyData), vs = [v] ∧ Dw [] K H v (.tuple ds) ∧ dszs ds ≤ 1000000 ∧ ∀ H', Kp [] H H' → Q (.bl (f ds)) H'
/-- of a tuple that is not empty, its first item a text -/
def spAskT (K : PySem.W.Frag) (f : Str → List PyData → Bool) : Sp := fun vs H Q _ => ∃ (v : V) (w : Str) (r : List PyData), vs = [v] ∧ Dw [] K H v (.tuple (.str w :: r)) ∧ dszs r ≤ 1000000 ∧ ∀ H', Kp [] H H' → Q (.bl (f w r)) H'
def spBlocks (K : PySem.W.Frag) : Sp := fun vs H Q _ => ∃ (M : List Addr) (v : V) (d : PyData), vs = [v] ∧ Dw M K H v d ∧ isStmt d = true ∧
  ∀ (H' : Hp) (p : Addr) (xs : List V), H p = none → Kp [] H H' → H' p = some (.lst xs) → DwL M K H' xs ((blks d).map PyData.tuple) → Q (.ref p) H'
def spItems (K : PySem.W.Frag) : Sp := fun vs H Q _ => ∃ (M : List Addr) (v : V) (d : PyData) (n : Nat), vs = [v, .int n] ∧ Dw M K H v d ∧ isStmt d = true ∧ dsz d ≤ 1000000 ∧
  ∀ (H' : Hp) (p : Addr) (xs : List V), H p = none → Kp [] H H' → H' p = some (.lst xs) → Stk M K H' xs (((inner d).map fun e => (n + 1, e)).reverse) → Q (.ref p) H'
def ordD : Option (Nat × Str) → PyData
  | none => .none
  | some (p, w) => .tuple [.int p, .str w]
def spOrder (K : PySem.W.Frag) : Sp := fun vs H Q _ => ∃ (v : V) (ds : List PyData), vs = [v] ∧ Dw [] K H v (.tuple ds) ∧ dszs ds ≤ 1000000 ∧
  ∀ (H' : Hp) (r : V), Kp [] H H' → Dt K H' r (ordD (ordErr ds)) → Q r H'
theorem Ex.vd.is : ∀ {n : Nat} {e : Ex}, e.vd n → isExpr n e.d = true
  | 0, _, h => h.elim
  | n + 1, .int i, h => by
    show (isName (.int i) || isWhole (-99) 99 (.int i)) = true
    have h1 := h.1
    have h2 := h.2
    simp [isName, isWhole, h1, h2]
  | n + 1, .name x, h => by
    show (isName (.str x) || isWhole (-99) 99 (.str x)) = true
    have h : isNameS x = true := h
    simp [isName, h]
  | n + 1, .bin o a b, h => by
    show (isExpr n b.d && (if o = "times" then isWhole (-9) 9 a.d else (decide (o = "plus") || decide (o = "minus")) && isExpr n a.d)) = true
    obtain ⟨hb, h⟩ := h
    rw [Ex.vd.is hb, Bool.true_and]
    rcases h with ⟨rfl, i, rfl, h1, h2⟩ | ⟨h, ha⟩
    · rw [if_pos rfl]
      show (decide (-9 ≤ i) && decide (i ≤ 9)) = true
      rw [decide_eq_true h1, decide_eq_true h2]
      rfl
    · rw [Ex.vd.is ha]
      rcases h with rfl | rfl
      · rw [if_neg (by decide +kernel), decide_eq_true rfl]
        rfl
      · rw [if_neg (by decide +kernel), decide_eq_true (p := ("minus" : Str) = "minus") rfl, Bool.or_true]
        rfl
theorem Ts.vd.isF {f : PyData → Bool} {n : Nat} {t : Ts} (h : t.vd n) (hf : ∀ u, t = .not u → f u.d = true) : isTestW f t.d = true := by
  cases t with
  | not u =>
    show isTestL f "not" [u.d] = true
    unfold isTestL
    rw [if_neg (by decide +kernel), if_neg (by decide +kernel), if_neg (by decide +kernel), if_pos rfl]
    exact hf u rfl
  | given x =>
    have q : isNameS x = true := by cases n <;> exact h
    show isTestL f "given" [.str x] = true
    unfold isTestL
    rw [if_neg (by decide +kernel), if_neg (by decide +kernel), if_pos rfl]
    exact q
  | rest e b r =>
    have q : e.vd 3 ∧ 2 ≤ b ∧ b ≤ 6 ∧ 0 ≤ r ∧ r ≤ b - 1 := by cases n <;> exact h
    obtain ⟨q, b0, b1, r0, r1⟩ := q
    show isTestL f "rest" [e.d, .int b, .int r] = true
    unfold isTestL
    rw [if_neg (by decide +kernel), if_pos rfl, isRestL, Ex.vd.is q]
    show (true && (decide (2 ≤ b) && decide (b ≤ 6)) && (decide (0 ≤ r) && decide (r ≤ b - 1))) = true
    rw [decide_eq_true b0, decide_eq_true b1, decide_eq_true r0, decide_eq_true r1]
    rfl
  | less a b =>
    have q : a.vd 3 ∧ b.vd 3 := by cases n <;> exact h
    show isTestL f "less" [a.d, b.d] = true
    unfold isTestL
    rw [if_pos rfl]
    show (isExpr 3 a.d && isExpr 3 b.d) = true
    rw [Ex.vd.is q.1, Ex.vd.is q.2]
    rfl
theorem Ts.vd.is : ∀ {n : Nat} {t : Ts}, t.vd n → isTest n t.d = true
  | 0, t, h => Ts.vd.isF h fun u e => by subst e; exact h.elim
  | n + 1, t, h => Ts.vd.isF h fun u e => by subst e; exact Ts.vd.is (n := n) h
theorem Pl.vd.is {p : Pl} (h : p.vd) : isStmt p.d = true := by
  cases p with
  | set x e =>
    show isStmtL "set" [.str x, e.d] = true
    unfold isStmtL isPlainL
    rw [if_neg (by decide +kernel), if_neg (by decide +kernel), if_pos rfl]
    show (isNameS x && isExpr 3 e.d) = true
    rw [h.1, Ex.vd.is h.2]
    rfl
  | unset x =>
    show isStmtL "unset" [.str x] = true
    unfold isStmtL isPlainL
    rw [if_neg (by decide +kernel), if_neg (by decide +kernel), if_neg (by decide +kernel), if_pos rfl]
    exact h
  | tell e =>
    show isStmtL "tell" [e.d] = true
    unfold isStmtL isPlainL
    rw [if_neg (by decide +kernel), if_neg (by decide +kernel), if_neg (by decide +kernel), if_neg (by decide +kernel), if_pos rfl]
    exact Ex.vd.is (n := 3) h
  | say x =>
    show isStmtL "say" [.str x] = true
    unfold isStmtL isPlainL
    rw [if_neg (by decide +kernel), if_neg (by decide +kernel), if_neg (by decide +kernel), if_neg (by decide +kernel), if_neg (by decide +kernel), if_pos (.inl rfl)]
    exact h
  | stop x =>
    show isStmtL "stop" [.str x] = true
    unfold isStmtL isPlainL
    rw [if_neg (by decide +kernel), if_neg (by decide +kernel), if_neg (by decide +kernel), if_neg (by decide +kernel), if_neg (by decide +kernel), if_pos (.inr rfl)]
    exact h
def Sm.kids : Sm → List Sm
  | .pl _ => []
  | .ifs _ y z => y ++ z
  | .rep _ b => b
theorem Sm.ds_app (a b : List Sm) : Sm.ds (a ++ b) = Sm.ds a ++ Sm.ds b := by rw [Sm.ds_map, Sm.ds_map, Sm.ds_map, List.map_append]
theorem Sm.vd.is {n : Nat} {s : Sm} (h : s.vd n) : isStmt s.d = true ∧ inner s.d = Sm.ds s.kids ∧ ∀ c ∈ s.kids, ∃ m, Sm.vd m c ∧ m < n := by
  cases s with
  | pl p =>
    have q : p.vd := by cases n <;> exact h
    refine ⟨by rw [Sm.d]; exact q.is, ?_, fun c hc => by cases hc⟩
    obtain ⟨u, r, e, n1, n2⟩ := Pl.hd p
    rw [Sm.d, e, Sm.kids, Sm.ds]
    unfold inner blks
    simp only [if_neg n1, if_neg n2, List.flatten_nil]
  | ifs t y z =>
    have ht : t.vd 2 := by cases n <;> exact h.1
    refine ⟨?_, ?_, fun c hc => ?_⟩
    · rw [Sm.d]
      show isStmtL "if" [t.d, .tuple (Sm.ds y), .tuple (Sm.ds z)] = true
      unfold isStmtL
      rw [if_pos rfl]
      show (isTest 2 t.d && (true && true)) = true
      rw [ht.is]
      rfl
    · rw [Sm.d, Sm.kids, Sm.ds_app]
      show [Sm.ds y, Sm.ds z].flatten = _
      simp
    · cases n with
      | zero =>
        obtain ⟨_, rfl, rfl⟩ := h
        cases hc
      | succ n =>
        rcases List.mem_append.mp hc with hc | hc
        · exact ⟨n, h.2.1 c hc, by omega⟩
        · exact ⟨n, h.2.2 c hc, by omega⟩
  | rep k b =>
    have hk : 0 ≤ k ∧ k ≤ 8 := by cases n <;> exact ⟨h.1, h.2.1⟩
    refine ⟨?_, ?_, fun c hc => ?_⟩
    · rw [Sm.d]
      show isStmtL "repeat" [.int k, .tuple (Sm.ds b)] = true
      unfold isStmtL
      rw [if_neg (by decide +kernel), if_pos rfl]
      show ((decide (0 ≤ k) && decide (k ≤ 8)) && true) = true
      rw [decide_eq_true hk.1, decide_eq_true hk.2]
      rfl
    · rw [Sm.d, Sm.kids]
      show [Sm.ds b].flatten = _
      simp
    · cases n with
      | zero =>
        obtain ⟨_, _, rfl⟩ := h
        cases hc
      | succ n => exact ⟨n, h.2.2 c hc, by omega⟩
mutual
def Sm.rows (dep : Nat) : Sm → List (Nat × PyData)
  | .pl p => [(dep, p.d)]
  | .ifs t y z => (dep, .tuple [.str "if", t.d, .tuple (Sm.ds y), .tuple (Sm.ds z)]) :: (Sm.rowsL (dep + 1) y ++ Sm.rowsL (dep + 1) z)
  | .rep k b => (dep, .tuple [.str "repeat", .int k, .tuple (Sm.ds b)]) :: Sm.rowsL (dep + 1) b
def Sm.rowsL (dep : Nat) : List Sm → List (Nat × PyData)
  | [] => []
  | s :: r => Sm.rows dep s ++ Sm.rowsL dep r
end
theorem Sm.rowsL_app (n : Nat) : ∀ a b : List Sm, Sm.rowsL n (a ++ b) = Sm.rowsL n a ++ Sm.rowsL n b
  | [], b => by rw [List.nil_append, Sm.rowsL, List.nil_append]
  | s :: r, b => by rw [List.cons_append, Sm.rowsL, Sm.rowsL, Sm.rowsL_app n r b, List.append_assoc]
theorem Sm.rows_kids (n : Nat) (s : Sm) : Sm.rows n s = (n, s.d) :: Sm.rowsL (n + 1) s.kids := by
  cases s with
  | pl p => rw [Sm.rows, Sm.d, Sm.kids, Sm.rowsL]
  | ifs t y z => rw [Sm.rows, Sm.d, Sm.kids, Sm.rowsL_app]
  | rep k b => rw [Sm.rows, Sm.d, Sm.kids]
mutual
theorem Sm.rows_len (n : Nat) : ∀ s : Sm, (Sm.rows n s).length = s.size
  | .pl p => by rw [Sm.rows, Sm.size]; rfl
  | .ifs t y z => by rw [Sm.rows, Sm.size, List.length_cons, List.length_append, Sm.rowsL_len (n + 1) y, Sm.rowsL_len (n + 1) z]; omega
  | .rep k b => by rw [Sm.rows, Sm.size, List.length_cons, Sm.rowsL_len (n + 1) b]; omega
theorem Sm.rowsL_len (n : Nat) : ∀ b : List Sm, (Sm.rowsL n b).length = Sm.sizes b
  | [] => by rw [Sm.rowsL, Sm.sizes]; rfl
  | s :: r => by rw [Sm.rowsL, Sm.sizes, List.length_append, Sm.rows_len n s, Sm.rowsL_len n r]
end
def rowsT (T : List (Nat × Sm)) : List (Nat × PyData) := T.flatMap fun p => Sm.rows p.1 p.2
def dT (T : List (Nat × Sm)) : List (Nat × PyData) := T.map fun p => (p.1, p.2.d)
theorem rowsT_map (n : Nat) : ∀ b : List Sm, rowsT (b.map fun s => (n, s)) = Sm.rowsL n b
  | [] => by rw [Sm.rowsL]; rfl
  | s :: r => by
    have q := rowsT_map n r
    unfold rowsT at q ⊢
    rw [List.map_cons, List.flatMap_cons, q, Sm.rowsL]
theorem dT_map (n : Nat) (b : List Sm) : dT (b.map fun s => (n, s)) = (Sm.ds b).map fun e => (n, e) := by
  unfold dT
  rw [Sm.ds_map, List.map_map, List.map_map]
  rfl
def Ts.bare : Ts → Ts
  | .not t => t.bare
  | t => t
def Ts.word : Ts → Str
  | .not _ => "not"
  | .given _ => "given"
  | .rest _ _ _ => "rest"
  | .less _ _ => "less"
def Ts.high : Ts → Nat
  | .not t => t.high + 1
  | _ => 0
theorem Ts.headW {M : List Addr} {K : PySem.W.Frag} {H : Hp} {v : V} {t : Ts} (h : Dw M K H v t.d) : ∃ (a : Addr) (ys : List V), v = .ref a ∧ SqT K H a (.str t.word :: ys) ∧ atI (V.str t.word :: ys) 0 = some (V.str t.word) := by
  have key : ∀ {w : Str} {r : List PyData}, t.d = .tuple (.str w :: r) → t.word = w → ∃ (a : Addr) (ys : List V), v = .ref a ∧ SqT K H a (.str t.word :: ys) ∧ atI (V.str t.word :: ys) 0 = some (V.str t.word) := by
    intro w r e ew
    rw [e] at h
    obtain ⟨a, xs, rfl, hT, hL⟩ := h.items
    obtain ⟨x, ys, rfl, h0, hR⟩ := hL.inv
    obtain rfl := h0.isStr
    rw [ew]
    exact ⟨a, ys, rfl, hT, at_nn (Int.le_refl 0) rfl⟩
  cases t <;> exact key rfl rfl
def Sm.own (so : Str) (s : Sm) : Int := if so = "weight" then 1 else match s with
  | .ifs t _ _ => if t.bare.word = so then 1 else 0
  | _ => 0
mutual
def Sm.cnt (so : Str) : Sm → Int
  | .pl p => Sm.own so (.pl p)
  | .ifs t y z => Sm.own so (.ifs t y z) + (Sm.cnts so y + Sm.cnts so z)
  | .rep k b => Sm.own so (.rep k b) + Sm.cnts so b * k
def Sm.cnts (so : Str) : List Sm → Int
  | [] => 0
  | s :: r => Sm.cnt so s + Sm.cnts so r
end
theorem Sm.cnts_snoc (so : Str) (s : Sm) : ∀ a : List Sm, Sm.cnts so (a ++ [s]) = Sm.cnts so a + Sm.cnt so s
  | [] => by simp only [List.nil_append, Sm.cnts]; omega
  | u :: r => by simp only [List.cons_append, Sm.cnts]; rw [Sm.cnts_snoc so s r]; omega
def VdB : Nat → List Sm → Prop
  | 0, b => b = []
  | n + 1, b => ∀ s ∈ b, Sm.vd n s
def Sm.parts : Sm → List (List Sm)
  | .pl _ => []
  | .ifs _ y z => [y, z]
  | .rep _ b => [b]
theorem Sm.vd.parts {n : Nat} {s : Sm} (h : s.vd n) : ∀ b ∈ s.parts, VdB n b := by
  intro b hb
  cases s with
  | pl p => cases hb
  | ifs t y z =>
    cases n with
    | zero =>
      rcases List.mem_cons.mp hb with rfl | hb
      · exact h.2.1
      · rw [List.mem_singleton.mp hb]; exact h.2.2
    | succ n =>
      rcases List.mem_cons.mp hb with rfl | hb
      · exact h.2.1
      · rw [List.mem_singleton.mp hb]; exact h.2.2
  | rep k c =>
    cases n with
    | zero => rw [List.mem_singleton.mp hb]; exact h.2.2
    | succ n => rw [List.mem_singleton.mp hb]; exact h.2.2
theorem Sm.blks (s : Sm) : Aw.blks s.d = s.parts.map Sm.ds := by
  cases s with
  | pl p =>
    obtain ⟨u, r, e, n1, n2⟩ := Pl.hd p
    rw [Sm.d, e, Sm.parts]
    unfold Aw.blks
    simp only [if_neg n1, if_neg n2]
    rfl
  | ifs t y z => rw [Sm.d]; rfl
  | rep k b => rw [Sm.d]; rfl
/-- how often the blocks count -/
def Sm.again : Sm → Int
  | .rep k _ => k
  | _ => 1
theorem Sm.cnt_parts (so : Str) (s : Sm) : s.cnt so = s.own so + (s.parts.map (Sm.cnts so)).sum * s.again := by
  cases s with
  | pl p => simp [Sm.cnt, Sm.parts, Sm.again]
  | ifs t y z => simp [Sm.cnt, Sm.parts, Sm.again]
  | rep k b => simp [Sm.cnt, Sm.parts, Sm.again]
def errD (x : Str) : PyData := .tuple [.none, .str x]
def lim (p : List Sm) : PyData := if Sm.sizes p > 24 then errD "places" else if Sm.cnts "weight" p > 30 then errD "weight" else if Sm.cnts "rest" p > 2 then errD "rests" else if Sm.cnts "less" p > 2 then errD "comparings" else .none
open Classical in
noncomputable def treeOf (ds : List PyData) : List Sm := if h : ∃ b : List Sm, ds = Sm.ds b ∧ ∀ s ∈ b, Sm.vd 3 s then h.choose else []
theorem treeOf_spec {ds : List PyData} (h : ordErr ds = none) : ds = Sm.ds (treeOf ds) ∧ ∀ s ∈ treeOf ds, Sm.vd 3 s := by
  unfold treeOf
  rw [dif_pos (ordErr_view h)]
  exact (ordErr_view h).choose_spec
noncomputable def perr : PyData → PyData
  | .tuple ds => match ordErr ds with
    | some x => ordD (some x)
    | none => lim (treeOf ds)
  | _ => errD "program"
mutual
theorem Sm.size_dsz : ∀ s : Sm, s.size ≤ dsz s.d
  | .pl p => by rw [Sm.size]; exact dsz_pos _
  | .ifs t y z => by
    have a := Sm.sizes_dszs y
    have b := Sm.sizes_dszs z
    rw [Sm.size, Sm.d]
    simp only [dsz, dszs]
    omega
  | .rep k b => by
    have a := Sm.sizes_dszs b
    rw [Sm.size, Sm.d]
    simp only [dsz, dszs]
    omega
theorem Sm.sizes_dszs : ∀ b : List Sm, Sm.sizes b ≤ dszs (Sm.ds b)
  | [] => by rw [Sm.sizes]; exact Nat.zero_le _
  | s :: r => by
    have a := Sm.size_dsz s
    have b := Sm.sizes_dszs r
    rw [Sm.sizes, Sm.ds, dszs]
    omega
end
def spRows (K : PySem.W.Frag) : Sp := fun vs H Q _ => ∃ (M : List Addr) (v : V) (p : List Sm), vs = [v] ∧ Dw M K H v (.tuple (Sm.ds p)) ∧ (∀ s ∈ p, ∃ n, Sm.vd n s) ∧ dszs (Sm.ds p) ≤ 1000000 ∧
  ∀ (H' : Hp) (r : Addr) (us : List V), H r = none → Kp [] H H' → H' r = some (.lst us) → Stk M K H' us (Sm.rowsL 0 p) → Q (.ref r) H'
def spBare (K : PySem.W.Frag) : Sp := fun vs H Q _ => ∃ (M : List Addr) (v : V) (t : Ts), vs = [v] ∧ Dw M K H v t.d ∧ ∀ u, Dw M K H u t.bare.d → Q u H
def spOwn (K : PySem.W.Frag) : Sp := fun vs H Q _ => ∃ (M : List Addr) (v : V) (s : Sm) (so : Str), vs = [v, .str so] ∧ Dw M K H v s.d ∧ Q (.int (s.own so)) H
def spCnt (K : PySem.W.Frag) (n : Nat) : Sp := fun vs H Q _ => ∃ (M : List Addr) (v : V) (b : List Sm) (so : Str), vs = [v, .str so] ∧ Dw M K H v (.tuple (Sm.ds b)) ∧ VdB n b ∧
  ∀ H', Kp [] H H' → Q (.int (Sm.cnts so b)) H'
def spWt (K : PySem.W.Frag) : Sp := fun vs H Q _ => ∃ (M : List Addr) (v : V) (b : List Sm), vs = [v] ∧ Dw M K H v (.tuple (Sm.ds b)) ∧ VdB 4 b ∧
  ∀ H', Kp [] H H' → Q (.int (Sm.cnts "weight" b)) H'
noncomputable def spPerr (K : PySem.W.Frag) : Sp := fun vs H Q _ => ∃ (v : V) (d : PyData), vs = [v] ∧ Dw [] K H v d ∧ dsz d ≤ 1000000 ∧
  ∀ (H' : Hp) (r : V), Kp [] H H' → Dt K H' r (perr d) → Q r H'
end Aw
namespace Aw
open PySem PySem.Spec L2
theorem Sm.cnts_nonneg {n : Nat} : ∀ {so : Str} {b : List Sm}, VdB n b → 0 ≤ Sm.cnts so b := by
  induction n with
  | zero =>
    intro so b h
    have h : b = [] := h
    subst h
    rw [Sm.cnts]
    exact Int.le_refl 0
  | succ n ih =>
    intro so b h
    induction b with
    | nil => rw [Sm.cnts]; exact Int.le_refl 0
    | cons s r ihr =>
      have h1 := ihr fun z hz => h z (List.mem_cons_of_mem _ hz)
      have h2 : 0 ≤ Sm.cnt so s := by
        have hs := h s (List.mem_cons_self ..)
        have ho : 0 ≤ s.own so := by
          unfold Sm.own
          split
          · omega
          · split
            · split <;> omega
            · omega
        rw [Sm.cnt_parts]
        have hp : 0 ≤ (s.parts.map (Sm.cnts so)).sum := by
          have hq := hs.parts
          generalize s.parts = ps at hq
          induction ps with
          | nil => exact Int.le_refl 0
          | cons p ps ihp =>
            rw [List.map_cons, List.sum_cons]
            have a := ih (so := so) (hq p (List.mem_cons_self ..))
            have c := ihp fun b hb => hq b (List.mem_cons_of_mem _ hb)
            omega
        have ha : 0 ≤ s.again := by
          cases s with
          | rep k b => cases n <;> exact hs.1
          | pl p => exact Int.le_of_lt Int.zero_lt_one
          | ifs t y z => exact Int.le_of_lt Int.zero_lt_one
        have := Int.mul_nonneg hp ha
        omega
      rw [Sm.cnts]
      omega
theorem Shw.int {i : Int} {k : Nat} (h1 : -(2 ^ 64) < i) (h2 : i < 2 ^ 64) : Shw (.int i) k 70 := by
  refine ⟨by rw [PyData.showable]; exact decide_eq_true (log2_small h1 h2), by rw [PyData.hasDict], by rw [PyData.depth]; exact Nat.zero_le _, ?_⟩
  rw [PyData.shown]
  have h : i.natAbs.log2 < 64 := by
    by_cases h : i.natAbs = 0
    · rw [h]
      decide
    · exact (Nat.log2_lt h).mpr (show i.natAbs < 2 ^ 64 by omega)
  have q := int_text_length_le (k := 64) (by decide) h
  show (Str.ofString (toString i)).length ≤ 70
  rw [ofString_length]
  omega
theorem Sm.vd.mono {m : Nat} : ∀ {n : Nat} {s : Sm}, s.vd m → m ≤ n → s.vd n := by
  induction m with
  | zero =>
    intro n s h hn
    cases s with
    | pl p => cases n <;> exact h
    | ifs t y z =>
      obtain ⟨h1, rfl, rfl⟩ := h
      cases n
      · exact ⟨h1, rfl, rfl⟩
      · exact ⟨h1, (fun _ q => nomatch q), (fun _ q => nomatch q)⟩
    | rep k b =>
      obtain ⟨h1, h2, rfl⟩ := h
      cases n
      · exact ⟨h1, h2, rfl⟩
      · exact ⟨h1, h2, (fun _ q => nomatch q)⟩
  | succ m ih =>
    intro n s h hn
    obtain ⟨n, rfl⟩ : ∃ k, n = k + 1 := ⟨n - 1, by omega⟩
    cases s with
    | pl p => exact h
    | ifs t y z => exact ⟨h.1, fun s q => ih (h.2.1 s q) (by omega), fun s q => ih (h.2.2 s q) (by omega)⟩
    | rep k b => exact ⟨h.1, h.2.1, fun s q => ih (h.2.2 s q) (by omega)⟩
theorem Sm.len_sizes : ∀ b : List Sm, b.length ≤ Sm.sizes b
  | [] => Nat.zero_le _
  | s :: r => by
    have := Sm.len_sizes r
    have q : 1 ≤ s.size := by cases s <;> (rw [Sm.size]; try omega)
    rw [Sm.sizes, List.length_cons]
    omega
theorem ordLoop_vd : ∀ (f : Nat) (st : List (Nat × PyData)) (pl : Nat), stSize st ≤ f → (∀ p ∈ st, p.1 ≤ 3 ∧ ∃ s : Sm, p.2 = s.d ∧ s.vd (3 - p.1)) → ordLoop f st pl = none := by
  intro f
  induction f with
  | zero =>
    intro st pl h _
    cases st with
    | nil => rfl
    | cons q st =>
      obtain ⟨n, d⟩ := q
      rw [stSize_cons] at h
      have := dsz_pos d
      omega
  | succ f ih =>
    intro st pl h hv
    cases st with
    | nil => rfl
    | cons q st =>
      obtain ⟨n, d⟩ := q
      rw [stSize_cons] at h
      have hz := dsz_pos d
      have hi := inner_size d
      obtain ⟨hn, s, hd, hs⟩ := hv (n, d) (List.mem_cons_self ..)
      have hd : d = s.d := hd
      subst hd
      obtain ⟨h1, h2, h3⟩ := hs.is
      rw [ordLoop, if_neg (by omega), if_neg (by rw [h1]; decide)]
      refine ih _ _ (by rw [stSize_app, stSize_map]; omega) fun p hp => ?_
      rcases List.mem_append.mp hp with hp | hp
      · obtain ⟨e, he, rfl⟩ := List.mem_map.mp hp
        rw [h2, Sm.ds_map] at he
        obtain ⟨c, hc, rfl⟩ := List.mem_map.mp he
        obtain ⟨m, hm, hlt⟩ := h3 c hc
        have hn' : n ≤ 3 := hn
        have hlt' : m < 3 - n := hlt
        refine ⟨show n + 1 ≤ 3 by omega, c, rfl, ?_⟩
        exact hm.mono (show m ≤ 3 - (n + 1) by omega)
      · exact hv p (List.mem_cons_of_mem _ hp)
section
variable {K : PySem.W.Frag} {σ : L2.St} {H0 : Hp} {te ta tb ti : TE} {ds es : List PyData} {i j k : Int}
theorem r_catA {H : Hp} {Q : VK} {v u : V} (hv : Dt K H v (.tuple ds)) (hu : Dt K H u (.tuple es)) (hz : ds.length + es.length ≤ 16777216)
    (h : ∀ H' w, Kp [] H H' → Dt K H' w (.tuple (ds ++ es)) → Q w H') : rCatA K v u H Q := by
  obtain ⟨a, xs, rfl, ha, la⟩ := hv.items
  obtain ⟨b, ys, rfl, hb, lb⟩ := hu.items
  refine ⟨a, b, xs, ys, rfl, rfl, ha, hb, by rw [la.len, lb.len, sizeLine_eq]; exact hz, fun e => ?_, fun _ e => ?_, fun _ _ p hp => ?_⟩
  · have q := la.len
    rw [e] at q
    obtain rfl : ds = [] := List.length_eq_zero_iff.mp q.symm
    exact h _ _ Kp.nil hu
  · have q := lb.len
    rw [e] at q
    obtain rfl : es = [] := List.length_eq_zero_iff.mp q.symm
    rw [List.append_nil] at h
    exact h _ _ Kp.nil hv
  · exact h _ _ (Kp.nil.new hp) (((la.app lb).kp (Kp.nil.new hp)).tup upd_same)
end
theorem Dt.ne_none {K : PySem.W.Frag} {H : Hp} {v : V} {d : PyData} (h : Dt K H v d) (n : d ≠ .none) : v ≠ .non := by
  intro e
  subst e
  cases h
  exact n rfl
end Aw
namespace Aw
open PySem PySem.Spec L2
structure NmV (H : Hp) (a : Addr) (xs : List Str) : Prop where
  h : H a = some (.lst (xs.map V.str))
  len : xs.length = 4
  ok : ∀ x ∈ xs, isNameS x = true
theorem NmV.kp {M : List Addr} {H H1 : Hp} {a : Addr} {xs : List Str} (h : NmV H a xs) (k : Kp M H H1) (n : a ∉ M) : NmV H1 a xs := ⟨k.get h.h n, h.len, h.ok⟩
theorem NmV.item {H : Hp} {a : Addr} {xs : List Str} (h : NmV H a xs) {i : Nat} {x : V} (e : (xs.map V.str)[i]? = some x) : ∃ z : Str, x = .str z ∧ isNameS z = true := by
  rw [List.getElem?_map] at e
  obtain ⟨z, hz, rfl⟩ := Option.map_eq_some_iff.mp e
  exact ⟨z, rfl, h.ok z (List.mem_of_getElem? hz)⟩
theorem Ex.vd.succ : ∀ {n : Nat} {e : Ex}, e.vd n → e.vd (n + 1)
  | 0, _, h => h.elim
  | _ + 1, .int _, h => h
  | _ + 1, .name _, h => h
  | _ + 1, .bin _ _ _, h => ⟨h.1.succ, h.2.imp id fun q => ⟨q.1, q.2.succ⟩⟩
theorem Ex.vd.mono {m n : Nat} {e : Ex} (h : e.vd m) (q : m ≤ n) : e.vd n := by
  induction q with
  | refl => exact h
  | step _ ih => exact ih.succ
def spExV (K : PySem.W.Frag) (m : Nat) : Sp := fun vs H Q _ => ∃ (d c nm : Addr) (n : Int) (xs : List Str), vs = [.ref d, .ref nm, .int m] ∧ Deck H d c n ∧ n + eDraws m < 10 ^ 12 ∧ NmV H nm xs ∧ nm ≠ d ∧ nm ≠ c ∧
  ∀ (H' : Hp) (v : V) (e : Ex) (n' : Int), Deck H' d c n' → n ≤ n' → n' ≤ n + eDraws m → Kp [d, c] H H' → Dt K H' v e.d → e.vd m → Q v H'
def spExVA (K : PySem.W.Frag) : Sp := fun vs H Q E => ∃ i : { m : Nat // 1 ≤ m ∧ m ≤ 3 }, spExV K i.1 vs H Q E
theorem spExVA.use {K : PySem.W.Frag} {H : Hp} {Q : VK} {E : XK} {d c nm : Addr} {n m : Int} {xs : List Str} (j : Nat) (D : Deck H d c n) (hn : n + 21 < 10 ^ 12) (N : NmV H nm xs) (n1 : nm ≠ d) (n2 : nm ≠ c) (hj : m = j) (m1 : 1 ≤ j) (m2 : j ≤ 3)
    (k : ∀ (H' : Hp) (v : V) (e : Ex) (n' : Int), Deck H' d c n' → n ≤ n' → n' ≤ n + 21 → Kp [d, c] H H' → Dt K H' v e.d → e.vd j → Q v H') : spExVA K [.ref d, .ref nm, .int m] H Q E := by
  have hE : eDraws j ≤ 21 := eDraws_le m2
  refine ⟨⟨j, m1, m2⟩, d, c, nm, n, xs, by rw [hj], D, by show n + ((eDraws j : Nat) : Int) < _; omega, N, n1, n2, fun H' v e n' D' q1 q2 k' hv he => ?_⟩
  have q2 : n' ≤ n + ((eDraws j : Nat) : Int) := q2
  exact k H' v e n' D' q1 (by omega) k' hv he
theorem Ts.vd.succ : ∀ {n : Nat} {t : Ts}, t.vd n → t.vd (n + 1)
  | n + 1, .not t, h => Ts.vd.succ (n := n) (t := t) h
  | n, .given x, h => by cases n <;> exact h
  | n, .rest e b r, h => by cases n <;> exact h
  | n, .less a b, h => by cases n <;> exact h
theorem Ts.vd.mono {m n : Nat} {t : Ts} (h : t.vd m) (q : m ≤ n) : t.vd n := by
  induction q with
  | refl => exact h
  | step _ ih => exact ih.succ
theorem Sm.cnts_one (so : Str) (s : Sm) : Sm.cnts so [s] = Sm.cnt so s := by rw [Sm.cnts, Sm.cnts, Int.add_zero]
theorem Sm.cnts_app (so : Str) : ∀ a b : List Sm, Sm.cnts so (a ++ b) = Sm.cnts so a + Sm.cnts so b
  | [], b => by rw [List.nil_append, Sm.cnts, Int.zero_add]
  | u :: r, b => by rw [List.cons_append, Sm.cnts, Sm.cnts, Sm.cnts_app so r b, Int.add_assoc]
/-- both sides of less are two deep at most -/
def Ts.lo : Ts → Prop
  | .not t => t.lo
  | .less a b => a.vd 2 ∧ b.vd 2
  | _ => True
mutual
def Sm.lo : Sm → Prop
  | .pl _ => True
  | .ifs t y z => t.lo ∧ Sm.los y ∧ Sm.los z
  | .rep _ b => Sm.los b
def Sm.los : List Sm → Prop
  | [] => True
  | s :: r => Sm.lo s ∧ Sm.los r
end
theorem Sm.los_app : ∀ a b : List Sm, Sm.los a → Sm.los b → Sm.los (a ++ b)
  | [], b, _, h => h
  | s :: r, b, h, g => by
    rw [Sm.los] at h
    rw [List.cons_append, Sm.los]
    exact ⟨h.1, Sm.los_app r b h.2 g⟩
/-- what is left behind rows that count so many times -/
structure Took (ti a b r s a' b' r' s' : Int) (x : List Sm) : Prop where
  a : a' = a - Sm.sizes x
  b : b' = b - ti * Sm.cnts "weight" x
  r : r' = r - ti * Sm.cnts "rest" x
  s : s' = s - ti * Sm.cnts "less" x
  l : Sm.los x
theorem Took.nil {ti a b r s : Int} : Took ti a b r s a b r s [] := by
  constructor <;> simp [Sm.sizes, Sm.cnts, Sm.los]
theorem Took.app {ti a b r s a1 b1 r1 s1 a2 b2 r2 s2 : Int} {x y : List Sm} (h : Took ti a b r s a1 b1 r1 s1 x) (g : Took ti a1 b1 r1 s1 a2 b2 r2 s2 y) : Took ti a b r s a2 b2 r2 s2 (x ++ y) := by
  have h1 := h.a; have h2 := h.b; have h3 := h.r; have h4 := h.s
  have g1 := g.a; have g2 := g.b; have g3 := g.r; have g4 := g.s
  constructor
  · rw [Sm.sizes_app]; omega
  · rw [Sm.cnts_app, Int.mul_add]; omega
  · rw [Sm.cnts_app, Int.mul_add]; omega
  · rw [Sm.cnts_app, Int.mul_add]; omega
  · exact Sm.los_app _ _ h.l g.l
/-- a program within all bounds -/
structure PgV (b : List Sm) : Prop where
  vd : ∀ s ∈ b, Sm.vd 3 s
  size : Sm.sizes b ≤ 24
  weight : Sm.cnts "weight" b ≤ 30
  rest : Sm.cnts "rest" b ≤ 2
  less : Sm.cnts "less" b ≤ 2
  lo : Sm.los b
theorem Ex.d_inj : ∀ {a b : Ex}, a.d = b.d → a = b
  | .int i, .int j, h => by cases h; rfl
  | .name x, .name y, h => by cases h; rfl
  | .bin o a b, .bin o' a' b', h => by
    rw [Ex.d, Ex.d] at h
    simp only [PyData.tuple.injEq, List.cons.injEq, PyData.str.injEq, and_true] at h
    rw [h.1, Ex.d_inj h.2.1, Ex.d_inj h.2.2]
  | .int _, .name _, h => by cases h
  | .int _, .bin _ _ _, h => by cases h
  | .name _, .int _, h => by cases h
  | .name _, .bin _ _ _, h => by cases h
  | .bin _ _ _, .int _, h => by cases h
  | .bin _ _ _, .name _, h => by cases h
theorem tup_head {a b : Str} {r s : List PyData} (h : PyData.tuple (.str a :: r) = .tuple (.str b :: s)) : a = b ∧ r = s := by
  simp only [PyData.tuple.injEq, List.cons.injEq, PyData.str.injEq] at h
  exact h
theorem Ts.d_inj : ∀ {a b : Ts}, a.d = b.d → a = b
  | .not t, .not u, h => by
    have q := (tup_head h).2
    simp only [List.cons.injEq, and_true] at q
    rw [Ts.d_inj q]
  | .given x, .given y, h => by
    have q := (tup_head h).2
    simp only [List.cons.injEq, PyData.str.injEq, and_true] at q
    rw [q]
  | .rest e b r, .rest e' b' r', h => by
    have q := (tup_head h).2
    simp only [List.cons.injEq, PyData.int.injEq, and_true] at q
    rw [Ex.d_inj q.1, q.2.1, q.2.2]
  | .less a b, .less a' b', h => by
    have q := (tup_head h).2
    simp only [List.cons.injEq, and_true] at q
    rw [Ex.d_inj q.1, Ex.d_inj q.2]
  | .not _, .given _, h => absurd (tup_head h).1 (by decide +kernel)
  | .not _, .rest _ _ _, h => absurd (tup_head h).1 (by decide +kernel)
  | .not _, .less _ _, h => absurd (tup_head h).1 (by decide +kernel)
  | .given _, .not _, h => absurd (tup_head h).1 (by decide +kernel)
  | .given _, .rest _ _ _, h => absurd (tup_head h).1 (by decide +kernel)
  | .given _, .less _ _, h => absurd (tup_head h).1 (by decide +kernel)
  | .rest _ _ _, .not _, h => absurd (tup_head h).1 (by decide +kernel)
  | .rest _ _ _, .given _, h => absurd (tup_head h).1 (by decide +kernel)
  | .rest _ _ _, .less _ _, h => absurd (tup_head h).1 (by decide +kernel)
  | .less _ _, .not _, h => absurd (tup_head h).1 (by decide +kernel)
  | .less _ _, .given _, h => absurd (tup_head h).1 (by decide +kernel)
  | .less _ _, .rest _ _ _, h => absurd (tup_head h).1 (by decide +kernel)
theorem Pl.d_inj {a b : Pl} (h : a.d = b.d) : a = b := by
  cases a <;> cases b <;> first
    | exact absurd (tup_head h).1 (by decide +kernel)
    | (have q := (tup_head h).2
       simp only [List.cons.injEq, PyData.str.injEq, and_true] at q
       first
         | rw [q]
         | rw [Ex.d_inj q]
         | rw [q.1, Ex.d_inj q.2])
mutual
theorem Sm.d_inj : ∀ {a b : Sm}, a.d = b.d → a = b
  | .pl p, .pl q, h => by rw [Sm.d, Sm.d] at h; rw [Pl.d_inj h]
  | .ifs t y z, .ifs t' y' z', h => by
    rw [Sm.d, Sm.d] at h
    have q := (tup_head h).2
    simp only [List.cons.injEq, PyData.tuple.injEq, and_true] at q
    rw [Ts.d_inj q.1, Sm.ds_inj q.2.1, Sm.ds_inj q.2.2]
  | .rep k b, .rep k' b', h => by
    rw [Sm.d, Sm.d] at h
    have q := (tup_head h).2
    simp only [List.cons.injEq, PyData.tuple.injEq, PyData.int.injEq, and_true] at q
    rw [q.1, Sm.ds_inj q.2]
  | .pl p, .ifs t y z, h => by
    rw [Sm.d, Sm.d] at h
    obtain ⟨u, r, e, n1, n2⟩ := Pl.hd p
    rw [e] at h
    exact absurd (tup_head h).1 n1
  | .pl p, .rep k b, h => by
    rw [Sm.d, Sm.d] at h
    obtain ⟨u, r, e, n1, n2⟩ := Pl.hd p
    rw [e] at h
    exact absurd (tup_head h).1 n2
  | .ifs t y z, .pl p, h => by
    rw [Sm.d, Sm.d] at h
    obtain ⟨u, r, e, n1, n2⟩ := Pl.hd p
    rw [e] at h
    exact absurd (tup_head h).1.symm n1
  | .rep k b, .pl p, h => by
    rw [Sm.d, Sm.d] at h
    obtain ⟨u, r, e, n1, n2⟩ := Pl.hd p
    rw [e] at h
    exact absurd (tup_head h).1.symm n2
  | .ifs t y z, .rep k b, h => by
    rw [Sm.d, Sm.d] at h
    exact absurd (tup_head h).1 (by decide +kernel)
  | .rep k b, .ifs t y z, h => by
    rw [Sm.d, Sm.d] at h
    exact absurd (tup_head h).1 (by decide +kernel)
theorem Sm.ds_inj : ∀ {a b : List Sm}, Sm.ds a = Sm.ds b → a = b
  | [], [], _ => rfl
  | s :: r, s' :: r', h => by
    rw [Sm.ds, Sm.ds] at h
    simp only [List.cons.injEq] at h
    rw [Sm.d_inj h.1, Sm.ds_inj h.2]
  | [], _ :: _, h => by rw [Sm.ds, Sm.ds] at h; cases h
  | _ :: _, [], h => by rw [Sm.ds, Sm.ds] at h; cases h
end
theorem vd_ordErr {b : List Sm} (h : ∀ s ∈ b, Sm.vd 3 s) : ordErr (Sm.ds b) = none := by
  refine ordLoop_vd _ _ 0 (by rw [stSize_map]; exact Nat.le_refl _) fun p hp => ?_
  obtain ⟨e, he, rfl⟩ := List.mem_map.mp hp
  rw [Sm.ds_map] at he
  obtain ⟨s, hs, rfl⟩ := List.mem_map.mp he
  exact ⟨Nat.zero_le _, s, rfl, h s hs⟩
theorem perr_vd {b : List Sm} (h : ∀ s ∈ b, Sm.vd 3 s) : perr (.tuple (Sm.ds b)) = lim b := by
  have ho := vd_ordErr h
  rw [perr, ho]
  show lim (treeOf (Sm.ds b)) = _
  rw [← Sm.ds_inj (treeOf_spec ho).1]
end Aw
namespace Aw
open PySem PySem.Spec L2
mutual
def shb : PyData → Bool
  | .none => true
  | .bool _ => true
  | .int i => decide (i.natAbs.log2 < 200)
  | .str x => PyData.strOk x
  | .list ds => shbs ds
  | .tuple ds => shbs ds
  | .dict [] => true
  | .dict [(.str x, .int i)] => PyData.strOk x && decide (x.length ≤ 8) && decide (i.natAbs.log2 < 200)
  | .dict _ => false
def shbs : List PyData → Bool
  | [] => true
  | d :: r => shb d && shbs r
end
theorem int_len {i : Int} (h : i.natAbs.log2 < 200) : (Str.ofString (toString i)).length ≤ 201 := by
  have q := int_text_length_le (k := 200) (by decide) h
  rw [ofString_length]
  omega
mutual
theorem shb_ok : ∀ d : PyData, shb d = true → d.showable = true ∧ d.shown.length + 2 ≤ 300 * dsz d
  | .none, _ => ⟨by rw [PyData.showable], by rw [PyData.shown, dsz]; decide +kernel⟩
  | .bool b, _ => ⟨by rw [PyData.showable], by rw [PyData.shown, dsz]; cases b <;> decide +kernel⟩
  | .int i, h => by
    rw [shb, decide_eq_true_eq] at h
    refine ⟨by rw [PyData.showable]; exact decide_eq_true (by omega), ?_⟩
    rw [PyData.shown, dsz]
    have := int_len h
    show (Str.ofString (toString i)).length + 2 ≤ 300 * 1
    omega
  | .str x, h => by
    rw [shb] at h
    refine ⟨by rw [PyData.showable], ?_⟩
    rw [PyData.shown, dsz]
    have := (Sok.repr (x := x) (n := x.length) ⟨h, Nat.le_refl _⟩)
    omega
  | .list ds, h => by
    rw [shb] at h
    obtain ⟨a, b, c⟩ := shbs_ok ds h
    refine ⟨by rw [PyData.showable]; exact a, ?_⟩
    rw [PyData.shown, dsz]
    have q := listText_len_le (PyData.shownAll ds)
    omega
  | .tuple ds, h => by
    rw [shb] at h
    obtain ⟨a, b, c⟩ := shbs_ok ds h
    refine ⟨by rw [PyData.showable]; exact a, ?_⟩
    rw [PyData.shown, dsz]
    have q := tupleText_len_le (PyData.shownAll ds)
    omega
  | .dict [], _ => ⟨by rw [PyData.showable, PyData.showableKv], by rw [PyData.shown, PyData.shownKv, dsz]; decide +kernel⟩
  | .dict [(.str x, .int i)], h => by
    rw [shb, Bool.and_eq_true, Bool.and_eq_true, decide_eq_true_eq, decide_eq_true_eq] at h
    obtain ⟨⟨h1, h2⟩, h3⟩ := h
    refine ⟨by simp [PyData.showable, PyData.showableKv]; omega, ?_⟩
    rw [PyData.shown, dsz]
    have q := dictText_len_le (PyData.shownKv [(.str x, .int i)])
    have e : PyData.shownKv [(.str x, .int i)] = [reprText x ++ ": " ++ Str.ofString (toString i)] := by
      simp [PyData.shownKv, PyData.shown]
    rw [e] at q ⊢
    have r1 := (Sok.repr (x := x) (n := 8) ⟨h1, h2⟩)
    have r2 := int_len h3
    simp only [List.map_cons, List.map_nil, List.sum_cons, List.sum_nil, List.length_cons, List.length_nil, Str.length_append] at q
    have r3 : (": " : Str).length = 2 := by decide +kernel
    omega
  | .dict ((.none, _) :: _), h => by simp [shb] at h
  | .dict ((.bool _, _) :: _), h => by simp [shb] at h
  | .dict ((.int _, _) :: _), h => by simp [shb] at h
  | .dict ((.list _, _) :: _), h => by simp [shb] at h
  | .dict ((.tuple _, _) :: _), h => by simp [shb] at h
  | .dict ((.dict _, _) :: _), h => by simp [shb] at h
  | .dict ((.str _, .none) :: _), h => by simp [shb] at h
  | .dict ((.str _, .bool _) :: _), h => by simp [shb] at h
  | .dict ((.str _, .str _) :: _), h => by simp [shb] at h
  | .dict ((.str _, .list _) :: _), h => by simp [shb] at h
  | .dict ((.str _, .tuple _) :: _), h => by simp [shb] at h
  | .dict ((.str _, .dict _) :: _), h => by simp [shb] at h
  | .dict ((.str _, .int _) :: _ :: _), h => by simp [shb] at h
theorem shbs_ok : ∀ ds : List PyData, shbs ds = true → PyData.showableAll ds = true ∧ (PyData.shownAll ds).length = ds.length ∧ ((PyData.shownAll ds).map (·.length)).sum + 2 * (PyData.shownAll ds).length ≤ 300 * dszs ds
  | [], _ => ⟨by rw [PyData.showableAll], by rw [PyData.shownAll]; rfl, by rw [PyData.shownAll]; simp⟩
  | d :: r, h => by
    rw [shbs, Bool.and_eq_true] at h
    obtain ⟨a, b⟩ := shb_ok d h.1
    obtain ⟨a1, b1, c1⟩ := shbs_ok r h.2
    refine ⟨by rw [PyData.showableAll, a, a1]; rfl, by rw [PyData.shownAll, List.length_cons, List.length_cons, b1], ?_⟩
    rw [PyData.shownAll, List.map_cons, List.sum_cons, List.length_cons, dszs]
    omega
end
/-- data of a size, that may be shown, of a depth -/
structure Dok (d : PyData) (z k : Nat) : Prop where
  sz : dsz d ≤ z
  sh : shb d = true
  dp : d.depth ≤ k
theorem Dok.shw {d : PyData} {z k : Nat} (h : Dok d z k) : ShwD d k (300 * z) := by
  obtain ⟨a, b⟩ := shb_ok d h.sh
  have := h.sz
  exact ⟨a, h.dp, by omega⟩
theorem Dok.mono {d : PyData} {z k z' k' : Nat} (h : Dok d z k) (hz : z ≤ z') (hk : k ≤ k') : Dok d z' k' := ⟨Nat.le_trans h.sz hz, h.sh, Nat.le_trans h.dp hk⟩
theorem Dok.by {d : PyData} {z k : Nat} (h : (decide (dsz d ≤ z) && shb d && decide (d.depth ≤ k)) = true) : Dok d z k := by
  rw [Bool.and_eq_true, Bool.and_eq_true, decide_eq_true_eq, decide_eq_true_eq] at h
  exact ⟨h.1.1, h.1.2, h.2⟩
def Oc (M : List Addr) (H : Hp) : Prop := ∀ a ∈ M, ∃ o, H a = some o
theorem Oc.new {M : List Addr} {H H1 : Hp} {p : Addr} (h : Oc M H) (k : Kp [] H H1) (hp : H1 p = none) : p ∉ M := fun m => by
  obtain ⟨o, e⟩ := h p m
  rw [k.get e (by simp)] at hp
  cases hp
def CW (M : List Addr) (K : PySem.W.Frag) (σ : L2.St) (H0 : Hp) (te : TE) (d : PyData) : Prop := ∀ (H : Hp) (Q : VK), Kp [] H0 H → (∀ H' v, Kp [] H H' → Dw M K H' v d → Q v H') → te σ H Q
def CWs (M : List Addr) (K : PySem.W.Frag) (σ : L2.St) (H0 : Hp) (ts : TA) (ds : List PyData) : Prop := ∀ (H : Hp) (R : List V → Hp → Prop), Kp [] H0 H → (∀ H' vs, Kp [] H H' → DwL M K H' vs ds → R vs H') → ts σ H R
section
variable {M : List Addr} {K : PySem.W.Frag} {σ : L2.St} {H0 : Hp} {te ta tb : TE} {ts : TA} {d : PyData} {ds es : List PyData}
theorem DwL.tup {H : Hp} {vs : List V} {a : Addr} (h : DwL M K H vs ds) (e : H a = some (.tup vs)) : Dw M K H (.ref a) (.tuple ds) := .tup (SqT.of e) h.len h.all
theorem DwL.lst {H : Hp} {vs : List V} {a : Addr} (h : DwL M K H vs ds) (e : H a = some (.lst vs)) (n : a ∉ M) : Dw M K H (.ref a) (.list ds) := .lst e n h.len h.all
theorem DwL.app {H : Hp} {vs us : List V} (h : DwL M K H vs ds) (g : DwL M K H us es) : DwL M K H (vs ++ us) (ds ++ es) := by
  refine ⟨by rw [List.length_append, List.length_append, h.len, g.len], fun i u e q q' => ?_⟩
  by_cases hi : i < vs.length
  · rw [List.getElem?_append_left hi] at q
    rw [List.getElem?_append_left (by rw [← h.len]; exact hi)] at q'
    exact h.all i u e q q'
  · rw [List.getElem?_append_right (by omega)] at q
    rw [List.getElem?_append_right (by rw [← h.len]; omega), ← h.len] at q'
    exact g.all _ u e q q'
theorem DwL.mem {H : Hp} {vs : List V} {x : V} (h : DwL M K H vs ds) (m : x ∈ vs) : ∃ d ∈ ds, Dw M K H x d := by
  obtain ⟨i, hi, rfl⟩ := List.mem_iff_getElem.mp m
  obtain ⟨d, e, q⟩ := h.get (List.getElem?_eq_getElem hi)
  exact ⟨d, List.mem_of_getElem? e, q⟩
theorem cw_str {x : Str} : CW M K σ H0 (tC (.str x)) (.str x) := fun H Q _ h => h H _ Kp.nil (.str x)
theorem cw_int {x : Int} : CW M K σ H0 (tC (.int x)) (.int x) := fun H Q _ h => h H _ Kp.nil (.int x)
theorem cw_bl {x : Bool} : CW M K σ H0 (tC (.bl x)) (.bool x) := fun H Q _ h => h H _ Kp.nil (.bl x)
theorem cw_non : CW M K σ H0 (tC .non) .none := fun H Q _ h => h H _ Kp.nil .non
theorem cw_var {i : Nat} {v : V} (e : σ[i]? = some (some v)) (hv : Dw M K H0 v d) : CW M K σ H0 (tVar i) d := fun H Q k h => ⟨v, e, h H _ Kp.nil (hv.kp0 k)⟩
theorem cw_neg {i : Int} : CW M K σ H0 (tUn (rU fun i => .int (-i)) (tC (.int i))) (.int (-i)) := fun H Q _ h => r_un (r_C (r_U (h H _ Kp.nil (.int _))))
theorem cw_pow {i j : Int} (h0 : CPow i j) : CW M K σ H0 (tOp (rI CPow fun i j => .int (i ^ j.toNat)) (tC (.int i)) (tC (.int j))) (.int (i ^ j.toNat)) := fun H Q _ h => r_op (r_C (r_C (r_I (h H _ Kp.nil (.int _)) h0)))
theorem cws_nil : CWs M K σ H0 tNil [] := fun H R _ h => h H _ Kp.nil DwL.nil
theorem cws_cons (a : CW M K σ H0 te d) (b : CWs M K σ H0 ts ds) : CWs M K σ H0 (tCons te ts) (d :: ds) := fun H R k h =>
  a H _ k fun H1 v k1 hv => b H1 _ (k.trans k1) fun H2 vs k2 hs => h H2 (v :: vs) (k1.trans k2) (DwL.cons (hv.kp0 k2) hs)
theorem cw_tup (b : CWs M K σ H0 ts ds) (hz : ds.length ≤ 16777216) : CW M K σ H0 (tTup ts) (.tuple ds) := fun H Q k h =>
  b H _ k fun H1 vs k1 hs => ⟨by rw [hs.len, sizeLine_eq]; exact hz, fun p hp => h _ _ (k1.new hp) ((hs.kp0 (Kp.nil.new hp)).tup upd_same)⟩
theorem cw_lst (hM : Oc M H0) (b : CWs M K σ H0 ts ds) (hz : ds.length ≤ 16777216) : CW M K σ H0 (tLst ts) (.list ds) := fun H Q k h =>
  b H _ k fun H1 vs k1 hs => ⟨by rw [hs.len, sizeLine_eq]; exact hz, fun p hp => h _ _ (k1.new hp) ((hs.kp0 (Kp.nil.new hp)).lst upd_same (hM.new (k.trans k1) hp))⟩
theorem cw_d0 (hM : Oc M H0) : CW M K σ H0 tDNewK (.dict []) := fun H Q k h p hp => h _ _ (Kp.nil.new hp) (.dct upd_same (hM.new k hp) rfl (fun i kv p e => by simp at e) (fun i kv p e => by simp at e))
theorem cw_d1 {x : Str} {i : Int} (hM : Oc M H0) : CW M K σ H0 (tDisp [(tC (.str x), tC (.int i))]) (.dict [(.str x, .int i)]) := fun H Q k h p hp => by
  refine r_pcons (r_C (r_C (r_pnil ⟨upd_same, [(Sum.inr x, .int i)], rfl, by simp, ?_⟩)))
  have e : mergeK [] [((Sum.inr x : Key), V.int i)] = [(Sum.inr x, .int i)] := rfl
  rw [e, upd_upd]
  refine h _ _ (Kp.nil.new hp) (.dct upd_same (hM.new k hp) rfl (fun j kv p e e' => ?_) (fun j kv p e e' => ?_))
  · match j, e, e' with
    | 0, e, e' => cases e; cases e'; rfl
  · match j, e, e' with
    | 0, e, e' => cases e; cases e'; exact .int i
theorem CW.use {H : Hp} {Q : VK} (a : CW M K σ H te d) (h : ∀ H' v, Kp [] H H' → Dw M K H' v d → Q v H') : te σ H Q := a H Q Kp.nil h
theorem CWs.use {H : Hp} {R : List V → Hp → Prop} (a : CWs M K σ H ts ds) (h : ∀ H' vs, Kp [] H H' → DwL M K H' vs ds → R vs H') : ts σ H R := a H R Kp.nil h
def cutD {α : Type} (xs : List α) (lo hi : Option Int) : List α := (xs.drop (HT.sIx xs.length 0 lo)).take (HT.sIx xs.length xs.length hi - HT.sIx xs.length 0 lo)
theorem DwL.cut {H : Hp} {vs : List V} (h : DwL M K H vs ds) (lo hi : Option Int) : DwL M K H (cutV vs lo hi) (cutD ds lo hi) := by
  have hl := h.len
  unfold cutV cutD
  rw [hl]
  refine ⟨by rw [List.length_take, List.length_take, List.length_drop, List.length_drop, hl], fun i v d e e' => ?_⟩
  have hi := (List.getElem?_eq_some_iff.mp e).1
  rw [List.length_take] at hi
  rw [List.getElem?_take, if_pos (by omega), List.getElem?_drop] at e e'
  exact h.all _ v d e e'
theorem r_slW {H : Hp} {Q : VK} {v : V} {lo hi : Option Int} (h : Dw M K H v (.tuple ds)) (k : ∀ H' w, Kp [] H H' → Dw M K H' w (.tuple (cutD ds lo hi)) → Q w H') : rSlA K v lo hi H Q := by
  obtain ⟨a, xs, rfl, hT, hL⟩ := h.items
  refine ⟨a, xs, rfl, hT, fun hw => ?_, fun _ p hp => k _ _ (Kp.nil.new hp) (((hL.cut lo hi).kp0 (Kp.nil.new hp)).tup upd_same)⟩
  refine k _ _ Kp.nil ?_
  have e : cutD ds lo hi = ds := by
    unfold cutD
    rw [hL.len] at hw
    rw [hw.1, hw.2, List.drop_zero, Nat.sub_zero, List.take_length]
  rw [e]
  exact h
theorem r_catW {H : Hp} {Q : VK} {v u : V} (hv : Dw M K H v (.tuple ds)) (hu : Dw M K H u (.tuple es)) (hz : ds.length + es.length ≤ 16777216)
    (h : ∀ H' w, Kp [] H H' → Dw M K H' w (.tuple (ds ++ es)) → Q w H') : rCatA K v u H Q := by
  obtain ⟨a, xs, rfl, ha, la⟩ := hv.items
  obtain ⟨b, ys, rfl, hb, lb⟩ := hu.items
  refine ⟨a, b, xs, ys, rfl, rfl, ha, hb, by rw [la.len, lb.len, sizeLine_eq]; exact hz, fun e => ?_, fun _ e => ?_, fun _ _ p hp => ?_⟩
  · have q := la.len
    rw [e] at q
    obtain rfl : ds = [] := List.length_eq_zero_iff.mp q.symm
    exact h _ _ Kp.nil hu
  · have q := lb.len
    rw [e] at q
    obtain rfl : es = [] := List.length_eq_zero_iff.mp q.symm
    rw [List.append_nil] at h
    exact h _ _ Kp.nil hv
  · exact h _ _ (Kp.nil.new hp) (((la.app lb).kp0 (Kp.nil.new hp)).tup upd_same)
end
theorem cutD_to {α : Type} (xs : List α) (n : Nat) (h : n ≤ xs.length) : cutD xs none (some (n : Int)) = xs.take n := by
  unfold cutD
  rw [HT.sIx_none, HT.sIx_nat, List.drop_zero, Nat.min_eq_left h, Nat.sub_zero]
theorem cutD_from {α : Type} (xs : List α) (n : Nat) (h : n ≤ xs.length) : cutD xs (some (n : Int)) none = xs.drop n := by
  unfold cutD
  rw [HT.sIx_none, HT.sIx_nat, Nat.min_eq_left h, List.take_of_length_le (by rw [List.length_drop]; omega)]
theorem name_ok {x : Str} (h : isNameS x = true) : PyData.strOk x = true ∧ x.length ≤ 8 := by
  unfold isNameS at h
  simp only [Bool.and_eq_true, decide_eq_true_eq] at h
  obtain ⟨⟨⟨⟨_, h1⟩, _⟩, h2⟩, _⟩ := h
  refine ⟨?_, h1⟩
  unfold PyData.strOk
  rw [Array.all_eq_true_iff_forall_mem]
  intro c hc
  have q : ∀ c ∈ SGN.cps.toList, c < 1114112 := by decide +kernel
  exact decide_eq_true (q c (of_decide_eq_true (List.all_eq_true.mp h2 c (Array.mem_def.mp hc))))
theorem word_ok {x : Str} (h : isWordS x = true) : PyData.strOk x = true ∧ x.length ≤ 8 := by
  unfold isWordS at h
  simp only [Bool.and_eq_true, decide_eq_true_eq] at h
  obtain ⟨⟨⟨_, h1⟩, _⟩, h2⟩ := h
  refine ⟨?_, h1⟩
  unfold PyData.strOk
  rw [Array.all_eq_true_iff_forall_mem]
  intro c hc
  have q : ∀ c ∈ SGN.cps.toList, c < 1114112 := by decide +kernel
  exact decide_eq_true (q c (of_decide_eq_true (List.all_eq_true.mp h2 c (Array.mem_def.mp hc))))
theorem small_log {i : Int} (h1 : -1000 ≤ i) (h2 : i ≤ 1000) : i.natAbs.log2 < 200 := by
  by_cases h : i.natAbs = 0
  · rw [h]
    decide
  · exact Nat.lt_of_lt_of_le ((Nat.log2_lt (k := 10) h).mpr (by omega)) (by decide)
theorem Dok.int {i : Int} (h1 : -1000 ≤ i) (h2 : i ≤ 1000) : Dok (.int i) 1 0 := ⟨by rw [dsz]; omega, by rw [shb]; exact decide_eq_true (small_log h1 h2), by rw [PyData.depth]; omega⟩
theorem Dok.str {x : Str} {n : Nat} (h : PyData.strOk x = true ∧ x.length ≤ n) : Dok (.str x) (n + 1) 0 := ⟨by rw [dsz]; omega, by rw [shb]; exact h.1, by rw [PyData.depth]; omega⟩
theorem Dok.nil {k : Nat} : Dok (.tuple []) 1 (k + 1) := ⟨by simp [dsz, dszs], by simp [shb, shbs], by simp [PyData.depth, PyData.depthAll]⟩
/-- lists of data -/
structure Doks (ds : List PyData) (z k : Nat) : Prop where
  sz : dszs ds ≤ z
  sh : shbs ds = true
  dp : PyData.depthAll ds ≤ k
theorem Doks.nil {k : Nat} : Doks [] 0 k := ⟨by rw [dszs]; omega, by rw [shbs], by rw [PyData.depthAll]; omega⟩
theorem Doks.cons {d : PyData} {ds : List PyData} {z z' k k' : Nat} (a : Dok d z k') (b : Doks ds z' k) (h : k' ≤ k) : Doks (d :: ds) (z + z') k := by
  have := a.sz; have := b.sz; have := a.dp; have := b.dp
  exact ⟨by rw [dszs]; omega, by rw [shbs, a.sh, b.sh]; rfl, by rw [PyData.depthAll]; omega⟩
theorem Doks.tup {ds : List PyData} {z k : Nat} (h : Doks ds z k) : Dok (.tuple ds) (z + 1) (k + 1) := by
  have := h.sz; have := h.dp
  exact ⟨by rw [dsz]; omega, by rw [shb]; exact h.sh, by rw [PyData.depth]; omega⟩
theorem Dok.tups {ds : List PyData} {z k : Nat} (h : Dok (.tuple ds) (z + 1) (k + 1)) : Doks ds z k := by
  have h1 := h.sz; have h2 := h.dp; have h3 := h.sh
  rw [dsz] at h1
  rw [PyData.depth] at h2
  rw [shb] at h3
  exact ⟨by omega, h3, by omega⟩
theorem Dok.lst {ds : List PyData} {z k : Nat} (h : Dok (.tuple ds) z k) : Dok (.list ds) z k := by
  have h1 := h.sz; have h2 := h.dp; have h3 := h.sh
  rw [dsz] at h1
  rw [PyData.depth] at h2
  rw [shb] at h3
  exact ⟨by rw [dsz]; exact h1, by rw [shb]; exact h3, by rw [PyData.depth]; exact h2⟩
theorem lit_ok {x : Str} {n : Nat} (h : (PyData.strOk x && decide (x.length ≤ n)) = true) : PyData.strOk x = true ∧ x.length ≤ n := by
  rw [Bool.and_eq_true, decide_eq_true_eq] at h
  exact h
def eZ : Nat → Nat
  | 0 => 0
  | n + 1 => 2 * eZ n + 10
theorem Ex.vd.dok : ∀ {n : Nat} {e : Ex}, e.vd n → Dok e.d (eZ n) n
  | 0, _, h => h.elim
  | n + 1, .int i, h => (Dok.int (by have := h.1; omega) (by have := h.2; omega)).mono (by unfold eZ; omega) (by omega)
  | n + 1, .name x, h => (Dok.str (name_ok h)).mono (by unfold eZ; omega) (by omega)
  | n + 1, .bin o a b, h => by
    obtain ⟨hb, h⟩ := h
    have qb := Ex.vd.dok hb
    have key : ∀ {o : Str}, PyData.strOk o = true ∧ o.length ≤ 5 → Dok a.d (eZ n) n → Dok (Ex.bin o a b).d (eZ (n + 1)) (n + 1) := fun ho qa =>
      (Doks.tup (Doks.cons (Dok.str ho) (Doks.cons qa (Doks.cons qb (Doks.nil (k := n)) (Nat.le_refl _)) (Nat.le_refl _)) (Nat.zero_le _))).mono (by show _ ≤ 2 * eZ n + 10; omega) (by omega)
    rcases h with ⟨rfl, i, rfl, h1, h2⟩ | ⟨ho, ha⟩
    · refine key (lit_ok (by decide +kernel)) ((Dok.int (by omega) (by omega)).mono ?_ (by omega))
      cases n with
      | zero => exact hb.elim
      | succ n => unfold eZ; omega
    · refine key ?_ (Ex.vd.dok ha)
      rcases ho with rfl | rfl <;> exact lit_ok (by decide +kernel)
theorem Ts.vd.dok : ∀ {n : Nat} {t : Ts}, t.vd n → Dok t.d (5 * n + 160) (n + 4)
  | n + 1, .not t, h => by
    have q := Ts.vd.dok (n := n) (t := t) h
    exact (Doks.tup (Doks.cons (Dok.str (lit_ok (x := "not") (n := 3) (by decide +kernel))) (Doks.cons q (Doks.nil (k := n + 4)) (Nat.le_refl _)) (by omega))).mono (by omega) (by omega)
  | n, .given x, h => by
    have q : isNameS x = true := by cases n <;> exact h
    exact (Doks.tup (Doks.cons (Dok.str (lit_ok (x := "given") (n := 5) (by decide +kernel))) (Doks.cons (Dok.str (name_ok q)) (Doks.nil (k := 0)) (by omega)) (by omega))).mono (by omega) (by omega)
  | n, .rest e b r, h => by
    have q : e.vd 3 ∧ 2 ≤ b ∧ b ≤ 6 ∧ 0 ≤ r ∧ r ≤ b - 1 := by cases n <;> exact h
    obtain ⟨q, b0, b1, r0, r1⟩ := q
    have e3 : eZ 3 = 70 := rfl
    exact (Doks.tup (Doks.cons (Dok.str (lit_ok (x := "rest") (n := 5) (by decide +kernel))) (Doks.cons q.dok (Doks.cons (Dok.int (by omega) (by omega)) (Doks.cons (Dok.int (by omega) (by omega)) (Doks.nil (k := 3)) (by omega)) (by omega)) (by omega)) (by omega))).mono (by omega) (by omega)
  | n, .less a b, h => by
    have q : a.vd 3 ∧ b.vd 3 := by cases n <;> exact h
    have e3 : eZ 3 = 70 := rfl
    exact (Doks.tup (Doks.cons (Dok.str (lit_ok (x := "less") (n := 5) (by decide +kernel))) (Doks.cons q.1.dok (Doks.cons q.2.dok (Doks.nil (k := 3)) (by omega)) (by omega)) (by omega))).mono (by omega) (by omega)
theorem Pl.vd.dok {p : Pl} (h : p.vd) : Dok p.d 100 4 := by
  have e3 : eZ 3 = 70 := rfl
  cases p with
  | set x e => exact (Doks.tup (Doks.cons (Dok.str (lit_ok (x := "set") (n := 5) (by decide +kernel))) (Doks.cons (Dok.str (name_ok h.1)) (Doks.cons h.2.dok (Doks.nil (k := 3)) (by omega)) (by omega)) (by omega))).mono (by omega) (by omega)
  | unset x => exact (Doks.tup (Doks.cons (Dok.str (lit_ok (x := "unset") (n := 5) (by decide +kernel))) (Doks.cons (Dok.str (name_ok h)) (Doks.nil (k := 3)) (by omega)) (by omega))).mono (by omega) (by omega)
  | tell e => exact (Doks.tup (Doks.cons (Dok.str (lit_ok (x := "tell") (n := 5) (by decide +kernel))) (Doks.cons (Ex.vd.dok (n := 3) h) (Doks.nil (k := 3)) (by omega)) (by omega))).mono (by omega) (by omega)
  | say x => exact (Doks.tup (Doks.cons (Dok.str (lit_ok (x := "say") (n := 5) (by decide +kernel))) (Doks.cons (Dok.str (word_ok h)) (Doks.nil (k := 3)) (by omega)) (by omega))).mono (by omega) (by omega)
  | stop x => exact (Doks.tup (Doks.cons (Dok.str (lit_ok (x := "stop") (n := 5) (by decide +kernel))) (Doks.cons (Dok.str (word_ok h)) (Doks.nil (k := 3)) (by omega)) (by omega))).mono (by omega) (by omega)
theorem Sm.vd.doks : ∀ (n : Nat) (b : List Sm), VdB n b → Doks (Sm.ds b) (200 * Sm.sizes b) (2 * n + 6) := by
  intro n
  induction n with
  | zero =>
    intro b h
    have h : b = [] := h
    subst h
    rw [Sm.ds, Sm.sizes]
    exact Doks.nil
  | succ n ih =>
    intro b h
    induction b with
    | nil =>
      rw [Sm.ds, Sm.sizes]
      exact Doks.nil
    | cons s r ihr =>
      have hr := ihr fun z hz => h z (List.mem_cons_of_mem _ hz)
      have hs : Dok s.d (200 * s.size) (2 * (n + 1) + 6) := by
        have hv := h s (List.mem_cons_self ..)
        have hp := hv.parts
        cases s with
        | pl p =>
          have q : p.vd := by cases n <;> exact hv
          rw [Sm.d, Sm.size]
          exact q.dok.mono (by omega) (by omega)
        | ifs t y z =>
          have ht : t.vd 2 := by cases n <;> exact hv.1
          have q1 := ih y (hp y (by simp [Sm.parts]))
          have q2 := ih z (hp z (by simp [Sm.parts]))
          rw [Sm.d, Sm.size]
          exact (Doks.tup (Doks.cons (Dok.str (lit_ok (x := "if") (n := 2) (by decide +kernel))) (Doks.cons ht.dok (Doks.cons q1.tup (Doks.cons q2.tup (Doks.nil (k := 2 * n + 7)) (by omega)) (by omega)) (by omega)) (by omega))).mono (by omega) (by omega)
        | rep k b =>
          have hk : 0 ≤ k ∧ k ≤ 8 := by cases n <;> exact ⟨hv.1, hv.2.1⟩
          have q1 := ih b (hp b (by simp [Sm.parts]))
          rw [Sm.d, Sm.size]
          exact (Doks.tup (Doks.cons (Dok.str (lit_ok (x := "repeat") (n := 6) (by decide +kernel))) (Doks.cons (Dok.int (by omega) (by omega)) (Doks.cons q1.tup (Doks.nil (k := 2 * n + 7)) (by omega)) (by omega)) (by omega))).mono (by omega) (by omega)
      rw [Sm.ds, Sm.sizes]
      have q := Doks.cons hs hr (Nat.le_refl _)
      exact ⟨by have := q.sz; omega, q.sh, q.dp⟩
theorem PgV.dok {b : List Sm} (h : PgV b) : Dok (.tuple (Sm.ds b)) 4801 15 := by
  have q := (Sm.vd.doks 4 b h.vd).tup
  have := h.size
  exact q.mono (by omega) (by omega)
theorem Deck.oc {H : Hp} {d c : Addr} {n : Int} (D : Deck H d c n) : Oc [d, c] H := fun a m => by
  obtain ⟨xs, e⟩ := D.ls a m
  exact ⟨_, e⟩
theorem Deck.ocM {H : Hp} {d c : Addr} {n : Int} {M : List Addr} (D : Deck H d c n) (h : Oc M H) : Oc (d :: c :: M) H := fun a m => by
  rcases List.mem_cons.mp m with rfl | m
  · exact ⟨_, D.hd⟩
  rcases List.mem_cons.mp m with rfl | m
  · exact D.oc _ (by simp)
  · exact h a m
theorem Oc.kp {M : List Addr} {H H1 : Hp} (h : Oc M H) (k : Kp [] H H1) : Oc M H1 := fun a m => by
  obtain ⟨o, e⟩ := h a m
  exact ⟨o, k.get e (by simp)⟩
theorem Oc.deck {M : List Addr} {H H1 : Hp} {d c : Addr} {n : Int} (h : Oc M H) (D : Deck H1 d c n) (k : Kp [d, c] H H1) : Oc M H1 := fun a m => by
  by_cases hm : a ∈ [d, c]
  · exact D.oc a hm
  · obtain ⟨o, e⟩ := h a m
    exact ⟨o, k.get e hm⟩
theorem dcM {d c : Addr} {M : List Addr} : ∀ b ∈ [d, c], b ∈ d :: c :: M := fun b hb => by
  simp only [List.mem_cons, List.not_mem_nil, or_false] at hb ⊢
  rcases hb with rfl | rfl
  · exact .inl rfl
  · exact .inr (.inl rfl)
end Aw
namespace Aw
open PySem PySem.Spec L2
section
variable {M : List Addr} {K : PySem.W.Frag} {σ : L2.St} {H : Hp} {Q : VK} {E : XK} {te : TE} {ts : TA} {ds es : List PyData} {d c p : Addr} {n : Int} {vs : List V}
theorem one_dw (D : Deck H d c n) (hn : n < 10 ^ 12) (h : H p = some (.lst vs)) (hL : DwL (d :: c :: M) K H vs ds) (h1 : p ≠ d) (h2 : p ≠ c) (l1 : 1 ≤ ds.length) (l2 : ds.length ≤ 1000)
    (k : ∀ (H' : Hp) (x : V) (e : PyData), e ∈ ds → Dw (d :: c :: M) K H' x e → Deck H' d c (n + 1) → Kp [d, c] H H' → Q x H') : spOne K [.ref d, .ref p] H Q E := by
  have ll := hL.len
  refine spOne.list D hn (SqL.of h) h1 h2 (by omega) (by omega) fun H' i x hx D' k' => ?_
  obtain ⟨e, he, hxe⟩ := hL.get hx
  exact k H' x e (List.mem_of_getElem? he) (hxe.kpS k' dcM) D' k'
/-- one(deck, [..]) -/
theorem call_one (D : Deck H d c n) (hn : n < 10 ^ 12) (e0 : σ[0]? = some (some (.ref d))) (oc : Oc (d :: c :: M) H) (a : CWs (d :: c :: M) K σ H ts ds) (l1 : 1 ≤ ds.length) (l2 : ds.length ≤ 1000)
    (k : ∀ (H' : Hp) (x : V) (e : PyData), e ∈ ds → Dw (d :: c :: M) K H' x e → Deck H' d c (n + 1) → Kp [d, c] H H' → Q x H') :
    tCall (spOne K) [] E (tCons (tVar 0) (tCons (tLst ts) tNil)) σ H Q := by
  refine r_call (r_cons (r_var e0 (r_cons (r_lst (a.use fun H1 vs k1 hs => ⟨by rw [hs.len, sizeLine_eq]; omega, fun p hp => r_nil ?_⟩)))))
  have k2 : Kp [] H (upd H1 p (.lst vs)) := k1.new hp
  have D2 := D.kp k2 (by simp) (by simp)
  have f := (D.kp k1 (by simp) (by simp)).fresh hp
  refine one_dw (M := M) D2 hn upd_same (hs.kp0 (Kp.nil.new hp)) f.1 f.2 l1 l2 fun H' x e he hx D' k' => ?_
  exact k H' x e he hx D' ((k2.sub D.ls (by simp)).trans k')
end
theorem NmV.dwl {H : Hp} {a : Addr} {xs : List Str} {M : List Addr} {K : PySem.W.Frag} (N : NmV H a xs) : DwL M K H (xs.map V.str) (xs.map PyData.str) := by
  refine ⟨by rw [List.length_map, List.length_map], fun i v d e e' => ?_⟩
  rw [List.getElem?_map] at e e'
  obtain ⟨x, hx, rfl⟩ := Option.map_eq_some_iff.mp e
  rw [hx] at e'
  cases e'
  exact .str x
theorem NmV.dok {H : Hp} {a : Addr} {xs : List Str} (N : NmV H a xs) : ∀ x ∈ xs.map PyData.str, Dok x 9 0 := by
  intro x hx
  obtain ⟨y, hy, rfl⟩ := List.mem_map.mp hx
  exact Dok.str (name_ok (N.ok y hy))
end Aw
namespace Aw
open PySem PySem.Spec L2
structure NmsW (H : Hp) (a : Addr) (xs : List Str) : Prop where
  h : H a = some (.lst (xs.map V.str))
  ne : 1 ≤ xs.length
  ok : ∀ x ∈ xs, isNameS x = true
  len : xs.length ≤ 100
theorem NmsW.kp {M : List Addr} {H H1 : Hp} {a : Addr} {xs : List Str} (h : NmsW H a xs) (k : Kp M H H1) (n : a ∉ M) : NmsW H1 a xs := ⟨k.get h.h n, h.ne, h.ok, h.len⟩
theorem NmsW.item {H : Hp} {a : Addr} {xs : List Str} (h : NmsW H a xs) {i : Nat} {x : V} (e : (xs.map V.str)[i]? = some x) : ∃ z : Str, x = .str z ∧ isNameS z = true := by
  rw [List.getElem?_map] at e
  obtain ⟨z, hz, rfl⟩ := Option.map_eq_some_iff.mp e
  exact ⟨z, rfl, h.ok z (List.mem_of_getElem? hz)⟩
/-- an expression is made -/
def spExprW (K : PySem.W.Frag) (m : Nat) : Sp := fun vs H Q _ => ∃ (d c nm : Addr) (n : Int) (xs : List Str), vs = [.ref d, .ref nm, .int m] ∧ Deck H d c n ∧ n + eDraws m < 10 ^ 12 ∧ NmsW H nm xs ∧ nm ≠ d ∧ nm ≠ c ∧
  ∀ (H' : Hp) (v : V) (e : Ex) (n' : Int), Deck H' d c n' → n ≤ n' → n' ≤ n + eDraws m → Kp [d, c] H H' → Dt K H' v e.d → e.vd m → Q v H'
def spExprAW (K : PySem.W.Frag) : Sp := fun vs H Q E => ∃ i : { m : Nat // 1 ≤ m ∧ m ≤ 3 }, spExprW K i.1 vs H Q E
theorem spExprAW.use {K : PySem.W.Frag} {H : Hp} {Q : VK} {E : XK} {d c nm : Addr} {n m : Int} {xs : List Str} (D : Deck H d c n) (hn : n + 21 < 10 ^ 12) (N : NmsW H nm xs) (n1 : nm ≠ d) (n2 : nm ≠ c) (m1 : 1 ≤ m) (m2 : m ≤ 3)
    (k : ∀ (H' : Hp) (v : V) (e : Ex) (n' : Int), Deck H' d c n' → n ≤ n' → n' ≤ n + 21 → Kp [d, c] H H' → Dt K H' v e.d → e.vd 3 → Q v H') : spExprAW K [.ref d, .ref nm, .int m] H Q E := by
  have e : ((m.toNat : Nat) : Int) = m := Int.toNat_of_nonneg (by omega)
  have hE : eDraws m.toNat ≤ 21 := eDraws_le (by omega)
  refine ⟨⟨m.toNat, by omega⟩, d, c, nm, n, xs, by rw [e], D, by show n + ((eDraws m.toNat : Nat) : Int) < _; omega, N, n1, n2, fun H' v e n' D' q1 q2 k' hv he => ?_⟩
  have q2 : n' ≤ n + ((eDraws m.toNat : Nat) : Int) := q2
  exact k H' v e n' D' q1 (by omega) k' hv (Ex.vd.mono (m := m.toNat) he (by omega))
def tword (so : Int) : Str := if so = 2 then "rest" else if so = 3 then "less" else "given"
/-- what the statements take of what is left, done ti times -/
structure Lq (ti : Int) (x : List Sm) (b r s b' r' s' : Int) : Prop where
  w : ti * Sm.cnts "weight" x ≤ b - b'
  r : ti * Sm.cnts "rest" x ≤ r - r'
  l : ti * Sm.cnts "less" x ≤ s - s'
  b0 : 0 ≤ b'
  r0 : 0 ≤ r'
  s0 : 0 ≤ s'
theorem Lq.nil {ti b r s : Int} (h1 : 0 ≤ b) (h2 : 0 ≤ r) (h3 : 0 ≤ s) : Lq ti [] b r s b r s := by
  refine ⟨?_, ?_, ?_, h1, h2, h3⟩ <;> (rw [Sm.cnts, Int.mul_zero]; omega)
theorem Lq.app {ti : Int} {x y : List Sm} {b r s b1 r1 s1 b2 r2 s2 : Int} (h : Lq ti x b r s b1 r1 s1) (g : Lq ti y b1 r1 s1 b2 r2 s2) : Lq ti (x ++ y) b r s b2 r2 s2 := by
  have h1 := h.w; have h2 := h.r; have h3 := h.l; have g1 := g.w; have g2 := g.r; have g3 := g.l
  refine ⟨?_, ?_, ?_, g.b0, g.r0, g.s0⟩ <;> (rw [Sm.cnts_app, Int.mul_add]; omega)
theorem Lq.plain {ti : Int} {p : Pl} {b r s : Int} (h0 : 0 ≤ ti) (h1 : ti ≤ b) (h2 : 0 ≤ r) (h3 : 0 ≤ s) : Lq ti [.pl p] b r s (b - ti) r s := by
  refine ⟨?_, ?_, ?_, by omega, h2, h3⟩
  · rw [Sm.cnts_one, Sm.cnt]
    show ti * 1 ≤ _
    omega
  · rw [Sm.cnts_one, Sm.cnt]
    show ti * 0 ≤ _
    omega
  · rw [Sm.cnts_one, Sm.cnt]
    show ti * 0 ≤ _
    omega
theorem Lq.rep {ti k : Int} {y : List Sm} {b r s b1 r1 s1 : Int} (h : Lq (ti * k) y (b - ti) r s b1 r1 s1) : Lq ti [.rep k y] b r s b1 r1 s1 := by
  have h1 := h.w; have h2 := h.r; have h3 := h.l
  have e : ∀ so, ti * (Sm.cnts so y * k) = (ti * k) * Sm.cnts so y := fun so => by rw [Int.mul_comm (Sm.cnts so y) k, ← Int.mul_assoc]
  refine ⟨?_, ?_, ?_, h.b0, h.r0, h.s0⟩
  · rw [Sm.cnts_one, Sm.cnt, Int.mul_add, e]
    show ti * 1 + _ ≤ _
    omega
  · rw [Sm.cnts_one, Sm.cnt, Int.mul_add, e]
    show ti * 0 + _ ≤ _
    omega
  · rw [Sm.cnts_one, Sm.cnt, Int.mul_add, e]
    show ti * 0 + _ ≤ _
    omega
/-- the blocks of an if and its test; its own weight was taken before -/
theorem Lq.ifs {ti so : Int} {t : Ts} {y z : List Sm} {b r s r1 s1 b2 r2 s2 : Int} (ht : t.bare.word = tword so) (hso : so = 2 ∨ so = 3 ∨ so = 4) (hr : r1 = if so = 2 then r - ti else r) (hs : s1 = if so = 3 then s - ti else s)
    (h : Lq ti (y ++ z) (b - ti) r1 s1 b2 r2 s2) : Lq ti [.ifs t y z] b r s b2 r2 s2 := by
  have h1 := h.w; have h2 := h.r; have h3 := h.l
  rw [Sm.cnts_app] at h1 h2 h3
  have or_ : Sm.own "rest" (.ifs t y z) = if so = 2 then 1 else 0 := by
    unfold Sm.own tword at *
    rw [if_neg (by decide +kernel)]
    dsimp only
    rw [ht]
    rcases hso with rfl | rfl | rfl <;> decide +kernel
  have ol : Sm.own "less" (.ifs t y z) = if so = 3 then 1 else 0 := by
    unfold Sm.own tword at *
    rw [if_neg (by decide +kernel)]
    dsimp only
    rw [ht]
    rcases hso with rfl | rfl | rfl <;> decide +kernel
  refine ⟨?_, ?_, ?_, h.b0, h.r0, h.s0⟩
  · rw [Sm.cnts_one, Sm.cnt, Int.mul_add]
    show ti * 1 + _ ≤ _
    omega
  · rw [Sm.cnts_one, Sm.cnt, Int.mul_add, or_]
    rcases hso with rfl | rfl | rfl <;> simp at hr ⊢ <;> omega
  · rw [Sm.cnts_one, Sm.cnt, Int.mul_add, ol]
    rcases hso with rfl | rfl | rfl <;> simp at hs ⊢ <;> omega
end Aw
namespace Aw
open PySem PySem.Spec PyProof.Rows L2
section
variable {P : Program} {w : World} {K : PySem.W.Frag} {mg : Str → Option Value} {base : Heap} {CX : CXT}
/-- the def nm, reached by the name x -/
def DfA (K : PySem.W.Frag) (mg : Str → Option Value) (x nm : Str) (st : Stmt) (ps : List Str) : Prop :=
  ∃ (f : Addr) (fd : FuncData), Fun K nm nm st f fd ∧ mg x = some (.ref f) ∧ Binds K fd ps []
theorem DfA.has {x nm : Str} {st : Stmt} {ps N : List Str} {k : Nat} {sp : Sp} (d : DfA K mg x nm st ps)
    (S : FnScope N ps (defScope st)) (len : ∀ vs H Q E, sp vs H Q E → vs.length = ps.length)
    (hb : ∀ (f : Addr) (cdv : Value) (A : Around) (outer : List Env) (s : Shared) (H : Hp) (vs : List V) (Q : VK) (E : XK),
      RoomG k (A.deeper (envOfC nm (defScope st) s.heap.objs.size f cdv)) → sp vs H Q E →
      ∃ t, PSs (cxOf CX0 P w K mg base N nm (defScope st) f cdv A outer s H E).nox (defBody st) t ∧
        t { nx := fun _ H' => Q .non H', rt := Q } (start N vs) H) : Has P w K mg base CX0 x ps (k + 1) sp := by
  obtain ⟨f, fd, F, m, b⟩ := d
  obtain ⟨oc, od, kV, doc, pm, an, cdv, ct, osl, rfl, lk, hcd⟩ := F.ex
  refine ⟨f, _, ⟨F.kp, oc, od, osl, lk⟩, m, b, fnG_of lk hcd S len fun A outer s H vs Q E hr hsp => ?_⟩
  obtain ⟨t, h, q⟩ := hb f cdv A outer s H vs Q E hr hsp
  exact ⟨t, h.nox, q⟩
end
section
variable {X : Cx}
/-- what is never reached needs no rule -/
theorem ps_void {s : Stmt} : PS X s (fun _ _ _ => False) := ⟨fun _ _ _ _ _ _ h => h.elim⟩
end
end Aw
namespace Aw
open PySem PySem.Spec PyProof.Rows L2
section
variable {P : Program} {w : World} {K : PySem.W.Frag} {mg : Str → Option Value} {base : Heap}
theorem Df.hasX {x : Str} {st : Stmt} {ps N : List Str} {k : Nat} {sp : Sp} (d : Df K mg x st ps)
    (S : FnScope N ps (defScope st)) (len : ∀ vs H Q E, sp vs H Q E → vs.length = ps.length)
    (hb : ∀ (f : Addr) (cdv : Value) (A : Around) (outer : List Env) (s : Shared) (H : Hp) (vs : List V) (Q : VK) (E : XK),
      RoomG k (A.deeper (envOfC x (defScope st) s.heap.objs.size f cdv)) → sp vs H Q E →
      ∃ t, PSs (cxOf (L2.CX P w) P w K mg base N x (defScope st) f cdv A outer s H E) (defBody st) t ∧
        t { nx := fun _ H' => Q .non H', rt := Q } (start N vs) H) : Has P w K mg base (L2.CX P w) x ps (k + 1) sp := by
  obtain ⟨f, fd, F, m, b⟩ := d
  obtain ⟨oc, od, kV, doc, pm, an, cdv, ct, osl, rfl, lk, hcd⟩ := F.ex
  exact ⟨f, _, ⟨F.kp, oc, od, osl, lk⟩, m, b, fnG_of lk hcd S len fun A outer s H vs Q E hr hsp => hb f cdv A outer s H vs Q E hr hsp⟩
theorem DfM.hasX {C : Addr} {m q : Str} {st : Stmt} {ps N : List Str} {k : Nat} {sp : Sp} (d : DfM K C m q st ps) (S : FnScope N ps (defScope st)) (len : ∀ vs H Q E, sp vs H Q E → vs.length = ps.length)
    (hb : ∀ (f : Addr) (cdv : Value) (A : Around) (outer : List Env) (s : Shared) (H : Hp) (vs : List V) (Q : VK) (E : XK),
      RoomG k (A.deeper (envOfC q (defScope st) s.heap.objs.size f cdv)) → sp vs H Q E →
      ∃ t, PSs (cxOf (L2.CX P w) P w K mg base N q (defScope st) f cdv A outer s H E) (defBody st) t ∧
        t { nx := fun _ H' => Q .non H', rt := Q } (start N vs) H) : HasM P w K mg base (L2.CX P w) C m ps (k + 1) sp := by
  obtain ⟨f, fd, F, mm, b⟩ := d
  obtain ⟨oc, od, kV, doc, pm, an, cdv, ct, osl, rfl, lk, hcd⟩ := F.ex
  exact ⟨f, _, ⟨oc, od, osl, lk⟩, mm, b, fnG_of lk hcd S len fun A outer s H vs Q E hr hsp => hb f cdv A outer s H vs Q E hr hsp⟩
end
/-- what the written part says of an error's class at C, by the name x -/
structure ErrC (K : PySem.W.Frag) (mg : Str → Option Value) (x : Str) (C : Addr) : Prop where
  o : OexC K C
  f : XfC K C
  at_ : mg x = some (.ref C)
/-- the error's __init__ keeps its promise -/
def HasE (P : Program) (w : World) (K : PySem.W.Frag) (mg : Str → Option Value) (base : Heap) (x : Str) (C : Addr) (ps : List Str) (k : Nat) (sp : Sp) : Prop :=
  ErrC K mg x C ∧ ∃ (f : Addr) (fd : FuncData), PySem.W.findIn K (.ref C) "__init__" = some (some (.ref f)) ∧ PySem.W.typeIn K (.ref f) = some (.type "function") ∧ Binds K fd ps [] ∧ FnG P w K mg base CX0 k f fd ps sp
theorem HasE.of {P : Program} {w : World} {K : PySem.W.Frag} {mg : Str → Option Value} {base : Heap} {x : Str} {C : Addr} {ps : List Str} {k : Nat} {sp : Sp} (E : ErrC K mg x C) (h : HasM P w K mg base CX0 C "__init__" ps k sp) : HasE P w K mg base x C ps k sp := by
  obtain ⟨f, fd, _, M, b, F⟩ := h
  exact ⟨E, f, fd, M.at_, beq_iff_eq.mp M.fn, b, F⟩
/-- self.f = v is all that it does -/
def spErr (C : Addr) (f : Str) : Sp := fun vs H Q _ => ∃ (a : Addr) (v : V), vs = [.ref a, v] ∧ H a = some (exo a C none) ∧
  ∀ dx, H dx = none → dx ≠ a → Q .non (upd (upd H dx (exd dx [(f, v)])) a (exo a C (some dx)))
/-- x(e): the error that is made -/
def tErr (C : Addr) (f : Str) (ta : TA) : L2.St → Hp → XK → Prop := fun σ H Q => ta σ H fun vs H1 => ∃ v, vs = [v] ∧ ∀ d, H1 d = none → Q (.ref C) (some d) (upd H1 d (.xd [(f, v)]))
section
variable {X : Cx} {e : Expr} {es : List Expr} {ta : TA} {x f : Str} {C : Addr} {k : Nat} {ps : List Str} {p pos p1 p2 : Pos}
theorem upd_exd {H : Hp} {a d : Addr} {o1 o2 o3 o4 : HO} (ha : H a = none) (hne : d ≠ a) : upd (del (upd (upd (upd H a o1) d o2) a o3) a) d o4 = upd H d o4 := by
  funext b
  by_cases hd : b = d
  · rw [hd, upd_same, upd_same]
  · rw [upd_ne hd, upd_ne hd]
    by_cases hb : b = a
    · rw [hb, del_same, ha]
    · rw [del_ne hb, upd_ne hb, upd_ne hd, upd_ne hb]
/-- R.__init__(self, ..), R an own class over ValueError without an __init__ -/
theorem pe_reinit {R : Str} {CR : Addr} {pl : Sem Bool} (hg : Gl X R) (hm : X.mg R = some (.ref CR)) (rd : PySem.W.readsIn X.K CR (.type "type") = true) (sp : PySem.W.specialIn X.K (.ref CR) "__getattribute__" = some (some (.builtin "type.__getattribute__")))
    (vV : PySem.W.findCls X.K (.ref CR) (.type "type") "__init__" = some (.val (.builtin "ValueError.__init__"))) (ha : PA X (e :: es) ta)
    (hdb : (R == ("__debug__" : Str)) = false := by decide)
    (hc : eval (.Call (.Attribute (.Name R p1) "__init__" p2) (e :: es) [] pos) X.env = (do
      let ov ← eval (.Name R p1) X.env
      standAt p2.atName
      let (f, first) ← holding [ov] (getMethod ov "__init__" pl)
      callWith pos f first (backTo pos (starEach (e :: es) X.env)) (backToKw pos (keywordEach [] X.env))) := by rfl)
    (he : starEach (e :: es) X.env = (false, eval e X.env) :: starEach es X.env := by rfl) (hpl : (backTo pos (starEach es X.env)).any (·.1) = false := by rfl) :
    PE X (.Call (.Attribute (.Name R p1) "__init__" p2) (e :: es) [] pos) (tVeI X.K ta) := by
  refine ⟨fun pins s σ H Q I h => ?_⟩
  refine PySem.W.methodCall_KW (ld_glob I hg hm ?_ hdb) hc
  refine PySem.W.method_cls I.kIn sp (PySem.W.cls_value I.kIn rd vV (by decide +kernel) ?_)
  show wpAny _ _ (callWith pos (Value.builtin "ValueError.__init__") [] (backTo pos (starEach (e :: es) X.env)) []) _ _ _
  refine PyProof.Rows.callWith_method1 (thn (ha.run pos pins _ σ H _ (I.tok _) h) fun us s1 ⟨vs, H1, I1, r1, a, C, ws, ev, hl, T, ea, q⟩ => ?_) he hpl
  subst ev
  cases r1 with
  | @cons _ u0 _ ur ra rw' =>
    obtain rfl : u0 = Value.ref a := ra
    have hlen : ur.length ≤ sizeLine := by
      rw [← Paired.length rw', sizeLine_eq]
      omega
    exact oinit_ok T I1 ea hlen fun s' J => ⟨.non, H1, J, rfl, q⟩
end
end Aw
namespace Aw
open PySem PySem.Spec L2
/-- an error with one field leaves -/
def Lv (H : Hp) (E : XK) (C : Addr) (f : Str) (v : V) : Prop := ∀ (H' : Hp) (d : Addr), Kp [] H H' → H d = none → H' d = some (.xd [(f, v)]) → E (.ref C) (some d) H'
def ErrQ (C : Addr) (f : Str) (Q : XK) : List V → Hp → Prop := fun vs H1 => ∃ v, vs = [v] ∧ ∀ d, H1 d = none → Q (.ref C) (some d) (upd H1 d (.xd [(f, v)]))
theorem r_err {C : Addr} {f : Str} {ta : TA} {σ : L2.St} {H : Hp} {Q : XK} (h : ta σ H (ErrQ C f Q)) : tErr C f ta σ H Q := h
theorem r_ErrQ {C : Addr} {f : Str} {H : Hp} {Q : XK} {v : V} (h : ∀ d, H d = none → Q (.ref C) (some d) (upd H d (.xd [(f, v)]))) : ErrQ C f Q [v] H := ⟨v, rfl, h⟩
theorem Lv.use {H H1 : Hp} {E : XK} {C : Addr} {f : Str} {v : V} (h : Lv H E C f v) (k : Kp [] H H1) : ∀ d, H1 d = none → E (.ref C) (some d) (upd H1 d (.xd [(f, v)])) := fun d hd =>
  h _ d (k.new hd) (k.freeM Ms.nil hd) upd_same
end Aw
namespace Aw
open PySem PySem.Spec PyProof.Rows L2
theorem pg_tupK {X : Cx} {K : PySem.W.Frag} {es : List Expr} {k : Nat} {t : TGs} {n : Nat} {pos : Pos} (h : X.K = K) (hc : X.calm = true) (hp : PGs X es t)
    (hn : (assignEach es X.env).length = n := by rfl) (hst : (assignEach es X.env).findIdx? (·.1) = none := by rfl) : PG X (.Tuple es k pos) (gTup K n t) := by
  subst h
  exact pg_tup hc hp hn hst
def LcZipQ (K : PySem.W.Frag) (g : TG) (tt : TT) (te : TE) (vs : List Nat) (σ : L2.St) (Q : VK) : List V → Hp → Prop := fun us H1 => ∃ (a b : Addr) (xs ys : List V), us = [.ref a, .ref b] ∧
  ((SqL K H1 a xs ∧ SqL K H1 b ys ∧ LcTurns (Itz K a b) g tt te vs σ Q H1) ∨ (SqT K H1 a xs ∧ SqT K H1 b ys ∧ LcTurns (RZ.ItzT K a b) g tt te vs σ Q H1))
theorem r_lcZip {K : PySem.W.Frag} {ts : TA} {g : TG} {tt : TT} {te : TE} {vs : List Nat} {σ : L2.St} {Q : VK} {H : Hp} (h : ts σ H (LcZipQ K g tt te vs σ Q)) : tLc (RZ.iZipA K ts) g tt te vs σ H Q := h
theorem r_LcZipM {K : PySem.W.Frag} {g : TG} {tt : TT} {te : TE} {vs : List Nat} {σ : L2.St} {Q : VK} {H : Hp} {a b : Addr} {xs ys : List V} (s1 : SqT K H a xs) (s2 : SqT K H b ys)
    (h : ∀ p, H p = none → ∃ R : Nat → Hp → Prop, R 0 (upd H p (.lst [])) ∧ (∀ i H, R i H → SqT K H a xs ∧ SqT K H b ys) ∧
      (∀ (i : Nat) (x y : V) (T : Addr) (H : Hp), xs[i]? = some x → ys[i]? = some y → R i H → H T = none → g (.ref T) (wipe σ vs) (upd H T (.tup [x, y])) (LcTurn tt te vs σ p (R (i + 1)))) ∧ ∀ H, R (min xs.length ys.length) H → Q (.ref p) H) :
    LcZipQ K g tt te vs σ Q [.ref a, .ref b] H := by
  refine ⟨a, b, xs, ys, rfl, .inr ⟨s1, s2, fun p hp => ?_⟩⟩
  obtain ⟨R, h0, hl, hs, hd⟩ := h p hp
  refine ⟨fun i m H => m = min xs.length ys.length - i ∧ i ≤ min xs.length ys.length ∧ R i H, ⟨_, rfl, Nat.zero_le _, h0⟩, ?_⟩
  rintro i m H ⟨rfl, hi, p'⟩
  obtain ⟨qx, qy⟩ := hl i H p'
  by_cases hlt : i < min xs.length ys.length
  · have hl1 : i < xs.length := by omega
    have hl2 : i < ys.length := by omega
    refine .inr ⟨⟨xs, ys, _, _, qx, qy, List.getElem?_eq_getElem hl1, List.getElem?_eq_getElem hl2⟩, R (i + 1), fun H' q => ⟨min xs.length ys.length - (i + 1), by omega, rfl, hlt, q⟩, fun v H' y => ?_⟩
    obtain ⟨T, x', y', rfl, hT, rfl, f1, f2⟩ := y
    exact hs i x' y' T H (f1 xs qx) (f2 ys qy) p' hT
  · obtain rfl : i = min xs.length ys.length := by omega
    exact .inl ⟨⟨xs, ys, qx, qy, by omega⟩, hd H p'⟩
theorem op_inK {X : Cx} {K : PySem.W.Frag} (h : X.K = K) : OpR X (compareOp .In) (rIn K false) := by
  subst h
  exact op_in_seq
theorem op_notinK {X : Cx} {K : PySem.W.Frag} (h : X.K = K) : OpR X (compareOp .NotIn) (rIn K true) := by
  subst h
  exact op_notIn_seq
end Aw
namespace Aw
open PySem PySem.Spec PyProof.Rows L2
/-- own classes, then a base's mro -/
inductive RfT (tl : List Value) : List Value → Prop
  | base : RfT tl tl
  | ref {r : List Value} (c : Addr) (h : RfT tl r) : RfT tl (.ref c :: r)
theorem RfT.has {tl l : List Value} (h : RfT tl l) (T : String) : l.contains (.type T) = tl.contains (.type T) := by
  induction h with
  | base => rfl
  | ref c _ ih =>
    rw [List.contains_cons, ih]
    rfl
theorem RfT.passes {tl l : List Value} {self : Value} (h : RfT tl l) (p : refuseLoop self "__setattr__" tl = pure ()) : refuseLoop self "__setattr__" l = pure () := by
  induction h with
  | base => exact p
  | ref c _ ih =>
    rw [refuseLoop_ref]
    exact ih
theorem RfT.some {tl l : List Value} (h : RfT tl l) (n : tl.isEmpty = false) : l.isEmpty = false := by
  cases h with
  | base => exact n
  | ref _ _ => rfl
theorem rfB_ok {tl : List Value} : ∀ {l : List Value}, rfB tl l = true → RfT tl l
  | [], h => by
    have e : ([] : List Value) = tl := of_decide_eq_true h
    rw [e]
    exact .base
  | a :: r, h => by
    by_cases hr : ∃ c, a = .ref c
    · obtain ⟨c, rfl⟩ := hr
      rcases Bool.or_eq_true_iff.mp h with q | q
      · exact .ref c (rfB_ok q)
      · rw [← of_decide_eq_true q]
        exact .base
    · have e : rfB tl (a :: r) = decide (a :: r = tl) := by
        unfold rfB
        split
        · rename_i c _ z
          cases z
          exact absurd ⟨_, rfl⟩ hr
        · rfl
      rw [e] at h
      rw [of_decide_eq_true h]
      exact .base
/-- what a built-in base of errors does -/
structure BaseF (newId initId : String) (tl : List Value) : Prop where
  F : ∃ B, ExcBaseFacts B newId initId tl
  pass : ∀ self : Value, refuseLoop self "__setattr__" tl = pure ()
  ob : tl.contains (.type "object") = true
  ne : tl.isEmpty = false
theorem leF : BaseF "LookupError.__new__" "LookupError.__init__" leT := ⟨⟨_, F.excBase_LookupError⟩, F.store_LookupError.passes, by decide +kernel, rfl⟩
theorem veF : BaseF "ValueError.__new__" "ValueError.__init__" veT := ⟨⟨_, F.excBase_ValueError⟩, F.store_ValueError.passes, by decide +kernel, rfl⟩
section
variable {prog : Program} {w : World} {A : Around} {R : Result → Shared → Prop} {h0 : Heap} {gs : Array GenState} {dr : Drawn} {tk0 : Nat} {os : OsState}
/-- the first store into an error without a dict -/
theorem first_store {K : W.Frag} {tl : List Value} {nm : Str} {tk : Tok} {val : Value} {a C : Addr} {fs : Array Value} {cd : ClassData} (pass : ∀ self : Value, refuseLoop self "__setattr__" tl = pure ()) (ob : tl.contains (.type "object") = true) (tne : tl.isEmpty = false)
    (X : K.In h0) (ho : h0.get? a = some { cls := .ref C, data := .fields fs }) (hcd : W.clsIn K C = some cd) (hm : RfT tl cd.mro) (hd : cd.hasDict = true) (hno : W.findIn K (.ref C) nm = some none)
    (hq : ∀ h' tk' dx, (∀ b o, b ≠ a → h0.get? b = some o → h'.get? b = some o) → h0.objs.size ≤ dx → dx ≠ a → h'.get? a = some { cls := .ref C, dict := some dx, data := .fields fs } → h'.Ns1 dx (fun y => if y = nm then some val else none) → R (.ok (.ret .none)) ⟨h', gs, dr, tk', os⟩) :
    codeAny (model prog w) A (.call (.builtin "object.__setattr__") ⟨[.ref a, .str nm tk, val], []⟩) R ⟨h0, gs, dr, tk0, os⟩ := by
  have J : W.InstAt h0 a { cls := .ref C, data := .fields fs } C none := ⟨ho, rfl, rfl, trivial⟩
  have cne := hm.some tne
  have cob : cd.mro.contains (.type "object") = true := (hm.has "object").trans ob
  have isO : W.Looks (model prog w) h0 (isInstance (.ref a) (.type "object")) true := J.type.andThen (W.looks_mroIn X (by unfold W.mroIn; rw [hcd, Option.bind_some, if_neg (by rw [cne]; decide), cob]))
  refine codeAny_call_builtin F.store_object.slot.plain F.store_object.entry (@W.check_slot (model prog w) _ _ ⟨h0, gs, dr, tk0, os⟩ "object.__setattr__" "object" "__setattr__" (.ref a) [.str nm tk, val] [] _ F.store_object.kind F.store_object.split isO (F.store_object.args (.ref a) (.str nm tk) val) ?_)
  have m1 : W.Looks (model prog w) h0 (mroOf (.ref C)) cd.mro := (W.looks_clsIn X hcd).andThen .now
  have m2 : W.Looks (model prog w) h0 (Builtin.ObjectAttr.storeTaker? none) none := .now
  have m3 : W.Looks (model prog w) h0 (classData C) cd := W.looks_clsIn X hcd
  rw [W.osa_eq, refuse_eq]
  refine wpAny_bind (wpAny_bind (J.type.at (wpAny_bind (m1.at ?_))))
  rw [hm.passes (pass _)]
  refine wpAny_pure (wpAny_bind (J.type.at (wpAny_bind ((W.looks_findIn X hno).at (wpAny_bind (m2.at ?_))))))
  show wpAny _ _ (Builtin.ObjectAttr.storeInOwnDict (.ref a) (.ref C) (.str nm tk) nm val false) _ _ _
  obtain ⟨c1, c2, c3, c4, c5, hdd, c7, c8, c9, c10, c11⟩ := cd
  dsimp only at hd
  subst hd
  have nea : a ≠ h0.objs.size := Nat.ne_of_lt (Heap.lt_size ho)
  unfold Builtin.ObjectAttr.storeInOwnDict Builtin.ObjectAttr.ownDictForStores
  repeat (first | with_reducible refine PySem.HandSPX.store_in_new ?_ ?_ | with_reducible refine wpAny_loadPart_at ho ?_ | with_reducible refine m3.at ?_ | wp_step)
  · exact ⟨_, #[], _, (Heap.get?_update_ne _ _ _ _ nea.symm).trans (Heap.get?_push_at rfl rfl), rfl, fun e he => absurd he (by simp), fun _ => rfl⟩
  · intro h' tk' hn' sm
    have hp1 : (h0.push { cls := .type "dict", data := .dict #[] }).get? a = some { cls := .ref C, data := .fields fs } := Heap.get?_push_of_some _ ho
    refine hq h' tk' h0.objs.size (fun b o nb eb => ?_) (Nat.le_refl _) nea.symm ((sm.2 a nea).trans (Heap.get?_update_self _ hp1 rfl)) hn'
    exact (sm.2 b (Nat.ne_of_lt (Heap.lt_size eb))).trans ((Heap.get?_update_ne _ _ _ _ nb).trans (Heap.get?_push_of_some _ eb))
end
/-- what the written part says of an error's class at C over such a base -/
structure GexC (K : PySem.W.Frag) (newId : String) (tl : List Value) (C : Addr) : Prop where
  cls : ∃ nm q N bs bm sn sub ab col dd k0 k1 k2 k3 k5, K.lookup C = some (excClassObj nm q C N bs bm true sn sub ab col dd k0 k1 k2 k3 k5 newId) ∧ RfT tl bm
  sa : PySem.W.findIn K (.ref C) "__setattr__" = some (some (.builtin "object.__setattr__"))
  kC : PySem.W.keepIn K (.ref C) = true
section
variable {X : Cx} {pins : List (Addr × Obj)} {σ : L2.St} {H : Hp} {s : Shared} {a C : Addr} {f : Str} {y : V} {u : Value} {newId initId : String} {tl : List Value}
/-- self.f = y, the first one -/
theorem gst_new {A : Around} {E : Value → Shared → Prop} {Q : Unit → Shared → Prop} (BF : BaseF newId initId tl) (T : GexC X.K newId tl C) (I : Inv X pins σ H s) (e : H a = some (exo a C none)) (hno : PySem.W.findIn X.K (.ref C) f = some none) (ry : RelV y u)
    (h : ∀ dx s', H dx = none → dx ≠ a → Inv X pins σ (upd (upd H dx (exd dx [(f, y)])) a (exo a C (some dx))) s' → Q () s') : wpAny (model X.prog X.w) A (setAttr (.ref a) f u) Q E s := by
  obtain ⟨nm, q, N, bs, bm, sn, sub, ab, col, dd, k0, k1, k2, k3, k5, hC, hbm⟩ := T.cls
  have hcl : PySem.W.clsIn X.K C = some { name := nm, bases := bs, mro := .ref C :: bm, ns := N, qualname := q, hasDict := true, slotNames := sn, subclasses := sub, abstract := ab, collection := col, hasDel := false } := by
    unfold PySem.W.clsIn
    rw [hC] <;> rfl
  obtain ⟨t1, ho⟩ := exo_at I.hok e
  obtain ⟨hp, g, d, t, os⟩ := s
  refine PySem.W.set_plain I.kIn (ox := { cls := .ref C, dict := none, data := .fields #[.ref t1, .none, .none, .none, .bool false, .none] }) (od := none) ⟨ho, rfl, rfl, trivial⟩ T.sa ?_
  refine first_store BF.pass BF.ob BF.ne I.kIn ho hcl (.ref C hbm) rfl hno fun h2 tk2 dx kp dn dne hx hn => ?_
  have fd : H dx = none := I.hok.fresh dn
  have od : ∀ {b : Addr} {o : Obj}, hp.get? b = some o → b ≠ dx := fun {b o} z => Nat.ne_of_lt (Nat.lt_of_lt_of_le (Heap.lt_size z) dn)
  have oa : ∀ {b : Addr}, H b = none → b ≠ a := fun {b} z w' => by
    rw [w', e] at z
    cases z
  have U : Un X.fs [] H (upd (upd H dx (exd dx [(f, y)])) a (exo a C (some dx))) hp h2 :=
    ⟨fun b o z n _ _ => kp b o (oa n) z, fun b o z n _ _ => ⟨o.slots, kp b o (oa n) z⟩, fun b o z n _ => by rw [upd_ne (oa n), upd_ne (od z)]; exact n,
      fun b o z _ => by
        by_cases hb : b = a
        · exact ⟨_, by rw [hb]; exact hx⟩
        · exact ⟨o, kp b o hb z⟩,
      fun b xs z => by rw [upd_ne (at_ne e z exo_tup), upd_ne (ne_of_none z fd)]; exact z, fun b o v z => by rw [upd_ne (at_ne e z exo_frz), upd_ne (ne_of_none z fd)]; exact z,
      fun b ps z => ⟨#[], by rw [upd_ne (at_ne e z exo_tbl), upd_ne (ne_of_none z fd), z]; simp⟩⟩
  refine h dx _ fd dne (I.un (t' := tk2) U fun b o z => ?_)
  by_cases hb : b = a
  · subst hb
    rw [upd_same] at z
    cases z
    exact exo_ok hx
  · rw [upd_ne hb] at z
    by_cases hd : b = dx
    · subst hd
      rw [upd_same] at z
      cases z
      exact exd_ok hn (relO_put (fs := []) ry fun g => True.intro)
    · rw [upd_ne hd] at z
      refine (I.hok b o z).stay (fun c v hc y2 => kp c v ?_ y2) (fun c hc => ?_) fun c xs hc => ?_
      · rcases hc with hc | hc
        · rw [hc]
          exact hb
        · exact at_ne e hc exo_own
      · rw [upd_ne (at_ne e hc exo_own), upd_ne (ne_of_none hc fd)]
        exact hc
      · rw [upd_ne (at_ne e hc exo_tup), upd_ne (ne_of_none hc fd)]
        exact hc
/-- the base's __init__(self, ..) -/
theorem gini_ok {A : Around} {E : Value → Shared → Prop} {us : List Value} {Q : Value → Shared → Prop} (BF : BaseF newId initId tl) (T : GexC X.K newId tl C) (I : Inv X pins σ H s) (e : H a = some (exo a C none)) (hl : us.length ≤ sizeLine) (h : ∀ s', Inv X pins σ H s' → Q .none s') :
    wpAny (model X.prog X.w) A (call (.builtin initId) (.ref a :: us)) Q E s := by
  obtain ⟨nm, q, N, bs, bm, sn, sub, ab, col, dd, k0, k1, k2, k3, k5, hC, hbm⟩ := T.cls
  obtain ⟨B, FB⟩ := BF.F
  obtain ⟨t1, ho⟩ := exo_at I.hok e
  obtain ⟨hp, g, d, t, os⟩ := s
  refine wpAny_call (PySem.HandSPX.init_base FB (fun Y => hbm.has Y) (I.kIn _ _ hC) ho hl fun h2 t2 k hx => ?_)
  have J := I.write (t' := t) (x := a) (e := a) (o := exo a C none) (by rw [e]; exact True.intro) (.inl rfl) k ⟨_, hx⟩ (exo_ok hx)
  have eu : upd H a (exo a C none) = H := by
    funext b
    by_cases hb : b = a
    · rw [hb, upd_same, e]
    · rw [upd_ne hb]
  rw [eu] at J
  exact h _ J
end
/-- LookupError.__init__(self, ..) -/
def tLeI (K : PySem.W.Frag) (newId : String) (tl : List Value) (ta : TA) : TE := fun σ H Q => ta σ H fun vs H1 => ∃ (a C : Addr) (ws : List V), vs = .ref a :: ws ∧ ws.length ≤ 1000 ∧ GexC K newId tl C ∧ H1 a = some (exo a C none) ∧ Q .non H1
/-- self.f = e, the first one -/
def tGst (K : PySem.W.Frag) (newId : String) (tl : List Value) (f : Str) (to te : TE) : TS := fun D σ H => te σ H fun y H1 => to σ H1 fun x H2 => ∃ a C : Addr, x = .ref a ∧ GexC K newId tl C ∧ PySem.W.findIn K (.ref C) f = some none ∧
  H2 a = some (exo a C none) ∧ ∀ dx, H2 dx = none → dx ≠ a → D.nx σ (upd (upd H2 dx (exd dx [(f, y)])) a (exo a C (some dx)))
section
variable {X : Cx} {o e : Expr} {es : List Expr} {to te : TE} {ta : TA} {f : Str} {p p' p1 p2 pos : Pos} {newId initId : String} {tl : List Value}
theorem typ_LE : typeOf (.type "LookupError") = pure (.type "type") := by kernel_rfl
theorem boot_LE : bootBuiltins ("LookupError" : Str) = some (.type "LookupError") := by decide +kernel
theorem pe_leinit {pl : Sem Bool} (hg : Gl X "LookupError") (hm : X.mg "LookupError" = none) (vV : PySem.W.findCls X.K (.type "LookupError") (.type "type") "__init__" = some (.val (.builtin "LookupError.__init__"))) (ha : PA X (e :: es) ta)
    (hc : eval (.Call (.Attribute (.Name "LookupError" p1) "__init__" p2) (e :: es) [] pos) X.env = (do
      let ov ← eval (.Name "LookupError" p1) X.env
      standAt p2.atName
      let (f, first) ← holding [ov] (getMethod ov "__init__" pl)
      callWith pos f first (backTo pos (starEach (e :: es) X.env)) (backToKw pos (keywordEach [] X.env))) := by rfl)
    (he : starEach (e :: es) X.env = (false, eval e X.env) :: starEach es X.env := by rfl) (hpl : (backTo pos (starEach es X.env)).any (·.1) = false := by rfl) :
    PE X (.Call (.Attribute (.Name "LookupError" p1) "__init__" p2) (e :: es) [] pos) (tLeI X.K "LookupError.__new__" leT ta) := by
  refine ⟨fun pins s σ H Q I h => PySem.W.methodCall_KW (ld_blt I hg hm boot_LE ?_ (by decide) (by decide)) hc⟩
  obtain ⟨m, fr⟩ := I.fr
  refine PySem.W.method_type fr I.ok.mod.kin typ_LE (by decide +kernel) vV (by decide +kernel) ?_
  show wpAny _ _ (callWith pos (Value.builtin "LookupError.__init__") [] (backTo pos (starEach (e :: es) X.env)) []) _ _ _
  refine PyProof.Rows.callWith_method1 (thn (ha.run pos pins _ σ H _ (I.tok _) h) fun us s1 ⟨vs, H1, I1, r1, a, C, ws, ev, hl, T, ea, q⟩ => ?_) he hpl
  subst ev
  cases r1 with
  | @cons _ u0 _ ur ra rw' =>
    obtain rfl : u0 = Value.ref a := ra
    refine gini_ok leF T I1 ea ?_ fun s2 J => ⟨.non, H1, J, rfl, q⟩
    rw [← Paired.length rw', sizeLine_eq]
    omega
theorem ps_gst (BF : BaseF newId initId tl) (ho : PE X o to) (he : PE X e te) (hs : swapsWith e (some (.Attribute o f p')) pos.line X.env = pure false := by rfl) : PS X (.Assign [.Attribute o f p'] e pos) (tGst X.K newId tl f to te) := by
  refine ⟨fun pins s σ H D I h => plainObj_wpAny_Assign_Attribute (thn (he.run pins s σ H _ I h) fun v s1 ⟨y, H1, I1, r1, q1⟩ => thn (ho.run pins s1 σ H1 _ I1 q1) fun u s2 ⟨x, H2, I2, r2, a, C, ex, T, hno, ea, q⟩ => ?_) hs⟩
  subst ex
  obtain rfl : u = Value.ref a := r2
  exact gst_new BF T I2 ea hno r1 fun dx s' n ne J => ⟨σ, _, J, q dx n ne⟩
end
end Aw
namespace Aw
open PySem PySem.Spec PyProof.Rows L2
/-- the error's class and its __init__, which keeps its promise -/
def HasG (P : Program) (w : World) (K : PySem.W.Frag) (mg : Str → Option Value) (base : Heap) (x : Str) (C : Addr) (newId initId : String) (tl : List Value) (ps : List Str) (k : Nat) (sp : Sp) : Prop :=
  BaseF newId initId tl ∧ GexC K newId tl C ∧ mg x = some (.ref C) ∧ ∃ (f : Addr) (fd : FuncData), PySem.W.findIn K (.ref C) "__init__" = some (some (.ref f)) ∧ PySem.W.typeIn K (.ref f) = some (.type "function") ∧ Binds K fd ps [] ∧ FnG P w K mg base CX0 k f fd ps sp
end Aw
namespace Aw
open PySem PySem.Spec PyProof.Rows L2
/-- the class of a value that may be an own error -/
inductive TyG (K : PySem.W.Frag) (H : Hp) : V → Value → Prop
  | base {x : V} {t : Value} (h : TyX K H x t) : TyG K H x t
  | err {a C dx : Addr} {fs : List (Str × V)} (e : H a = some (exo a C (some dx))) (ed : H dx = some (exd dx fs)) (c : ExcC K C) : TyG K H (.ref a) (.ref C)
  | bare {a C : Addr} (e : H a = some (ExO (.ref C) a)) (c : ExcC K C) : TyG K H (.ref a) (.ref C)
end Aw
namespace Aw
open PySem PySem.Spec PyProof.Rows L2
structure EFC (K : PySem.W.Frag) (mg : Str → Option Value) (x : Str) (C : Addr) (newId : String) (tl bm : List Value) : Prop where
  at_ : mg x = some (.ref C)
  lk : ∃ nm q N bs sn sub ab col dd k0 k1 k2 k3 k5, K.lookup C = some (excClassObj nm q C N bs bm true sn sub ab col dd k0 k1 k2 k3 k5 newId)
  rf : RfT tl bm
  sa : PySem.W.findIn K (.ref C) "__setattr__" = some (some (.builtin "object.__setattr__"))
  ga : PySem.W.findIn K (.ref C) "__getattribute__" = some (some (.builtin "BaseException.__getattribute__"))
  gg : PySem.W.findIn K (.ref C) "__getattr__" = some none
  kC : PySem.W.keepIn K (.ref C) = true
  tC : PySem.W.typeIn K (.ref C) = some (.type "type")
  hC : PySem.W.hasDictIn K C = true
  cl : PySem.W.findIn K (.ref C) "__class__" = some (some (.builtin "object.__class__"))
/-- what stands of the built-in word __class__ -/
structure ObC (K : PySem.W.Frag) : Prop where
  hn : PySem.W.specialIn K (.builtin "object.__class__") "__get__" = some (some (.builtin "getset_descriptor.__get__"))
  ht : PySem.W.takesIn K (.builtin "object.__class__") = some true
section
variable {K : PySem.W.Frag} {mg : Str → Option Value} {x : Str} {C : Addr} {newId : String} {tl bm : List Value}
theorem EFC.cls (e : EFC K mg x C newId tl bm) : ∃ cd, PySem.W.clsIn K C = some cd ∧ cd.mro = .ref C :: bm := by
  obtain ⟨nm, q, N, bs, sn, sub, ab, col, dd, k0, k1, k2, k3, k5, h⟩ := e.lk
  refine ⟨{ name := nm, bases := bs, mro := .ref C :: bm, ns := N, qualname := q, hasDict := true, slotNames := sn, subclasses := sub, abstract := ab, collection := col, hasDel := false }, ?_, rfl⟩
  unfold PySem.W.clsIn
  rw [h] <;> rfl
theorem EFC.sub (e : EFC K mg x C newId tl bm) (base : Value) : PySem.W.subIn K (.ref C) base = some ((Value.ref C :: bm).contains base) := by
  obtain ⟨cd, h1, h2⟩ := e.cls
  show PySem.W.mroIn K C base = _
  unfold PySem.W.mroIn
  rw [h1, Option.bind_some, h2, if_neg (by simp)]
theorem EFC.gex (e : EFC K mg x C newId tl bm) : GexC K newId tl C := by
  obtain ⟨nm, q, N, bs, sn, sub, ab, col, dd, k0, k1, k2, k3, k5, h⟩ := e.lk
  exact ⟨⟨nm, q, N, bs, bm, sn, sub, ab, col, dd, k0, k1, k2, k3, k5, h, e.rf⟩, e.sa, e.kC⟩
theorem EFC.has (e : EFC K mg x C newId tl bm) {T : String} (h : tl.contains (.type T) = true) : PySem.W.subIn K (.ref C) (.type T) = some true := by
  rw [e.sub, List.contains_cons, e.rf.has T, h]
  rfl
theorem EFC.xf (e : EFC K mg x C newId tl bm) (h : tl.contains (.type "BaseException") = true) : XfC K C := ⟨e.ga, e.gg, e.has h, e.hC⟩
theorem EFC.exc (e : EFC K mg x C newId tl bm) (o : ObC K) (h : tl.contains (.type "BaseException") = true) (h2 : tl.contains (.type "object") = true) : ExcC K C := ⟨e.ga, e.gg, e.has h, e.hC, e.cl, o.hn, o.ht, e.has h2⟩
end
end Aw
namespace Aw
open PySem PySem.Spec PyProof.Rows L2
theorem refsVE_of {bm : List Value} (h : RfT veT bm) : PySem.HandSPX.refsVE bm = true := by
  induction h with
  | base => rfl
  | ref c _ ih => exact ih
section
variable {P : Program} {w : World} {K : PySem.W.Frag} {mg : Str → Option Value} {base : Heap} {x : Str} {C : Addr} {newId initId : String} {tl bm : List Value} {ps : List Str} {k : Nat} {sp : Sp}
theorem EFC.oex (e : EFC K mg x C "ValueError.__new__" veT bm) : OexC K C := by
  obtain ⟨nm, q, N, bs, sn, sub, ab, col, dd, k0, k1, k2, k3, k5, h⟩ := e.lk
  exact ⟨⟨nm, q, N, bs, bm, sn, sub, ab, col, dd, k0, k1, k2, k3, k5, h, refsVE_of e.rf⟩, e.sa, e.has (T := "BaseException") (by decide +kernel), e.tC, e.kC⟩
theorem HasG.of (BF : BaseF newId initId tl) (e : EFC K mg x C newId tl bm) (h : HasM P w K mg base CX0 C "__init__" ps k sp) : HasG P w K mg base x C newId initId tl ps k sp := by
  obtain ⟨f, fd, _, M, b, F⟩ := h
  exact ⟨BF, e.gex, e.at_, f, fd, M.at_, beq_iff_eq.mp M.fn, b, F⟩
end
/-- an error that stands in the heap -/
def ErV (K : PySem.W.Frag) (H : Hp) (v : V) (C : Addr) (fs : List (Str × V)) : Prop := ∃ a dx : Addr, v = .ref a ∧ H a = some (exo a C (some dx)) ∧ H dx = some (exd dx fs)
def ErB (H : Hp) (v : V) (C : Addr) : Prop := ∃ a : Addr, v = .ref a ∧ H a = some (ExO (.ref C) a)
theorem ErV.kp {K : PySem.W.Frag} {H H1 : Hp} {v : V} {C : Addr} {fs : List (Str × V)} (h : ErV K H v C fs) (k : Kp [] H H1) : ErV K H1 v C fs := by
  obtain ⟨a, dx, e, h1, h2⟩ := h
  exact ⟨a, dx, e, k.get h1 (by simp), k.get h2 (by simp)⟩
theorem ErB.kp {H H1 : Hp} {v : V} {C : Addr} (h : ErB H v C) (k : Kp [] H H1) : ErB H1 v C := by
  obtain ⟨a, e, h1⟩ := h
  exact ⟨a, e, k.get h1 (by simp)⟩
/-- an error of the class at C, with or without fields -/
def Er (K : PySem.W.Frag) (H : Hp) (v : V) (C : Addr) : Prop := (∃ fs, ErV K H v C fs) ∨ ErB H v C
theorem Er.kp {K : PySem.W.Frag} {H H1 : Hp} {v : V} {C : Addr} (h : Er K H v C) (k : Kp [] H H1) : Er K H1 v C := h.imp (fun ⟨fs, q⟩ => ⟨fs, q.kp k⟩) fun q => q.kp k
theorem Er.ty {K : PySem.W.Frag} {H : Hp} {v : V} {C : Addr} (h : Er K H v C) (c : ExcC K C) : TyG K H v (.ref C) := by
  rcases h with ⟨fs, a, dx, rfl, h1, h2⟩ | ⟨a, rfl, h1⟩
  · exact .err h1 h2 c
  · exact .bare h1 c
end Aw
namespace Aw
open PySem PySem.Spec L2
theorem Doks.lst9 {ds : List PyData} {z k : Nat} (h : Doks ds z k) : Dok (.list ds) (z + 1) (k + 1) := by
  have := h.sz
  have := h.dp
  exact ⟨by rw [dsz]; omega, by rw [shb]; exact h.sh, by rw [PyData.depth]; omega⟩
theorem _root_.PySem.Paired.app {α β : Type} {F : α → β → Prop} {xs xs' : List α} {ys ys' : List β} (h : Paired F xs ys) (g : Paired F xs' ys') : Paired F (xs ++ xs') (ys ++ ys') := by
  induction h with
  | nil => exact g
  | cons a _ ih => exact .cons a ih
def bk (k : Nat) : List PyData := (List.range 20).map fun j => .bool (decide (j = k))
end Aw
namespace Aw
open PySem PySem.Spec PyProof.Rows L2 GenW
section
variable {prog : Program} {w : World} {A : Around} {R : GenEnd} {Y : Protocol} {n : Nat} {s₀ : Shared} {c : Code} {fs : List Frame} {s : Shared} {env : Env}
  {K : Flow → Sem PySem.Fin} {H : Value → Sem PySem.Fin} {gd : Bool → Bool} {lv : List Value → List Value}
theorem seg_For {tg iter : Expr} {body : List Stmt} {pos : Pos} (hs : ∀ x, foldedSetIterable iter env x = pure x)
    (h : wpAny (model prog w) (A.over c fs) (eval iter env) (fun v s1 => wpAny (model prog w) (A.over c fs) (pyIter v) (fun u s2 => ∀ p,
        Seg (model prog w) A R Y n s₀ (.forLoop tg u body [] env) ((model prog w).den (.forLoop tg u body [] env))
          (.ret (fun r => ((match r with | .ok f => (.pure f : Sem Flow) | .error e => .raise e).onRaise fun (x : Value) => do
            if (← field x 1) == Value.none then unsupported "frame.own-activation:exception-without-traceback"
            setFlight x env.frame).wrap K H gd lv) none (gd false) (lv []) c p [] :: fs) s2) (fun x s' => Seg (model prog w) A R Y n s₀ c (H x) fs s') s1) (fun x s' => Seg (model prog w) A R Y n s₀ c (H x) fs s') s) :
    Seg (model prog w) A R Y n s₀ c ((exec (.For tg iter body [] pos) env).wrap K H gd lv) fs s := by
  rw [exec_For]
  refine seg_at ?_
  show Seg (model prog w) A R Y n s₀ c ((eval iter env >>= fun v => foldedSetIterable iter env v >>= fun x => standAt iter.pos >>= fun _ => holding [x] (pyIter x) >>= fun u => runOwn (.forLoop tg u body [] env) env).wrap K H gd lv) fs s
  refine seg_bind_wrap (wpAny_mono h (fun v s1 h1 => ?_) fun x s' hx => hx)
  rw [hs v]
  show Seg _ _ _ _ _ _ _ ((standAt iter.pos >>= fun _ => holding [v] (pyIter v) >>= fun u => runOwn (.forLoop tg u body [] env) env).wrap K H gd lv) _ _
  refine seg_at ?_
  show Seg _ _ _ _ _ _ _ ((holding [v] (pyIter v) >>= fun u => runOwn (.forLoop tg u body [] env) env).wrap K H gd lv) _ _
  refine seg_bind_wrap (wpAny_holding (wpAny_mono h1 (fun u s2 h2 => ?_) fun x s' hx => hx))
  exact seg_call h2
/-- an exception leaves the loop -/
abbrev loopOut (env : Env) (x : Value) : Sem PySem.Fin := (do noteFrame x env; theTreesLotGoes x : Sem Unit).wrap (fun _ => .raise x) .raise id id
theorem seg_forLoop {tg : Expr} {it : Value} {body : List Stmt}
    (h : wpAny (model prog w) (A.over (.forLoop tg it body [] env) fs) (pyNext it) (fun r s1 => match r with
      | none => Seg (model prog w) A R Y n s₀ (.forLoop tg it body [] env) (.pure (.again (.block [] env))) fs s1
      | some v => wpAny (model prog w) (A.over (.forLoop tg it body [] env) fs) (letOwnedTupleGo tg it v) (fun _ s2 => wpAny (model prog w) (A.over (.forLoop tg it body [] env) fs) (assign tg env v) (fun _ s3 =>
          Seg (model prog w) A R Y n s₀ (.forLoop tg it body [] env) ((execs body env).wrap (fun f => match f with
            | .next | .cont => .pure (.again (.forLoop tg it body [] env))
            | .brk => .pure (.done .next)
            | .ret v => .pure (.done (.ret v))) (loopOut env) id id) fs s3)
          (fun x s' => Seg (model prog w) A R Y n s₀ (.forLoop tg it body [] env) (loopOut env x) fs s') s2) (fun x s' => Seg (model prog w) A R Y n s₀ (.forLoop tg it body [] env) (loopOut env x) fs s') s1)
      (fun x s' => Seg (model prog w) A R Y n s₀ (.forLoop tg it body [] env) (loopOut env x) fs s') s) :
    Seg (model prog w) A R Y n s₀ (.forLoop tg it body [] env) ((model prog w).den (.forLoop tg it body [] env)) fs s := by
  show Seg _ A R Y n s₀ _ ((forTurn tg it body [] env).onRaise (fun x => do noteFrame x env; theTreesLotGoes x)) fs s
  unfold forTurn
  rw [Sem.onRaise_eq_wrap]
  rw [Sem.wrap_congr _ id id (K' := fun a => (Sem.pure a : Sem PySem.Fin)) (H' := loopOut env) (fun _ => rfl) (fun e => Sem.bind_eq_wrap _ _)]
  show Seg _ A R Y n s₀ _ ((standAt tg.pos >>= fun _ => (pyNext it).onRaise (fun _ => standAt { tg.pos with line := 0 }) >>= fun r => match r with
    | none => again (.block [] env)
    | some v => letOwnedTupleGo tg it v >>= fun _ => assign tg env v >>= fun _ => execs body env >>= fun f => match f with
      | .next | .cont => again (.forLoop tg it body [] env)
      | .brk => pure (.done .next)
      | .ret v => pure (.done (.ret v))).wrap (fun a => (.pure a : Sem PySem.Fin)) (loopOut env) id id) fs s
  refine seg_bind_wrap (wpAny_standAt ?_)
  refine seg_bind_wrap (wpAny_onRaise (wpAny_mono h (fun r s1 h1 => ?_) fun x s' hx => wpAny_standAt hx))
  cases r with
  | none => exact h1
  | some v =>
    refine seg_bind_wrap (wpAny_mono h1 (fun _ s2 h2 => ?_) fun x s' hx => hx)
    refine seg_bind_wrap (wpAny_mono h2 (fun _ s3 h3 => ?_) fun x s' hx => hx)
    rw [Sem.bind_eq_wrap' (execs body env), Sem.wrap_wrap]
    refine cast (congrArg (fun t => Seg (model prog w) A R Y n s₀ (.forLoop tg it body [] env) t fs s3) ?_) h3
    exact Sem.wrap_congr (execs body env) id id (fun f => by cases f <;> rfl) (fun _ => rfl)
theorem seg_block0 (h : Seg (model prog w) A R Y n s₀ (.block [] env) (.pure (.done .next)) fs s) : Seg (model prog w) A R Y n s₀ c (.pure (.again (.block [] env))) fs s := seg_again rfl h
end
end Aw
namespace Aw
open PySem PySem.Spec PyProof.Rows L2 GenW
/-- a tuple or a list -/
def Flt1 (u : HO) : Prop := (∃ xs, u = .tup xs) ∨ ∃ xs, u = .lst xs
theorem Flt1.ok {P : Program} {w : World} {H H' : Hp} {h : Heap} {b : Addr} {u : HO} (f : Flt1 u) (x : ObjOk P w H h b u) : ObjOk P w H' h b u := by
  rcases f with ⟨xs, rfl⟩ | ⟨xs, rfl⟩ <;> exact x
/-- each object of Hr is one of H, as it stands in the heap -/
def Part (H Hr : Hp) (h : Heap) : Prop := ∀ b u, Hr b = some u → ∃ o u', u = .frz o u' ∧ Flt1 u' ∧ h.get? b = some o ∧ (H b = some u' ∨ ∃ o', H b = some (.frz o' u'))
theorem Part.hok {P : Program} {w : World} {H Hr : Hp} {h : Heap} (p : Part H Hr h) (x : HOk P w H h) : HOk P w Hr h := by
  intro b u e
  obtain ⟨o, u', rfl, f, ho, q⟩ := p b u e
  refine ⟨ho, ?_⟩
  rcases q with q | ⟨o', q⟩
  · exact f.ok (x b _ q)
  · exact f.ok (x b _ q).2
theorem Part.none {H Hr : Hp} {h : Heap} (p : Part H Hr h) {b : Addr} (e : H b = none) : Hr b = none := by
  cases q : Hr b with
  | none => rfl
  | some u =>
    obtain ⟨o, u', _, _, _, q⟩ := p b u q
    rcases q with q | ⟨_, q⟩ <;> rw [e] at q <;> cases q
/-- only frozen tuples and lists are there at the beginning -/
def Frz0 (H : Hp) : Prop := ∀ b u, H b = some u → ∃ o u', u = .frz o u' ∧ Flt1 u'
section
variable {X : Cx} {pins : List (Addr × Obj)} {σ : L2.St} {H Hr : Hp} {s : Shared}
theorem Inv.part (I : Inv X pins σ H s) (f : Frz0 X.H_0) (p : Part H Hr s.heap) (k : ∀ b u, X.H_0 b = some u → Hr b = some u) : Inv X pins σ Hr s := by
  refine ⟨I.ok, I.os, I.bare, ⟨I.base.keep, I.base.slot, fun b o e n hx => p.none (I.base.free b o e n hx), I.base.there, fun b xs e => ?_, fun b o u e => k b _ e, fun b ps e => ?_⟩,
    I.loc, I.cell, p.none I.free, fun x c e => p.none (I.freeC x c e), fun q hq => ?_, p.hok I.hok, I.len⟩
  · obtain ⟨o, u', z, _⟩ := f b _ e
    cases z
  · obtain ⟨o, u', z, _⟩ := f b _ e
    cases z
  · obtain ⟨h1, h2, h3⟩ := I.pin q hq
    exact ⟨h1, p.none h2, h3⟩
end
/-- behind the call of a generator: the state at the call is s -/
structure GSt (outer : List Env) (s : Shared) (a : Addr) (g : Nat) (s1 : Shared) : Prop where
  os : s1.os = s.os
  bare : AllBare s1.gens
  lim : s1.heap.NoLimit
  gen : s1.heap.IsGen a g
  old : ∀ b o, s.heap.get? b = some o → b ∉ frs outer → s1.heap.get? b = some o
  slot : ∀ b o, s.heap.get? b = some o → b ∈ frs outer → ∃ sl, s1.heap.get? b = some { o with slots := sl }
/-- the generator's own objects -/
def Priv (outer : List Env) (s : Shared) (pr cz : List Addr) (s1 : Shared) : Prop := ∀ b ∈ pr, s.heap.get? b = none ∧ b ∉ cz ∧ b ∉ frs outer ∧ ∃ o, s1.heap.get? b = some o ∧ ∀ v, o.data ≠ .cell v
/-- while it sleeps: its own objects and what was there at the call are kept; cz: the consumer's -/
structure Slp (outer : List Env) (s : Shared) (pr cz : List Addr) (s1 s' : Shared) : Prop where
  os : s'.os = s.os
  bare : AllBare s'.gens
  old : ∀ b o, s.heap.get? b = some o → b ∉ frs outer → s'.heap.get? b = some o
  slot : ∀ b o, s.heap.get? b = some o → b ∈ frs outer → ∃ sl, s'.heap.get? b = some { o with slots := sl }
  pr : ∀ b ∈ pr, ∀ o, s1.heap.get? b = some o → s'.heap.get? b = some o
  cz : ∀ b ∈ cz, ∃ o, s'.heap.get? b = some o ∧ ∀ v, o.data ≠ .cell v
section
variable {X : Cx} {ip : List (Addr × Obj)} {σ : L2.St} {H Hr : Hp} {s1 s' : Shared} {pr cz : List Addr}
/-- woken again -/
theorem Inv.wokenN (hex : X.ex = []) (hcl : ∀ x c, X.env.cells.lookup x ≠ some c) (I : Inv X (pinsAt cz s1.heap ++ ip) σ H s1) (hcz : ∀ b ∈ cz, ∃ o, s1.heap.get? b = some o) (z : Slp X.outer X.s_0 pr cz s1 s')
    (hL : X.env.locals ∈ pr) (hp : ∀ p ∈ X.pn ++ ip, p.1 ∈ pr) (hH : ∀ b u, H b = some u → b ∈ pr ∨ ∃ o, X.s_0.heap.get? b = some o ∧ b ∉ frs X.outer ∧ s1.heap.get? b = some o)
    (hfr : ∀ b ∈ X.fs, X.H_0 b = none) : Inv X (pinsAt cz s'.heap ++ ip) σ H s' := by
  have nex : ∀ b : Addr, b ∉ X.ex := fun b hb => by rw [hex] at hb; cases hb
  have kH : ∀ b u o, H b = some u → s1.heap.get? b = some o → s'.heap.get? b = some o := fun b u o e ho => by
    rcases hH b u e with q | ⟨o', q1, q2, q3⟩
    · exact z.pr b q o ho
    · rw [q3] at ho
      cases ho
      exact z.old b _ q1 q2
  refine ⟨I.ok, z.os, z.bare, ⟨fun b o e _ hb _ => z.old b o e hb, fun b o e _ hb _ => z.slot b o e hb, I.base.free, fun b o e _ => ?_, I.base.tups, I.base.frzs, I.base.tbls⟩, ?_, fun x c e => absurd e (hcl x c), I.free, I.freeC, fun p hq => ?_, fun b u e => ?_, I.len⟩
  · by_cases hb : b ∈ frs X.outer
    · obtain ⟨sl, q⟩ := z.slot b o e hb
      exact ⟨_, q⟩
    · exact ⟨_, z.old b o e hb⟩
  · obtain ⟨m, hn, hl⟩ := I.loc
    obtain ⟨o, es, ep, ho, r⟩ := hn
    refine ⟨m, ⟨o, es, ep, z.pr _ hL o ho, r⟩, fun i x v h1 h2 h3 => ?_⟩
    obtain ⟨u, r1, r2⟩ := hl i x v h1 h2 h3
    refine ⟨u, r1, ?_⟩
    rcases r2 with r2 | ⟨_, c, ec, _⟩
    · exact .inl r2
    · exact absurd ec (hcl x c)
  · have main : ∀ p ∈ X.pn ++ ip, s'.heap.get? p.1 = some p.2 ∧ H p.1 = none ∧ p.1 ≠ X.env.locals ∧ p.1 ∉ X.fs ∧ ∀ v, p.2.data ≠ .cell v := fun p hq => by
      have q := I.pin p ((List.mem_append.mp hq).elim (fun z => List.mem_append_left _ z) fun z => List.mem_append_right _ (List.mem_append_right _ z))
      exact ⟨z.pr p.1 (hp p hq) p.2 q.1, q.2⟩
    rcases List.mem_append.mp hq with hq | hq
    · exact main p (List.mem_append_left _ hq)
    rcases List.mem_append.mp hq with hq | hq
    · obtain ⟨hb, e⟩ := of_pinsAt hq
      obtain ⟨o, ho⟩ := hcz p.1 hb
      have q := I.pin (p.1, o) (List.mem_append_right _ (List.mem_append_left _ (mem_pinsAt hb ho)))
      obtain ⟨o', e', nc⟩ := z.cz p.1 hb
      rw [e] at e'
      cases e'
      exact ⟨e, q.2.1, q.2.2.1, q.2.2.2.1, nc⟩
    · exact main p (List.mem_append_right _ hq)
  · refine (I.hok b u e).stay (fun c v hc y => ?_) (fun _ y => y) fun _ _ y => y
    rcases hc with rfl | hc
    · exact kH _ _ v e y
    · exact kH _ _ v hc y
end
end Aw
namespace Aw
open PySem PySem.Spec PyProof.Rows L2 GenW
/-- a row is handed out; s: the state at the call, s₀: where it was woken -/
def GYx (outer : List Env) (s : Shared) (a : Addr) (g : Nat) (cz : List Addr) (rows : List (Int × V)) : Protocol := fun n s₀ v s1 kap =>
  ∃ (T : Addr) (i : Nat) (d : Int) (st : V) (pr : List Addr) (its : List Value), v = .ref T ∧ i + n + 1 = rows.length ∧ rows[i]? = some (d, st) ∧ Vals [.int (i : Nat), .int d, st] its ∧ IsTup s1.heap T its.toArray ∧
    T ∉ pr ∧ T ∉ cz ∧ s.heap.get? T = none ∧ a ∈ pr ∧ GSt outer s a g s1 ∧ Priv outer s pr cz s1 ∧ (∀ b ∈ cz, ∀ o, s₀.heap.get? b = some o → s1.heap.get? b = some o) ∧ ∀ s', Slp outer s pr cz s1 s' → kap (.send .none) s'
def GPx (outer : List Env) (s : Shared) (a : Addr) (g : Nat) (cz : List Addr) : Nat → Shared → Shared → Prop := fun n s₀ s1 => n = 0 ∧ GSt outer s a g s1 ∧ ∀ b ∈ cz, ∀ o, s₀.heap.get? b = some o → s1.heap.get? b = some o
def GRx (outer : List Env) (s : Shared) (a : Addr) (g : Nat) (cz : List Addr) : GenEnd := fun n s₀ r s1 => ((r = .ok (.ret .none) ∨ r = .ok .next) ∧ GPx outer s a g cz n s₀ s1) ∨ ∃ e, r = .error e ∧ (fun (_ : Value) (_ : Shared) => False) e s1
section
variable {X : Cx} {pins : List (Addr × Obj)} {σ : L2.St} {H : Hp} {s : Shared} {a : Addr} {g : Nat}
/-- what was there at the call stands as it was -/
theorem gst_of (hex : X.ex = []) (hf0 : Frz0 X.H_0) (hk0 : HOk X.prog X.w X.H_0 X.s_0.heap) (ha : s.heap.IsGen a g) (I : Inv X pins σ H s) : GSt X.outer X.s_0 a g s := by
  have nex : ∀ b : Addr, b ∉ X.ex := fun b hb => by rw [hex] at hb; cases hb
  refine ⟨I.os, I.bare, I.nolimit, ha, fun b o e hb => ?_, fun b o e hb => I.base.slot b o e (I.ok.frf b hb) hb (nex b)⟩
  cases q : X.H_0 b with
  | none => exact I.base.keep b o e q hb (nex b)
  | some u =>
    obtain ⟨o', u', rfl, _⟩ := hf0 b u q
    have h1 := (hk0 b _ q).1
    rw [e] at h1
    cases h1
    exact (I.hok b _ (I.base.frzs b o u' q)).1
end
theorem pinsAt_eq {cz : List Addr} {h h' : Heap} (k : ∀ b ∈ cz, ∃ o, h.get? b = some o ∧ h'.get? b = some o) : pinsAt cz h = pinsAt cz h' := by
  unfold pinsAt
  induction cz with
  | nil => rfl
  | cons b r ih =>
    obtain ⟨o, e1, e2⟩ := k b (List.mem_cons_self ..)
    rw [List.filterMap_cons, List.filterMap_cons, e1, e2, ih fun c hc => k c (List.mem_cons_of_mem _ hc)]
def newOnes (H0 Hr : Hp) (bs : List Addr) : List Addr := bs.filter fun b => (Hr b).isSome && (H0 b).isNone
theorem mem_new {H0 Hr : Hp} {bs : List Addr} {b : Addr} : b ∈ newOnes H0 Hr bs ↔ b ∈ bs ∧ (∃ u, Hr b = some u) ∧ H0 b = none := by
  unfold newOnes
  rw [List.mem_filter, Bool.and_eq_true, Option.isSome_iff_exists, Option.isNone_iff_eq_none]
theorem flt1_obj {P : Program} {w : World} {H : Hp} {h : Heap} {b : Addr} {o : Obj} {u : HO} (f : Flt1 u) (x : ObjOk P w H h b (.frz o u)) : h.get? b = some o ∧ ∀ v, o.data ≠ .cell v := by
  obtain ⟨e, x⟩ := x
  refine ⟨e, fun v q => ?_⟩
  rcases f with ⟨xs, rfl⟩ | ⟨xs, rfl⟩
  · obtain ⟨_, its, _, ob, e2, _, n, d⟩ := x
    rw [e] at e2
    cases e2
    rw [d] at q
    cases q
  · obtain ⟨_, its, n, _, e2⟩ := x
    rw [e] at e2
    cases e2
    cases q
section
variable {X : Cx} {rows : List (Int × V)} {a e l : Addr} {g : Nat} {go : Obj} {cz fp rs : List Addr} {tn : Nat → Heap → Prop} {tg ye : Expr} {gg : TG} {te : TE} {Hr : Hp} {fs : List Frame} {A : Around} {yp pos : Pos}
theorem nofr_of (I : X.Ok) {b : Addr} (h : X.s_0.heap.get? b = none) : b ∉ frs X.outer := fun hb => by
  obtain ⟨_, o, ho, _⟩ := I.funs.mem hb
  rw [h] at ho
  cases ho
theorem rows_seg (hxe : ∀ x s', X.xe x s' → False) (hc : X.calm = true) (hex : X.ex = []) (hcl : ∀ x c, X.env.cells.lookup x ≠ some c) (hf0 : Frz0 X.H_0) (hk0 : HOk X.prog X.w X.H_0 X.s_0.heap)
    (hco : X.env.scope.isCoroutine = false) (hi : interactive X.env = false) (hpn : X.pn = [(a, go)]) (hgo : ∀ h : Heap, h.get? a = some go → h.IsGen a g) (hna : X.s_0.heap.get? a = none) (haz : a ∉ cz)
    (T : Turn X.prog X.w X.K tg (Ite X.K l) fp e tn) (pg : PG X tg gg) (py : PE X ye te) (hlen : rs.length = rows.length) (hl : SqL X.K Hr l (rs.map V.ref))
    (hrow : ∀ (i : Nat) d st, rows[i]? = some (d, st) → ∃ r, rs[i]? = some r ∧ SqT X.K Hr r [.int d, st]) (hHf : ∀ b u, Hr b = some u → ∃ o u', u = .frz o u' ∧ Flt1 u') (hH0 : ∀ b u, X.H_0 b = some u → Hr b = some u)
    (hH1 : ∀ b u, Hr b = some u → b = l ∨ b ∈ rs ∨ X.H_0 b = some u)
    (step : ∀ (i : Nat) (d : Int) (st : V) (r T1 : Addr) (σ : L2.St), σ.length = X.N.length → rows[i]? = some (d, st) → Hr T1 = none → SqT X.K Hr r [.int d, st] →
      gg (.ref T1) σ (upd Hr T1 (.tup [.int (i : Nat), .ref r])) fun σ2 H2 => te σ2 H2 fun v H3 => ∃ T2, v = .ref T2 ∧ upd Hr T1 (.tup [.int (i : Nat), .ref r]) T2 = none ∧ H3 = upd (upd Hr T1 (.tup [.int (i : Nat), .ref r])) T2 (.tup [.int (i : Nat), .int d, st]))
    (hfs : splitAtGen fs = none) (hfg : fs.any Frame.guarded = false) (hov : A.over (.forLoop tg (.ref e) [.Expr (.Yield (some ye) yp) pos] [] X.env) fs = X.A)
    (hend : ∀ s₀ s, GPx X.outer X.s_0 a g cz 0 s₀ s → Seg (model X.prog X.w) A (GRx X.outer X.s_0 a g cz) (GYx X.outer X.s_0 a g cz rows) 0 s₀ (.block [] X.env) (.pure (.done .next)) fs s) :
    ∀ (r i : Nat) (s₀ s : Shared) (σ : L2.St), i + r = rows.length → (∀ b ∈ cz, ∃ o, s₀.heap.get? b = some o) → Inv X (pinsAt cz s₀.heap) σ Hr s → tn i s.heap → (∀ b ∈ fp, FpOk X (pinsAt cz s₀.heap) Hr b) →
      Seg (model X.prog X.w) A (GRx X.outer X.s_0 a g cz) (GYx X.outer X.s_0 a g cz rows) r s₀ (.forLoop tg (.ref e) [.Expr (.Yield (some ye) yp) pos] [] X.env) ((model X.prog X.w).den (.forLoop tg (.ref e) [.Expr (.Yield (some ye) yp) pos] [] X.env)) fs s := by
  have aGen : ∀ {pins : List (Addr × Obj)} {σ : L2.St} {H : Hp} {s : Shared}, Inv X pins σ H s → s.heap.get? a = some go ∧ H a = none ∧ ∀ v, go.data ≠ .cell v := fun {pins σ H s} I => by
    obtain ⟨h1, h2, _, _, h5⟩ := I.pin (a, go) (List.mem_append_left _ (by rw [hpn]; exact List.mem_cons_self ..))
    exact ⟨h1, h2, h5⟩
  have czAt : ∀ {ip : List (Addr × Obj)} {σ : L2.St} {H : Hp} {s₀ s : Shared}, (∀ b ∈ cz, ∃ o, s₀.heap.get? b = some o) → Inv X (pinsAt cz s₀.heap ++ ip) σ H s → ∀ b ∈ cz, ∃ o, s₀.heap.get? b = some o ∧ s.heap.get? b = some o ∧ H b = none ∧ b ≠ X.env.locals := fun {ip σ H s₀ s} hz I b hb => by
    obtain ⟨o, ho⟩ := hz b hb
    obtain ⟨h1, h2, h3, _⟩ := I.pin (b, o) (List.mem_append_right _ (List.mem_append_left _ (mem_pinsAt hb ho)))
    exact ⟨o, ho, h1, h2, h3⟩
  intro r
  induction r with
  | zero =>
    intro i s₀ s σ hir hz I st hf
    refine seg_forLoop ?_
    rw [hov]
    refine wpAny_mono (T.done X rfl rfl rfl hc i (pinsAt cz s₀.heap) s σ Hr (fun _ _ => False) I hf st ⟨_, hl, by rw [List.length_map]; omega⟩) (fun r1 s1 ⟨hr, I1⟩ => ?_) fun x s' h => h.elim
    subst hr
    refine seg_block0 (hend s₀ s1 ⟨rfl, gst_of hex hf0 hk0 (hgo _ (aGen I1).1) I1, fun b hb o ho => ?_⟩)
    exact (I1.pin (b, o) (List.mem_append_right _ (mem_pinsAt hb ho))).1
  | succ r ih =>
    intro i s₀ s σ hir hz I st hf
    obtain ⟨⟨d, sv⟩, hri⟩ : ∃ x, rows[i]? = some x := ⟨rows[i], List.getElem?_eq_getElem (by omega)⟩
    obtain ⟨rr, hr1, hr2⟩ := hrow i d sv hri
    have hri2 : (rs.map V.ref)[i]? = some (.ref rr) := by rw [List.getElem?_map, hr1]; rfl
    refine seg_forLoop ?_
    rw [hov]
    refine wpAny_mono (T.item X rfl rfl rfl hc i (pinsAt cz s₀.heap) s σ Hr (fun _ _ => False) I hf st ⟨_, _, hl, hri2⟩) (fun r1 s1 ⟨u, hr, h1⟩ => ?_) fun x s' h => h.elim
    subst hr
    refine wpAny_mono h1 (fun _ s2 ⟨x, H5, I5, r5, y5, st5, fr5⟩ => ?_) fun x s' h => h.elim
    obtain ⟨T1, x', rfl, hT1, rfl, hx'⟩ := y5
    obtain rfl : x' = .ref rr := Option.some.inj ((hx' _ hl).symm.trans hri2)
    have I5' := I5.pinned (fun b hb => ⟨fr5 b hb, (hf b hb).2⟩) (T.obj _ _ st5)
    refine wpAny_mono (pg.run _ s2 σ _ _ u _ I5' r5 (step i d sv rr T1 σ I.len hri hT1 hr2)) (fun _ s3 ⟨σ3, H6, I6, q6⟩ => ?_) fun x s' hx => (hxe x s' hx).elim
    refine seg_execs_cons ?_
    refine seg_Expr_Yield hfs rfl hfg ?_ hco hi
    rw [hov]
    refine wpAny_mono (py.run _ s3 σ3 H6 _ I6 q6) (fun v s4 hv => ?_) fun x s' hx => (hxe x s' hx).elim
    obtain ⟨vv, H7, I7, rv, T2, rfl, hT2, rfl⟩ := hv
    obtain rfl : v = Value.ref T2 := rv
    intro kap hk
    have nT1 : T2 ≠ T1 := fun z => by rw [z, upd_same] at hT2; cases hT2
    have hT2r : Hr T2 = none := by rw [upd_ne nT1] at hT2; exact hT2
    have tkT2 : upd (upd Hr T1 (.tup [.int (i : Nat), .ref rr])) T2 (.tup [.int (i : Nat), .int d, sv]) T2 = some (.tup [.int (i : Nat), .int d, sv]) := upd_same
    have keepR : ∀ b u, Hr b = some u → upd (upd Hr T1 (.tup [.int (i : Nat), .ref rr])) T2 (.tup [.int (i : Nat), .int d, sv]) b = some u := fun b u q => by
      rw [upd_ne (ne_of_none q hT2r), upd_ne (ne_of_none q hT1)]
      exact q
    have prt : Part (upd (upd Hr T1 (.tup [.int (i : Nat), .ref rr])) T2 (.tup [.int (i : Nat), .int d, sv])) Hr s4.heap := fun b u q => by
      obtain ⟨o, u', rfl, f⟩ := hHf b u q
      exact ⟨o, u', rfl, f, (I7.hok b _ (keepR b _ q)).1, .inr ⟨o, keepR b _ q⟩⟩
    have I8 := Inv.part I7 hf0 prt hH0
    have gen4 := aGen I7
    have cz4 := czAt hz I7
    have fp4 : ∀ b ∈ fp, ∀ o, s2.heap.get? b = some o → s4.heap.get? b = some o ∧ upd (upd Hr T1 (.tup [.int (i : Nat), .ref rr])) T2 (.tup [.int (i : Nat), .int d, sv]) b = none := fun b hb o e =>
      let z := I7.pin (b, o) (List.mem_append_right _ (List.mem_append_right _ (mem_pinsAt hb e)))
      ⟨z.1, z.2.1⟩
    have fpz : ∀ b ∈ fp, b ∉ cz := fun b hb hbz => by
      obtain ⟨o, ho⟩ := hz b hbz
      exact (hf b hb).2.2.2.2.2 (b, o) (List.mem_append_right _ (mem_pinsAt hbz ho)) rfl
    have nolocals : X.s_0.heap.get? X.env.locals = none := Heap.get?_none_of_le I7.ok.above
    have fpnew : ∀ b ∈ fp, X.s_0.heap.get? b = none := fun b hb => by
      rcases (hf b hb).2.2.2.1 with q | q
      · rw [hex] at q
        cases q
      · exact Heap.get?_none_of_le q
    have hT2n : X.s_0.heap.get? T2 = none := by
      cases q : X.s_0.heap.get? T2 with
      | none => rfl
      | some o =>
        have q0 : X.H_0 T2 = none := by
          cases z : X.H_0 T2 with
          | none => rfl
          | some u => rw [hH0 _ _ z] at hT2r; cases hT2r
        have := I7.base.free T2 o q q0 (by rw [hex]; simp)
        rw [this] at tkT2
        cases tkT2
    obtain ⟨_, its, rits, pl⟩ := I7.hok T2 _ tkT2
    have mpr : ∀ b, b ∈ X.env.locals :: a :: (fp ++ newOnes X.H_0 Hr (l :: rs)) ↔ b = X.env.locals ∨ b = a ∨ b ∈ fp ∨ b ∈ newOnes X.H_0 Hr (l :: rs) := fun b => by
      rw [List.mem_cons, List.mem_cons, List.mem_append]
    refine ⟨T2, i, d, sv, X.env.locals :: a :: (fp ++ newOnes X.H_0 Hr (l :: rs)), its, rfl, by omega, hri, rits, pl, fun hm => ?_, fun hm => ?_, hT2n, by rw [mpr]; exact .inr (.inl rfl), gst_of hex hf0 hk0 (hgo _ gen4.1) I7, fun b hb => ?_, fun b hb o ho => ?_, fun s' z => hk .none s' ?_⟩
    · rcases (mpr T2).mp hm with q | q | q | q
      · have := I7.free
        rw [← q, tkT2] at this
        cases this
      · have := gen4.2.1
        rw [← q, tkT2] at this
        cases this
      · obtain ⟨o, ho, _⟩ := T.obj _ _ st5 T2 q
        have := (fp4 T2 q o ho).2
        rw [tkT2] at this
        cases this
      · obtain ⟨_, ⟨u, q⟩, _⟩ := mem_new.mp q
        rw [hT2r] at q
        cases q
    · obtain ⟨_, _, _, q, _⟩ := cz4 T2 hm
      rw [tkT2] at q
      cases q
    · rcases (mpr b).mp hb with rfl | rfl | q | q
      · obtain ⟨m, ⟨o, es, ep, ho, hd, _⟩, _⟩ := I7.loc
        refine ⟨nolocals, fun hbz => ?_, nofr_of I7.ok nolocals, o, ho, fun v q => by rw [hd] at q; cases q⟩
        obtain ⟨_, _, _, _, q⟩ := cz4 _ hbz
        exact q rfl
      · exact ⟨hna, haz, nofr_of I7.ok hna, go, gen4.1, gen4.2.2⟩
      · obtain ⟨o, ho, nc⟩ := T.obj _ _ st5 b q
        exact ⟨fpnew b q, fpz b q, nofr_of I7.ok (fpnew b q), o, (fp4 b q o ho).1, nc⟩
      · obtain ⟨_, ⟨u, qu⟩, q0⟩ := mem_new.mp q
        obtain ⟨o, u', rfl, f⟩ := hHf b u qu
        have qn : X.s_0.heap.get? b = none := by
          cases z : X.s_0.heap.get? b with
          | none => rfl
          | some o1 =>
            have := I8.base.free b o1 z q0 (by rw [hex]; simp)
            rw [qu] at this
            cases this
        obtain ⟨h1, h2⟩ := flt1_obj f (I8.hok b _ qu)
        refine ⟨qn, fun hbz => ?_, nofr_of I7.ok qn, o, h1, h2⟩
        obtain ⟨_, _, _, z, _⟩ := czAt hz I8 b hbz
        rw [qu] at z
        cases z
    · obtain ⟨o', e1, e2, _⟩ := cz4 b hb
      rw [ho] at e1
      cases e1
      exact e2
    · refine seg_execs_nil ?_
      refine seg_again rfl ?_
      have ecz : pinsAt cz s₀.heap = pinsAt cz s4.heap := pinsAt_eq fun b hb => by
        obtain ⟨o, e1, e2, _⟩ := cz4 b hb
        exact ⟨o, e1, e2⟩
      rw [ecz] at I8
      have I9 := Inv.wokenN hex hcl I8 (fun b hb => by obtain ⟨o, _, e2, _⟩ := cz4 b hb; exact ⟨o, e2⟩) z ((mpr _).mpr (.inl rfl)) (fun p hp => ?_) (fun b u q => ?_) I8.ok.frf
      · have hz' : ∀ b ∈ cz, ∃ o, s'.heap.get? b = some o := fun b hb => by
          obtain ⟨o, e1, _⟩ := z.cz b hb
          exact ⟨o, e1⟩
        refine ih (i + 1) s' s' σ3 (by omega) hz' (I9.pins_of fun p hp => I9.pin p (List.mem_append_right _ (List.mem_append_left _ hp))) (T.keep _ _ _ st5 fun b hb o eo => ?_) fun b hb => ?_
        · exact (I9.pin (b, o) (List.mem_append_right _ (List.mem_append_right _ (mem_pinsAt hb eo)))).1
        · obtain ⟨o, ho, _⟩ := T.obj _ _ st5 b hb
          obtain ⟨f1, f2, f3, f4, f5, f6⟩ := hf b hb
          refine ⟨f1, f2, f3, f4, f5, fun p hp => ?_⟩
          rcases List.mem_append.mp hp with hp | hp
          · exact f6 p (List.mem_append_left _ hp)
          · intro ep
            exact fpz b hb (ep ▸ (of_pinsAt hp).1)
      · rcases List.mem_append.mp hp with hp | hp
        · rw [hpn] at hp
          rw [List.mem_singleton.mp hp]
          exact (mpr _).mpr (.inr (.inl rfl))
        · exact (mpr _).mpr (.inr (.inr (.inl (of_pinsAt hp).1)))
      · rcases hH1 b u q with rfl | h | h
        · by_cases h0 : X.H_0 b = none
          · exact .inl ((mpr _).mpr (.inr (.inr (.inr (mem_new.mpr ⟨List.mem_cons_self .., ⟨u, q⟩, h0⟩)))))
          · cases h1 : X.H_0 b with
            | none => exact absurd h1 h0
            | some u1 =>
              obtain ⟨o1, u', rfl, f⟩ := hf0 b u1 h1
              exact .inr ⟨o1, (hk0 b _ h1).1, fun hb => h0 (I8.ok.frf b hb), (I8.hok b _ (hH0 b _ h1)).1⟩
        · by_cases h0 : X.H_0 b = none
          · exact .inl ((mpr _).mpr (.inr (.inr (.inr (mem_new.mpr ⟨List.mem_cons_of_mem _ h, ⟨u, q⟩, h0⟩)))))
          · cases h1 : X.H_0 b with
            | none => exact absurd h1 h0
            | some u1 =>
              obtain ⟨o1, u', rfl, f⟩ := hf0 b u1 h1
              exact .inr ⟨o1, (hk0 b _ h1).1, fun hb => h0 (I8.ok.frf b hb), (I8.hok b _ (hH0 b _ h1)).1⟩
        · obtain ⟨o1, u', rfl, f⟩ := hf0 b u h
          exact .inr ⟨o1, (hk0 b _ h).1, (fun hb => nomatch (I8.ok.frf b hb).symm.trans h), (I8.hok b _ q).1⟩
end
end Aw
namespace Aw
open PySem PySem.Spec PyProof.Rows L2 GenW
/-- the tuples of H, frozen as they stand -/
def frzH (H : Hp) (h : Heap) : Hp := fun b => match H b, h.get? b with
  | some (.tup xs), some o => some (.frz o (.tup xs))
  | some (.frz o (.tup xs)), _ => some (.frz o (.tup xs))
  | _, _ => none
theorem frzH_cases {H : Hp} {h : Heap} {b : Addr} {u : HO} (e : frzH H h b = some u) : ∃ o xs, u = .frz o (.tup xs) ∧ ((H b = some (.tup xs) ∧ h.get? b = some o) ∨ H b = some (.frz o (.tup xs))) := by
  unfold frzH at e
  split at e
  · rename_i xs o h1 h2
    cases e
    exact ⟨o, xs, rfl, .inl ⟨h1, h2⟩⟩
  · rename_i o xs h1
    cases e
    exact ⟨o, xs, rfl, .inr h1⟩
  · exact nomatch e
theorem frzH_0 (H : Hp) (h : Heap) : Frz0 (frzH H h) := fun b u e => by
  obtain ⟨o, xs, rfl, _⟩ := frzH_cases e
  exact ⟨o, _, rfl, .inl ⟨xs, rfl⟩⟩
theorem frzH_none {H : Hp} {h : Heap} {b : Addr} (e : H b = none) : frzH H h b = none := by
  cases q : frzH H h b with
  | none => rfl
  | some u =>
    obtain ⟨o, xs, _, z⟩ := frzH_cases q
    rcases z with ⟨z, _⟩ | z
    · exact nomatch e.symm.trans z
    · exact nomatch e.symm.trans z
theorem frzH_hok {P : Program} {w : World} {H : Hp} {h : Heap} (x : HOk P w H h) : HOk P w (frzH H h) h := fun b u e => by
  obtain ⟨o, xs, rfl, q⟩ := frzH_cases e
  rcases q with ⟨q, ho⟩ | q
  · exact ⟨ho, x b _ q⟩
  · exact ⟨(x b _ q).1, (x b _ q).2⟩
theorem frzH_sqT {P : Program} {w : World} {K : PySem.W.Frag} {H : Hp} {h : Heap} {a : Addr} {xs : List V} (x : HOk P w H h) (q : SqT K H a xs) : SqT K (frzH H h) a xs := by
  rcases q with (q | ⟨o, q⟩) | q
  · obtain ⟨_, its, _, o, ho, _⟩ := x a _ q
    refine .inl (.inr ⟨o, ?_⟩)
    unfold frzH
    rw [q, ho]
  · refine .inl (.inr ⟨o, ?_⟩)
    unfold frzH
    rw [q]
  · exact .inr q
/-- the context of such a def's body: no exception leaves it -/
abbrev gcxN (P : Program) (w : World) (K : PySem.W.Frag) (mg : Str → Option Value) (base : Heap) (N : List Str) (qual : Str) (scope : Scope) (f : Addr) (cd : Value) (A : Around) (outer : List Env) (s : Shared) (H : Hp) (pn : List (Addr × Obj)) : Cx :=
  { gcxOf P w K mg base N qual scope f cd A outer s H (fun _ _ _ => False) pn with xe := fun _ _ => False }
theorem Inv.gcxN {P : Program} {w : World} {K : PySem.W.Frag} {mg : Str → Option Value} {base : Heap} {N : List Str} {qual : Str} {scope : Scope} {f : Addr} {cd : Value} {A : Around} {outer : List Env} {s s1 : Shared} {H H' : Hp} {pn pins : List (Addr × Obj)} {σ : L2.St}
    (I : Inv (gcxOf P w K mg base N qual scope f cd A outer s H (fun _ _ _ => False) []) [] σ H' s1)
    (h : ∀ p ∈ pn ++ pins, s1.heap.get? p.1 = some p.2 ∧ H' p.1 = none ∧ p.1 ≠ (envOfC qual scope s.heap.objs.size f cd).locals ∧ p.1 ∉ frs outer ∧ ∀ v, p.2.data ≠ .cell v) :
    Inv (Aw.gcxN P w K mg base N qual scope f cd A outer s H pn) pins σ H' s1 :=
  ⟨⟨I.ok.mod, I.ok.kind, I.ok.glob, I.ok.blt, I.ok.above, I.ok.inj, I.ok.has, I.ok.cab, I.ok.hd, I.ok.frames, I.ok.stk, I.ok.exf, I.ok.bs, I.ok.bsz, I.ok.noex, I.ok.exfs, I.ok.funs, I.ok.frf⟩, I.os, I.bare, I.base, I.loc, I.cell, I.free, I.freeC, h, I.hok, I.len⟩
/-- what the call of such a def gives -/
def GMk (P : Program) (w : World) (k : Nat) (outer : List Env) (s : Shared) (rows : List (Int × V)) (u : Value) (s' : Shared) : Prop :=
  ∃ (a : Addr) (g : Nat) (c : Code), u = .ref a ∧ s.heap.get? a = none ∧ s'.heap.IsGen a g ∧ s'.gens[g]? = some (.fresh c) ∧ s'.os = s.os ∧ AllBare s'.gens ∧ s'.heap.NoLimit ∧ (∀ b o, s.heap.get? b = some o → s'.heap.get? b = some o) ∧
    s.heap.objs.size ≤ s'.heap.objs.size ∧ ∀ (A : Around) (cz : List Addr) (s2 : Shared), RoomG k A → A.frames = some outer → (∀ b ∈ cz, s'.heap.objs.size ≤ b ∧ ∃ o, s2.heap.get? b = some o ∧ ∀ v, o.data ≠ .cell v) → (∀ b o, s'.heap.get? b = some o → s2.heap.get? b = some o) →
      s2.os = s.os → AllBare s2.gens → Seg (model P w) A (GRx outer s a g cz) (GYx outer s a g cz rows) rows.length s2 c ((model P w).den c) [] s2
/-- its promise: the rows that it hands out -/
abbrev SpI := List V → Hp → List (Int × V) → Prop
structure GFx (P : Program) (w : World) (K : PySem.W.Frag) (mg : Str → Option Value) (base : Heap) (k : Nat) (f : Addr) (fd : FuncData) (ps : List Str) (sp : SpI) : Prop where
  len : ∀ vs H rows, sp vs H rows → vs.length = ps.length
  run : ∀ (A : Around) (outer : List Env) (s : Shared) (H : Hp) (args : Args) (us : List Value) (vs : List V) (rows : List (Int × V)), RoomG k A → Env0 P w K mg base A outer s H → BindsTo s fd args (ps.zip us) → Vals vs us → sp vs H rows →
    codeAny (model P w) A (.call (.ref f) args) (fun r s' => match r with | .ok (.ret u) => GMk P w k outer s rows u s' | _ => False) s
def HasI (P : Program) (w : World) (K : PySem.W.Frag) (mg : Str → Option Value) (base : Heap) (x : Str) (ps : List Str) (k : Nat) (sp : SpI) : Prop :=
  ∃ (f : Addr) (fd : FuncData), PySem.W.keepIn K (.ref f) = true ∧ mg x = some (.ref f) ∧ Binds K fd ps [] ∧ GFx P w K mg base k f fd ps sp
/-- what a walk keeps of the heap: the frozen tuples of the call, the list, its rows -/
def rowsH (H0 H1 : Hp) (h : Heap) (l : Addr) (rs : List Addr) : Hp := fun b => match H0 b with
  | some u => some u
  | none => if b = l ∨ b ∈ rs then (match H1 b, h.get? b with
    | some (.tup xs), some o => some (.frz o (.tup xs))
    | some (.lst xs), some o => some (.frz o (.lst xs))
    | some (.frz o (.tup xs)), _ => some (.frz o (.tup xs))
    | _, _ => none) else none
theorem rowsH_cases {H0 H1 : Hp} {h : Heap} {l b : Addr} {rs : List Addr} {u : HO} (e : rowsH H0 H1 h l rs b = some u) :
    H0 b = some u ∨ (H0 b = none ∧ (b = l ∨ b ∈ rs) ∧ ∃ o u', u = .frz o u' ∧ Flt1 u' ∧ ((H1 b = some u' ∧ h.get? b = some o) ∨ H1 b = some (.frz o u'))) := by
  unfold rowsH at e
  split at e
  · rename_i u1 h1
    cases e
    exact .inl h1
  · rename_i h1
    by_cases hb : b = l ∨ b ∈ rs
    · rw [if_pos hb] at e
      refine .inr ⟨h1, hb, ?_⟩
      split at e
      · rename_i xs o q1 q2
        cases e
        exact ⟨o, _, rfl, .inl ⟨xs, rfl⟩, .inl ⟨q1, q2⟩⟩
      · rename_i xs o q1 q2
        cases e
        exact ⟨o, _, rfl, .inr ⟨xs, rfl⟩, .inl ⟨q1, q2⟩⟩
      · rename_i o xs q1
        cases e
        exact ⟨o, _, rfl, .inl ⟨xs, rfl⟩, .inr q1⟩
      · exact nomatch e
    · rw [if_neg hb] at e
      exact nomatch e
section
variable {P : Program} {w : World} {K : PySem.W.Frag} {mg : Str → Option Value} {base : Heap} {k : Nat} {f : Addr} {name qual : Str} {params : Arguments} {scope : Scope} {dV kV doc pm cdv ct oc : Value} {an od : Option Addr}
  {osl : Array (Option Value)} {N ps : List Str} {sp : SpI} {tg iter ye : Expr} {yp pos ypos : Pos}
theorem gfx_of (lk : K.lookup f = some ⟨oc, od, .func (PySem.W.fnOf name qual params [.For tg iter [.Expr (.Yield (some ye) yp) ypos] [] pos] scope dV kV doc pm an cdv ct), osl⟩) (hcd : PySem.W.codeIn K cdv qual = true)
    (S : GScope N ps scope) (hnc : ∀ n, cellsFrom n scope.names [] = []) (hfold : ∀ (env : Env) (x : Value), foldedSetIterable iter env x = pure x) (hint : ∀ n, interactive (envOfC qual scope n f cdv) = false)
    (len : ∀ vs H rows, sp vs H rows → vs.length = ps.length)
    (hbody : ∀ (A : Around) (outer : List Env) (s : Shared) (H : Hp) (vs : List V) (rows : List (Int × V)) (pn : List (Addr × Obj)), RoomG k (A.deeper (envOfC qual scope s.heap.objs.size f cdv)) → HOk P w H s.heap → sp vs H rows →
      ∃ (ta : TA) (gg : TG) (te : TE), PI (gcxN P w K mg base N qual scope f cdv A outer s (frzH H s.heap) pn) tg iter (iEnum K ta) ∧ PG (gcxN P w K mg base N qual scope f cdv A outer s (frzH H s.heap) pn) tg gg ∧
        PE (gcxN P w K mg base N qual scope f cdv A outer s (frzH H s.heap) pn) ye te ∧
        (∀ R : List V → Hp → Prop, (∀ (H1 : Hp) (l : Addr) (rs : List Addr), H1 l = some (.lst (rs.map V.ref)) → rs.length = rows.length → (∀ (i : Nat) d st, rows[i]? = some (d, st) → ∃ r, rs[i]? = some r ∧ SqT K H1 r [.int d, st]) → R [.ref l] H1) →
          ta (start N vs) (frzH H s.heap) R) ∧
        ∀ (i : Nat) (d : Int) (st : V) (r T1 : Addr) (σ : L2.St) (Hr : Hp), σ.length = N.length → rows[i]? = some (d, st) → Hr T1 = none → SqT K Hr r [.int d, st] →
          gg (.ref T1) σ (upd Hr T1 (.tup [.int (i : Nat), .ref r])) fun σ2 H2 => te σ2 H2 fun v H3 => ∃ T2, v = .ref T2 ∧ upd Hr T1 (.tup [.int (i : Nat), .ref r]) T2 = none ∧ H3 = upd (upd Hr T1 (.tup [.int (i : Nat), .ref r])) T2 (.tup [.int (i : Nat), .int d, st])) :
    GFx P w K mg base (k + 1) f (PySem.W.fnOf name qual params [.For tg iter [.Expr (.Yield (some ye) yp) ypos] [] pos] scope dV kV doc pm an cdv ct) ps sp := by
  refine ⟨len, fun A outer s H args us vs rows hr e0 hb rv hsp => ?_⟩
  have hl := len _ _ _ hsp
  have KX : K.In s.heap := e0.mod.kin.keeps fun b o e => (e0.bs b o e).1
  have lim : s.heap.NoLimit := e0.mod.nolimit.keeps fun b o e => (e0.bs b o e).1
  have hkind : ∀ y ∈ ps.zip us, scope.names.lookup y.1 = some .local ∨ (scope.names.lookup y.1 = some .cell ∧ ((cellsFrom (s.heap.objs.size + 1) scope.names []).lookup y.1).isSome = true) := fun ⟨n, v⟩ hy => by
    rcases S.par n (List.of_mem_zip hy).1 with q | q
    · exact .inl q
    · exact .inr ⟨q, PySem.W.cellsFrom_some _ _ _ (.inl q)⟩
  refine codeAny_call_generator hr.r.depth (KX _ _ lk) rfl S.co S.gen rfl (PySem.W.codeRec_of KX hcd) (hb _ _ _ _ ?_)
  refine wpAny_newFunctionEnv_cells S.kind hkind fun env he s1 x => ?_
  subst he
  have lim1 : s1.heap.NoLimit := lim.keeps x.toInCall.keep
  refine ⟨lim1, ?_⟩
  obtain ⟨h1, tk, es1, hk1⟩ := x.done
  have os1 : s1.os = s.os := by rw [es1]
  have gen1 : s1.gens = s.gens := by rw [es1]
  have lt1 : s.heap.objs.size < s1.heap.objs.size := x.toInCall.ns.lt
  have sz1 : s.heap.objs.size ≤ s1.heap.objs.size := Nat.le_of_lt lt1
  have kp1 : ∀ b o, s.heap.get? b = some o → s1.heap.get? b = some o := x.toInCall.keep
  have main : ∀ (go : Obj) (nm qn : Value) (tk2 : Nat), go.cls = .type "generator" → go.data = .fields #[.int s1.gens.size 0, nm, qn] → go.slots = #[] → (∀ h : Heap, (h.push go).get? h.objs.size = some go) →
      GMk P w (k + 1) outer s rows (.ref s1.heap.objs.size) { s1 with gens := s1.gens.push (.fresh (.func [.For tg iter [.Expr (.Yield (some ye) yp) ypos] [] pos] (envOfC qual scope s.heap.objs.size f cdv))), toks := tk2, heap := s1.heap.push go } := by
    intro go nm qn tk2 hgc hgd0 hgs hgp
    have hgen : ∀ h : Heap, h.get? s1.heap.objs.size = some go → h.IsGen s1.heap.objs.size s1.gens.size := fun h e => ⟨go, nm, qn, e, hgc, hgd0, hgs⟩
    have hpushed : (s1.heap.push go).get? s1.heap.objs.size = some go := hgp _
    have hsz : (s1.heap.push go).objs.size = s1.heap.objs.size + 1 := Heap.size_push ..
    refine ⟨s1.heap.objs.size, s1.gens.size, _, rfl, Heap.get?_none_of_le sz1, hgen _ hpushed, Array.getElem?_push_size .., os1, ?_, lim1.keeps fun b o e => Heap.get?_push_of_some _ e, fun b o e => Heap.get?_push_of_some _ (kp1 b o e), ?_, ?_⟩
    · exact AllBare.push (by rw [gen1]; exact e0.bare) rfl
    · show _ ≤ (s1.heap.push go).objs.size
      rw [hsz]
      exact Nat.le_succ_of_le sz1
    intro Az cz s2 hrw hfr hcz hk2 hos hba
    have hcz : ∀ b ∈ cz, s1.heap.objs.size + 1 ≤ b ∧ ∃ o, s2.heap.get? b = some o ∧ ∀ v, o.data ≠ .cell v := fun b hb => by
      have q := hcz b hb
      rw [show ({ s1 with gens := s1.gens.push (.fresh (.func [.For tg iter [.Expr (.Yield (some ye) yp) ypos] [] pos] (envOfC qual scope s.heap.objs.size f cdv))), toks := tk2, heap := s1.heap.push go } : Shared).heap.objs.size = s1.heap.objs.size + 1 from hsz] at q
      exact q
    have e0w : Env0 P w K mg base Az outer s (frzH H s.heap) := ⟨hfr, e0.mod, fun b o e => ⟨(e0.bs b o e).1, frzH_none (e0.bs b o e).2⟩, e0.bsz, e0.funs, fun b hb => frzH_none (e0.frf b hb), frzH_hok e0.hok, e0.bare⟩
    obtain ⟨ta, gg, te, pi, pg, py, hta, step⟩ := hbody Az outer s H vs rows [(s1.heap.objs.size, go)] ⟨hrw.r.deeper _, hrw.g⟩ e0.hok hsp
    have I1 : Inv (gcxOf P w K mg base N qual scope f cdv Az outer s (frzH H s.heap) (fun _ _ _ => False) []) [] (start N vs) (frzH H s.heap) s1 := inv_startG S hrw.r.hd e0w hl rv x
    have kp2 : ∀ b o, s1.heap.get? b = some o → s2.heap.get? b = some o := fun b o e => hk2 b o (Heap.get?_push_of_some _ e)
    have I2 : Inv (gcxOf P w K mg base N qual scope f cdv Az outer s (frzH H s.heap) (fun _ _ _ => False) []) [] (start N vs) (frzH H s.heap) s2 :=
      I1.call' (ch := []) (hos.trans os1.symm) (Un.kept kp2) (I1.hok.kept kp2) hba fun b z => by simp at z
    have hea : s2.heap.get? s1.heap.objs.size = some go := hk2 s1.heap.objs.size go hpushed
    have hgd : ∀ v, go.data ≠ .cell v := fun v q => by rw [hgd0] at q; cases q
    have young : ∀ b, s1.heap.objs.size ≤ b → frzH H s.heap b = none ∧ b ≠ s.heap.objs.size ∧ b ∉ frs outer := fun b hb => ⟨I1.hok.fresh hb, Nat.ne_of_gt (Nat.lt_of_lt_of_le lt1 hb), I1.nofs hb⟩
    have I3 : Inv (Aw.gcxN P w K mg base N qual scope f cdv Az outer s (frzH H s.heap) [(s1.heap.objs.size, go)]) (pinsAt cz s2.heap) (start N vs) (frzH H s.heap) s2 := by
      refine Inv.gcxN I2 fun p hp => ?_
      rcases List.mem_append.mp hp with z | z
      · rw [List.mem_singleton.mp z]
        obtain ⟨y1, y2, y3⟩ := young s1.heap.objs.size (Nat.le_refl _)
        exact ⟨hea, y1, y2, y3, hgd⟩
      · obtain ⟨hb, e⟩ := of_pinsAt z
        obtain ⟨hge, o, ho, nc⟩ := hcz p.1 hb
        obtain ⟨y1, y2, y3⟩ := young p.1 (by omega)
        rw [e] at ho
        cases ho
        exact ⟨e, y1, y2, y3, nc⟩
    have hxcl : ∀ x c, (envOfC qual scope s.heap.objs.size f cdv).cells.lookup x ≠ some c := fun x c e => by
      have e2 : (cellsFrom (s.heap.objs.size + 1) scope.names []).lookup x = some c := e
      rw [hnc] at e2
      cases e2
    refine seg_func ?_
    refine seg_execs_cons ?_
    refine seg_For (hfold _) ?_
    rw [over_func]
    refine wpAny_mono (pi.run (pinsAt cz s2.heap) s2 (start N vs) (frzH H s.heap) (fun J H1 => ∃ (l : Addr) (rs : List Addr), J = Ite K l ∧ H1 l = some (.lst (rs.map V.ref)) ∧ rs.length = rows.length ∧ ∀ (i : Nat) d st, rows[i]? = some (d, st) → ∃ r, rs[i]? = some r ∧ SqT K H1 r [.int d, st]) I3
        (hta _ fun H1 l rs q1 q2 q3 => ⟨l, _, rfl, SqL.of q1, l, rs, rfl, q1, q2, q3⟩))
      (fun v s3 h3 => wpAny_mono h3 (fun u s4 h4 p => ?_) fun x s' hx => False.elim hx) fun x s' hx => False.elim hx
    obtain ⟨it, fp, tn, J, H', rfl, I4, T, st4, f4, l, rs, rfl, hl4, hlen, hrow⟩ := h4
    have hk0 := frzH_hok (P := P) (w := w) e0.hok
    have hex : (Aw.gcxN P w K mg base N qual scope f cdv Az outer s (frzH H s.heap) [(s1.heap.objs.size, go)]).ex = [] := rfl
    have fz : ∀ b u, frzH H s.heap b = some u → H' b = some u := fun b u e => by
      obtain ⟨o, xs, rfl, _⟩ := frzH_cases e
      exact I4.base.frzs b o _ e
    have prt : Part H' (rowsH (frzH H s.heap) H' s4.heap l rs) s4.heap := fun b u e => by
      rcases rowsH_cases e with q | ⟨_, _, o, u', rfl, ft, q⟩
      · obtain ⟨o, xs, rfl, _⟩ := frzH_cases q
        exact ⟨o, _, rfl, .inl ⟨xs, rfl⟩, (I4.hok b _ (fz b _ q)).1, .inr ⟨o, fz b _ q⟩⟩
      · rcases q with ⟨q, ho⟩ | q
        · exact ⟨o, u', rfl, ft, ho, .inl q⟩
        · exact ⟨o, u', rfl, ft, (I4.hok b _ q).1, .inr ⟨o, q⟩⟩
    have I5 := Inv.part I4 (frzH_0 H s.heap) prt fun b u e => by
      show rowsH (frzH H s.heap) H' s4.heap l rs b = some u
      have e2 : frzH H s.heap b = some u := e
      unfold rowsH
      rw [e2]
    have hl5 : SqL K (rowsH (frzH H s.heap) H' s4.heap l rs) l (rs.map V.ref) := by
      obtain ⟨_, its, n, _, ho⟩ := I4.hok l _ hl4
      refine .inl (.inr ⟨{ cls := .type "list", data := .seq its.toArray n }, ?_⟩)
      unfold rowsH
      cases q : frzH H s.heap l with
      | some u =>
        obtain ⟨o, xs, rfl, _⟩ := frzH_cases q
        have := fz l _ q
        rw [hl4] at this
        cases this
      | none =>
        simp only [true_or, if_true, hl4, ho]
    have hrow5 : ∀ (i : Nat) d st, rows[i]? = some (d, st) → ∃ r, rs[i]? = some r ∧ SqT K (rowsH (frzH H s.heap) H' s4.heap l rs) r [.int d, st] := fun i d sv e => by
      obtain ⟨r, e1, e2⟩ := hrow i d sv e
      refine ⟨r, e1, ?_⟩
      have hm : r = l ∨ r ∈ rs := .inr (List.mem_of_getElem? e1)
      rcases e2 with (e2 | ⟨o, e2⟩) | e2
      · obtain ⟨_, its, _, o, ho, _⟩ := I4.hok r _ e2
        refine .inl (.inr ⟨o, ?_⟩)
        unfold rowsH
        cases q : frzH H s.heap r with
        | some u =>
          obtain ⟨o, xs, rfl, _⟩ := frzH_cases q
          have := fz r _ q
          rw [e2] at this
          cases this
        | none => simp only [hm, if_true, e2, ho]
      · refine .inl (.inr ⟨o, ?_⟩)
        unfold rowsH
        cases q : frzH H s.heap r with
        | some u =>
          have := fz r _ q
          rw [e2] at this
          cases this
          rfl
        | none => simp only [hm, if_true, e2]
      · exact .inr e2
    have hP : ∀ s₀ s5, GPx outer s s1.heap.objs.size s1.gens.size cz 0 s₀ s5 → Seg (model P w) Az (GRx outer s s1.heap.objs.size s1.gens.size cz) (GYx outer s s1.heap.objs.size s1.gens.size cz rows) 0 s₀ (.func [.For tg iter [.Expr (.Yield (some ye) yp) ypos] [] pos] (envOfC qual scope s.heap.objs.size f cdv)) (.pure (.done (.ret .none))) [] s5 :=
      fun s₀ s5 h => seg_end (.ok (.ret .none)) (.inl ⟨.inl rfl, h⟩)
    refine rows_seg (X := Aw.gcxN P w K mg base N qual scope f cdv Az outer s (frzH H s.heap) [(s1.heap.objs.size, go)]) (a := s1.heap.objs.size) (g := s1.gens.size) (go := go) (cz := cz) (rs := rs) (Hr := rowsH (frzH H s.heap) H' s4.heap l rs)
      (fun _ _ h => h) rfl rfl hxcl (frzH_0 H s.heap) hk0 S.co (hint _) rfl hgen (Heap.get?_none_of_le sz1) (fun hm => by have := (hcz _ hm).1; omega) T pg py hlen hl5 hrow5 (fun b u e => ?_) (fun b u e => ?_) (fun b u e => ?_)
      (fun i d sv r T1 σ h1 h2 h3 h4 => step i d sv r T1 σ _ h1 h2 h3 h4) rfl rfl ((over_loop rfl rfl).trans over_func) (fun s₀ s5 h => ?_) rows.length 0 s2 s4 (start N vs) (Nat.zero_add _) (fun b hb => by obtain ⟨_, o, ho, _⟩ := hcz b hb; exact ⟨o, ho⟩) I5 st4 (fun b hb => ⟨prt.none (f4 b hb).1, (f4 b hb).2⟩)
    · rcases rowsH_cases e with q | ⟨_, _, o, u', rfl, ft, _⟩
      · obtain ⟨o, xs, rfl, _⟩ := frzH_cases q
        exact ⟨o, _, rfl, .inl ⟨xs, rfl⟩⟩
      · exact ⟨o, u', rfl, ft⟩
    · have e2 : frzH H s.heap b = some u := e
      unfold rowsH
      rw [e2]
    · rcases rowsH_cases e with q | ⟨_, hb, _⟩
      · exact .inr (.inr q)
      · rcases hb with hb | hb
        · exact .inl hb
        · exact .inr (.inl hb)
    · exact seg_leaf (.ok .next) (hP s₀ s5 h)
  exact main _ _ _ _ rfl rfl rfl fun h => Heap.get?_push_size _ rfl
end
end Aw
namespace Aw
open PySem PySem.Spec PyProof.Rows L2 GenW
abbrev TGI := L2.St → Hp → (List (Int × V) → Hp → Prop) → Prop
structure PGenI (X : Cx) (k : Nat) (e : Expr) (tg : TGI) : Prop where
  run : ∀ (pins : List (Addr × Obj)) (s : Shared) (σ : L2.St) (H : Hp) (cont : List (Int × V) → Hp → Prop), Inv X pins σ H s → tg σ H cont → wpAny (model X.prog X.w) X.A (eval e X.env)
    (fun u s' => ∃ s1 H1 rows, Inv X pins σ H1 s1 ∧ GMk X.prog X.w k X.stack s1 rows u s' ∧ cont rows H1) X.xe s
def tCallI (sp : SpI) (t : TA) : TGI := fun σ H cont => t σ H fun vs H1 => ∃ rows, sp vs H1 rows ∧ cont rows H1
theorem pgenI_call {X : Cx} {k : Nat} {x : Str} {ps : List Str} {sp : SpI} {e : Expr} {es : List Expr} {t : TA} {p pos : Pos} (F : HasI X.prog X.w X.K X.mg X.base x ps k sp) (hr : RoomG k X.A) (hg : Gl X x) (ha : PA X (e :: es) t)
    (hdb : (x == ("__debug__" : Str)) = false := by decide) (he : starEach (e :: es) X.env = (false, eval e X.env) :: starEach es X.env := by rfl) (hpl : (backTo pos (starEach es X.env)).any (·.1) = false := by rfl) :
    PGenI X k (.Call (.Name x p) (e :: es) [] pos) (tCallI sp t) := by
  obtain ⟨f, fd, hk, hm, hb, F⟩ := F
  refine ⟨fun pins s σ H cont I h => wpAny_Call_Name_kw (ld_glob I hg hm ?_ hdb)⟩
  refine PySem.W.callWith_K (h₀ := X.base) I.ok.mod.kin hk (thn (ha.run pos pins s σ H _ I h) fun us s1 ⟨vs, H1, I1, r, rows, q1, q2⟩ => ⟨I1.kIn, ?_⟩) he hpl
  have hl : (us ++ []).length = ps.length := by
    rw [List.append_nil, ← r.length]
    exact F.len _ _ _ q1
  have bb := hb s1 us I1.kIn hl
  rw [List.append_nil] at bb
  show wpAny (model X.prog X.w) X.A (call (.ref f) us) _ _ s1
  refine wpAny_call (codeAny_mono (F.run X.A X.stack s1 H1 ⟨us, []⟩ us vs rows hr I1.env0 bb r q1) fun r' s' hq => ?_)
  cases r' with
  | error e => exact False.elim hq
  | ok fl =>
    cases fl with
    | ret u => exact ⟨s1, H1, rows, I1, hq, q2⟩
    | next => exact False.elim hq
    | brk => exact False.elim hq
    | cont => exact False.elim hq
section
variable {prog : Program} {w : World} {A : Around} {E : Value → Shared → Prop} {s : Shared} {env : Env}
/-- the same but for the tokens -/
def Tks (s s' : Shared) : Prop := ∃ tk, s' = { s with toks := tk }
theorem raw_name {m : Str → Option Value} {y : Str} {u : Value} {p : Pos} (hk : env.scope.kind = .function) (hl : env.kindOf y = some .local) (hn : s.heap.Ns env.locals m) (hm : m y = some u) (hd : (y == ("__debug__" : Str)) = false) :
    wpAny (model prog w) A (eval (.Name y p) env) (fun v s' => v = u ∧ Tks s s') E s := wpAny_Name (wpAny_loadName_local hk hl hn hm ⟨rfl, _, rfl⟩) hd
theorem raw_ix {a : Expr} {j : Nat} {k : Nat} {p pos : Pos} {t : Addr} {its : Array Value} {u : Value} (ha : wpAny (model prog w) A (eval a env) (fun v s' => v = .ref t ∧ Tks s s') E s) (ht : IsTup s.heap t its) (hj : its[j]? = some u)
    (hz : its.size < 1000) (hs : ∀ o i, subscripted (.Constant (.int (j : Nat)) k p) false o i = operate [o, i] (getItem o i)) :
    wpAny (model prog w) A (eval (.Subscript a (.Constant (.int (j : Nat)) k p) pos) env) (fun v s' => v = u ∧ Tks s s') E s := by
  refine Subscript_ (wpAny_mono ha (fun v s1 h1 => ?_) fun _ _ h => h)
  obtain ⟨rfl, tk, rfl⟩ := h1
  refine wpAny_Constant_int ?_
  have hjl : j < its.size := (Array.getElem?_eq_some_iff.mp hj).1
  refine subscriptTail_builtinR (x := u) (s := { s with toks := tk + 1 }) ht.typeIs slot_tuple_getitem.lookup
    (getItem_tuple (j := j) (Q := fun r s' => r = u ∧ (r = u ∧ Tks s s')) ht (by omega) (by omega) (by rw [seqIndex_of (by omega) (by omega), Int.toNat_natCast]) hj ⟨rfl, rfl, tk + 1, rfl⟩) (hs _ _)
/-- [y][2][0] in a table of texts -/
theorem raw_in {l : Expr} {y : Str} {p pos : Pos} {z : Str} {tz : Tok} {R : Addr} {its : Array Value} {ws : List Str} (hl : wpAny (model prog w) A (eval l env) (fun v s' => v = .str z tz ∧ Tks s s') E s)
    (hR : ∀ s', Tks s s' → wpAny (model prog w) A (eval (.Name y p) env) (fun v s'' => v = .ref R ∧ Tks s' s'') E s') (ht : IsTup s.heap R its) (hw : Vals (ws.map V.str) its.toList) (hm : behindInMarks .In (.Name y p) = false) (whole : Sem Value) :
    wpAny (model prog w) A (isTrue (.Compare l [.In] [.Name y p] pos) env whole) (fun b s' => b = ws.contains z ∧ Tks s s') E s := by
  refine wpAny_isTrue_Compare1 (wpAny_mono hl (fun v s1 h1 => ?_) fun _ _ h => h) hm
  obtain ⟨rfl, tk, rfl⟩ := h1
  refine wpAny_mono (hR _ ⟨tk, rfl⟩) (fun u s2 h2 => ?_) fun _ _ h => h
  obtain ⟨rfl, tk2, rfl⟩ := h2
  have fx : flatV (.str z) = true := rfl
  have fs : (ws.map V.str).all flatV = true := by
    rw [List.all_eq_true]
    intro v hv
    obtain ⟨_, _, rfl⟩ := List.mem_map.mp hv
    rfl
  have rx : RelV (.str z) (.str z tz) := ⟨tz, rfl⟩
  refine SeqAt.in_tupleAt (eqU (.str z)) (show ({ s with toks := tk2 } : Shared).heap.IsTuple R its from ht) (fun w' hw' => mem_eqAt rx fx hw fs w' (Array.mem_toList_iff.mpr hw')) ?_
  have e1 : its.any (eqU (.str z)) = (ws.map V.str).any fun y => eqV y (.str z) := by
    rw [← any_eqU hw fs, Array.any_toList]
  rw [e1]
  refine wpAny_truthy_bool ⟨?_, tk2, rfl⟩
  rw [List.any_map]
  clear e1 hw fs
  induction ws with
  | nil => rfl
  | cons a r ih =>
    rw [List.any_cons, ih, List.contains_cons]
    congr 1
    show (a == z) = (z == a)
    by_cases h : a = z
    · rw [h]
    · rw [beq_eq_false_iff_ne.mpr h, beq_eq_false_iff_ne.mpr (Ne.symm h)]
end
theorem base_kin {X : Cx} {pins : List (Addr × Obj)} {σ : L2.St} {H : Hp} {s1 s5 : Shared} {a : Addr} {g : Nat} (I : Inv X pins σ H s1) (G : GSt X.stack s1 a g s5) : ∀ b o, X.base.get? b = some o → s5.heap.get? b = some o := fun b o e => by
  refine G.old b o (I.bk b o e) fun hb => ?_
  obtain ⟨q, _⟩ := I.stack.mem hb
  rw [q] at e
  cases e
def selI (ws : List Str) (hd : Nat → Str) (i : Nat) : List V := ((List.range i).filter fun j => ws.contains (hd j)).map fun j => V.int (j : Nat)
theorem selI_succ (ws : List Str) (hd : Nat → Str) (i : Nat) : selI ws hd (i + 1) = selI ws hd i ++ (if ws.contains (hd i) = true then [V.int (i : Nat)] else []) := by
  unfold selI
  rw [List.range_succ, List.filter_append, List.map_append]
  congr 1
  by_cases h : ws.contains (hd i) = true
  · rw [if_pos h, List.filter_cons_of_pos (by exact h)]
    rfl
  · rw [if_neg h, List.filter_cons_of_neg (by exact h)]
    rfl
theorem selI_len (ws : List Str) (hd : Nat → Str) (i : Nat) : (selI ws hd i).length ≤ i := by
  unfold selI
  rw [List.length_map]
  refine Nat.le_trans (List.length_filter_le _ _) ?_
  rw [List.length_range]
  exact Nat.le_refl _
/-- [row[0] for row in g(..) if row[2][0] in WORDS] -/
def tRows (K : PySem.W.Frag) (ws : List Str) (tg : TGI) : TE := fun σ H Q => tg σ H fun rows H1 => rows.length < 1000 ∧ ∃ hd : Nat → Str,
  (∀ (i : Nat) d st, rows[i]? = some (d, st) → ∃ a xs, st = .ref a ∧ SqT K H1 a (.str (hd i) :: xs) ∧ xs.length < 900) ∧ ∀ D, H1 D = none → Q (.ref D) (upd H1 D (.lst (selI ws hd rows.length)))
/-- between two turns -/
structure LSt (X : Cx) (s1 : Shared) (a : Addr) (g : Nat) (D C : Addr) (rows : List (Int × V)) (ws : List Str) (hd : Nat → Str) (i : Nat) (s5 : Shared) : Prop where
  st : GSt X.stack s1 a g s5
  lst : ∃ acc c, Vals (selI ws hd i) acc.toList ∧ s5.heap.get? D = some (lstObj acc c)
  ns : ∃ m, s5.heap.Ns C m
  gen : ∃ gs, s5.gens[g]? = some gs ∧ gs.Goes (model X.prog X.w) X.A.in1 (GRx X.stack s1 a g [D, C]) (GYx X.stack s1 a g [D, C] rows) (rows.length - i) (.send .none) (s5.setGen g .running)
section
variable {X : Cx} {pins : List (Addr × Obj)} {σ : L2.St} {H1 : Hp} {s1 : Shared} {a D C R : Addr} {g : Nat} {rows : List (Int × V)} {ws : List Str} {hd : Nat → Str} {scope : Scope} {iter : Expr} {y rn : Str} {py q1 q2 q3 p1 p2 p3 p4 p5 p6 p7 pos : Pos} {kk k1 k2 k3 : Nat}
theorem sqT_nofr {b : Addr} {xs : List V} (I : Inv X pins σ H1 s1) (h : SqT X.K H1 b xs) : b ∉ frs X.stack := fun hb => by
  rcases h with (h | ⟨o, h⟩) | ⟨o, its, n, lk, _⟩
  · rw [I.stkFree b hb] at h
    cases h
  · rw [I.stkFree b hb] at h
    cases h
  · have e := I.ok.mod.kin b o lk
    obtain ⟨q, _⟩ := I.stack.mem hb
    rw [q] at e
    cases e
/-- the loop of the block -/
theorem rows_loop (hc : X.calm = true) (hr : RoomG (kk + 1) X.A) (I : Inv X pins σ H1 s1) (hDn : s1.heap.get? D = none) (hCn : s1.heap.get? C = none) (hDC : D ≠ C) (haD : a ≠ D) (haC : a ≠ C)
    (hD1 : s1.heap.objs.size ≤ D) (hC1 : s1.heap.objs.size ≤ C)
    (hkk : (compEnvC scope [] C X.env).scope.kind = .function) (hky : (compEnvC scope [] C X.env).kindOf y = some .local) (hkr : (compEnvC scope [] C X.env).kindOf rn = some .globalImplicit)
    (hgl : (compEnvC scope [] C X.env).globals = mainGlobals) (hm : X.mg rn = some (.ref R)) (hR : ∃ its : Array Value, Vals (ws.map V.str) its.toList ∧ ∀ h : Heap, X.K.In h → IsTup h R its)
    (hdy : (y == ("__debug__" : Str)) = false) (hdr : (rn == ("__debug__" : Str)) = false) (hmk : behindInMarks .In (.Name rn p6) = false)
    (hsi : ∀ (j : Nat) (k : Nat) (p : Pos) (o i : Value), subscripted (.Constant (.int (j : Nat)) k p) false o i = operate [o, i] (getItem o i))
    (hrows : ∀ (i : Nat) d st, rows[i]? = some (d, st) → ∃ b xs, st = .ref b ∧ SqT X.K H1 b (.str (hd i) :: xs) ∧ xs.length < 900) (hlen : rows.length < 1000)
    {Rr : Result → Shared → Prop} (hend : ∀ s', GSt X.stack s1 a g s' → (∃ acc c, Vals (selI ws hd rows.length) acc.toList ∧ s'.heap.get? D = some (lstObj acc c)) → (∃ m, s'.heap.Ns C m) → Rr (.ok .next) s') :
    ∀ (n : Nat) (s : Shared), (∃ i, n + i = rows.length ∧ LSt X s1 a g D C rows ws hd i s) →
      codeAny (model X.prog X.w) X.A (.compLoop (.ListComp (.Subscript (.Name y q1) (.Constant (.int ((0 : Nat) : Int)) k1 q2) q3) [⟨.Name y py, iter, [.Compare (.Subscript (.Subscript (.Name y p1) (.Constant (.int ((2 : Nat) : Int)) k2 p2) p3) (.Constant (.int ((0 : Nat) : Int)) k3 p4) p5) [.In] [.Name rn p6] p7], 0⟩] scope pos) 0 (.ref a) (.ref D) (compEnvC scope [] C X.env)) Rr s := by
  obtain ⟨its, hits, hRt⟩ := hR
  have cL : (compEnvC scope [] C X.env).locals = C := rfl
  have hcls : ((compEnvC scope [] C X.env).scope.kind == .class || ((compEnvC scope [] C X.env).scope.kind == .module && (compEnvC scope [] C X.env).locals != (compEnvC scope [] C X.env).globals)) = false := by rw [hkk]; rfl
  have nofrD : D ∉ frs X.stack := fun hb => by
    obtain ⟨_, o, ho, _⟩ := I.stack.mem hb
    rw [hDn] at ho
    cases ho
  have nofrC : C ∉ frs X.stack := fun hb => by
    obtain ⟨_, o, ho, _⟩ := I.stack.mem hb
    rw [hCn] at ho
    cases ho
  intro n s hI
  refine compLoop_any (fun n s => ∃ i, n + i = rows.length ∧ LSt X s1 a g D C rows ws hd i s) ?_ n hI
  clear hI
  clear n s
  rintro n s5 ⟨i, hni, L⟩
  obtain ⟨G, ⟨acc, cc, rv, hD⟩, ⟨m, hC⟩, gs, hgs, hgo⟩ := L
  have hCo : ∃ o, s5.heap.get? C = some o ∧ ∀ v, o.data ≠ .cell v := by
    obtain ⟨o, es, ep, ho, hd', _⟩ := hC
    exact ⟨o, ho, fun v q => by rw [hd'] at q; cases q⟩
  have gsz : g + 1 ≤ s5.gens.size := by
    rcases Nat.lt_or_ge g s5.gens.size with h | h
    · exact h
    · rw [Array.getElem?_eq_none h] at hgs
      cases hgs
  have self : ∀ {s6 : Shared} {pr : List Addr}, GSt X.stack s1 a g s6 → Priv X.stack s1 pr [D, C] s6 → (∀ b ∈ [D, C], ∀ o, (s5.setGen g .running).heap.get? b = some o → s6.heap.get? b = some o) → Slp X.stack s1 pr [D, C] s6 s6 := fun {s6 pr} G6 P6 cz6 =>
    ⟨G6.os, G6.bare, G6.old, G6.slot, fun b hb o e => e, fun b hb => by
      rcases List.mem_cons.mp hb with rfl | hb
      · exact ⟨_, cz6 _ (List.mem_cons_self ..) _ hD, fun v q => by cases q⟩
      · rw [List.mem_singleton.mp hb]
        obtain ⟨o, ho, nc⟩ := hCo
        exact ⟨o, cz6 C (by simp) o ho, nc⟩⟩
  refine wpAny_gsz (n := g + 1) gsz ?_
  refine next_genG (F := GPx X.stack s1 a g [D, C]) (Er := fun _ _ => False) (I.ok.hd hc) G.lim hr.r.depth G.gen hgs hgo (fun v s6 gs' hbare hv hgz => ?_) (fun s6 hp h' hk _ => ?_) fun _ _ h => h.elim
  · obtain ⟨T, i', d, st, pr, ti, rfl, hi', hri, hti, hT, hTp, hTc, hTn, hap, G6, P6, cz6, hkap⟩ := hv
    cases hn : rows.length - i with
    | zero =>
      rw [hn] at hkap
      exact (hkap s6 (self G6 P6 cz6)).elim
    | succ m' =>
      rw [hn] at hkap hi'
      obtain rfl : i' = i := by
        have : m' + 1 - 1 = m' := rfl
        omega
      have hkap : ∀ s', Slp X.stack s1 pr [D, C] s6 s' → gs'.Goes (model X.prog X.w) X.A.in1 (GRx X.stack s1 a g [D, C]) (GYx X.stack s1 a g [D, C] rows) m' (.send .none) s' := hkap
      have hD6 := cz6 D (List.mem_cons_self ..) _ hD
      obtain ⟨oC, esC, epC, hoC, hdC, hrC⟩ := hC
      have hC6 : s6.heap.Ns C m := ⟨oC, esC, epC, cz6 C (by simp) _ hoC, hdC, hrC⟩
      have gs6 : (s6.setGen g gs').gens[g]? = some gs' := setGen_at (by rw [setGen_size] at hgz; exact hgz)
      have bare6 : AllBare (s6.setGen g gs').gens := allBare_setGen G6.bare hbare
      have hTC : T ≠ C := fun q => hTc (by rw [q]; simp)
      have hTD : T ≠ D := fun q => hTc (by rw [q]; simp)
      show wpAny _ _ (letOwnedTupleGo (.Name y py) (.ref a) (.ref T)) _ _ _
      refine wpAny_pure ?_
      refine wpAny_assign_Name (wpAny_storeName_local (s := s6.setGen g gs') hky hC6 (fun h' hn' hs => ?_) hcls)
      rw [cL] at hn' hs
      have hs2 : ∀ b, b ≠ C → h'.get? b = s6.heap.get? b := fun b hb => hs.2 b hb
      have hmy : (fun x => if x = y then some (Value.ref T) else m x) y = some (.ref T) := by simp
      -- what stands behind the store
      have kin7 : ∀ b o, X.base.get? b = some o → h'.get? b = some o := fun b o e => by
        have q := base_kin I G6 b o e
        have hne : b ≠ C := fun z => by
          have := I.bk b o e
          rw [z, hCn] at this
          cases this
        rw [hs2 b hne]
        exact q
      have KX : X.K.In h' := I.ok.mod.kin.keeps kin7
      have hT7 : IsTup h' T ti.toArray := by
        obtain ⟨o, ho, r⟩ := hT
        exact ⟨o, (hs2 T hTC).trans ho, r⟩
      obtain ⟨b, xs, rfl, hsq, hxs⟩ := hrows _ d st hri
      obtain ⟨bi, hbi, hbT, _⟩ := I.tuple hsq
      have hb7 : IsTup h' b bi.toArray := by
        obtain ⟨o, ho, r⟩ := hbT
        refine ⟨o, ?_, r⟩
        have hne : b ≠ C := fun z => by
          rw [z, hCn] at ho
          cases ho
        rw [hs2 b hne]
        refine G6.old b o ho fun hb => ?_
        exact sqT_nofr I hsq hb
      -- the row's items
      cases hti with
      | @cons _ u0 _ us hv0 ht0 =>
      cases ht0 with
      | @cons _ u1 _ us1 hv1 ht1 =>
      cases ht1 with
      | @cons _ u2 _ us2 hv2 ht2 =>
      cases ht2
      obtain rfl : u2 = Value.ref b := hv2
      cases hbi with
      | @cons _ w0 _ wr hw0 hwr =>
      obtain ⟨tz, rfl⟩ : ∃ tz, w0 = Value.str (hd i') tz := hw0
      have hwl : wr.length = xs.length := hwr.length.symm
      have ri : ∀ (s8 : Shared) (p : Pos), Tks { s6.setGen g gs' with heap := h', toks := (s6.setGen g gs').toks + 1 } s8 → wpAny (model X.prog X.w) X.A (eval (.Name y p) (compEnvC scope [] C X.env)) (fun v s' => v = .ref T ∧ Tks s8 s') (fun _ _ => False) s8 := by
        rintro s8 p ⟨tk, rfl⟩
        exact raw_name hkk hky hn' hmy hdy
      -- the test
      have test : wpAny (model X.prog X.w) X.A (isTrue (.Compare (.Subscript (.Subscript (.Name y p1) (.Constant (.int ((2 : Nat) : Int)) k2 p2) p3) (.Constant (.int ((0 : Nat) : Int)) k3 p4) p5) [.In] [.Name rn p6] p7) (compEnvC scope [] C X.env)
          (eval (.Compare (.Subscript (.Subscript (.Name y p1) (.Constant (.int ((2 : Nat) : Int)) k2 p2) p3) (.Constant (.int ((0 : Nat) : Int)) k3 p4) p5) [.In] [.Name rn p6] p7) (compEnvC scope [] C X.env)))
          (fun b s' => b = ws.contains (hd i') ∧ Tks { s6.setGen g gs' with heap := h', toks := (s6.setGen g gs').toks + 1 } s') (fun _ _ => False) { s6.setGen g gs' with heap := h', toks := (s6.setGen g gs').toks + 1 } := by
        refine raw_in (R := R) (its := its) (tz := tz) (raw_ix (t := b) (its := (Value.str (hd i') tz :: wr).toArray) (raw_ix (t := T) (its := [u0, u1, Value.ref b].toArray) (ri _ _ ⟨_, rfl⟩) hT7 rfl (by simp) (hsi 2 k2 p2)) hb7 rfl (by simp; omega) (hsi 0 k3 p4))
          (fun s8 h8 => ?_) (hRt _ KX) hits hmk _
        obtain ⟨tk, rfl⟩ := h8
        refine Calls.Name_function_global hkk hkr (Calls.loadGlobal_global (by rw [hgl]; exact I.ok.mod.glob.keeps kin7) hm ?_) hdr
        exact ⟨rfl, tk, rfl⟩
      -- the element
      have elt : ∀ s8, Tks { s6.setGen g gs' with heap := h', toks := (s6.setGen g gs').toks + 1 } s8 → wpAny (model X.prog X.w) X.A (eval (.Subscript (.Name y q1) (.Constant (.int ((0 : Nat) : Int)) k1 q2) q3) (compEnvC scope [] C X.env))
          (fun v s' => v = u0 ∧ Tks s8 s') (fun _ _ => False) s8 := by
        rintro s8 ⟨tk, rfl⟩
        exact raw_ix (t := T) (its := [u0, u1, Value.ref b].toArray) (ri _ _ ⟨tk, rfl⟩) hT7 rfl (by simp) (hsi 0 k1 q2)
      -- what follows a turn
      have after : ∀ (h9 : Heap) (tk : Nat) (acc' : Array Value) (c' : Nat), (∀ b', b' ≠ D → b' ≠ C → h9.get? b' = s6.heap.get? b') → h9.Ns C (fun x => if x = y then some (Value.ref T) else m x) → h9.get? D = some (lstObj acc' c') → Vals (selI ws hd (i' + 1)) acc'.toList →
          ∃ k, k < n ∧ ∃ j, k + j = rows.length ∧ LSt X s1 a g D C rows ws hd j { s6.setGen g gs' with heap := h9, toks := tk } := by
        intro h9 tk acc' c' hk9 hC9 hD9 hv9
        refine ⟨n - 1, by omega, i' + 1, by omega, ?_, ⟨acc', c', hv9, hD9⟩, ⟨_, hC9⟩, gs', gs6, ?_⟩
        · have old9 : ∀ b' o, s1.heap.get? b' = some o → b' ∉ frs X.stack → h9.get? b' = some o := fun b' o e hb => by
            have n1 : b' ≠ D := fun z => by rw [z, hDn] at e; cases e
            have n2 : b' ≠ C := fun z => by rw [z, hCn] at e; cases e
            rw [hk9 b' n1 n2]
            exact G6.old b' o e hb
          refine ⟨G6.os, bare6, ?_, ?_, old9, fun b' o e hb => ?_⟩
          · refine I.ok.mod.nolimit.keeps fun b' o e => old9 b' o (I.bk b' o e) fun hb => ?_
            obtain ⟨q, _⟩ := I.stack.mem hb
            rw [q] at e
            cases e
          · obtain ⟨o, nm, qn, ho, r⟩ := G6.gen
            exact ⟨o, nm, qn, (hk9 a haD haC).trans ho, r⟩
          · have n1 : b' ≠ D := fun z => by rw [z, hDn] at e; cases e
            have n2 : b' ≠ C := fun z => by rw [z, hCn] at e; cases e
            rw [hk9 b' n1 n2]
            exact G6.slot b' o e hb
        · have e1 : rows.length - (i' + 1) = m' := by omega
          rw [e1]
          refine hkap _ ⟨G6.os, allBare_setGen (s := { s6.setGen g gs' with heap := h9, toks := tk }) bare6 rfl, fun b' o e hb => ?_, fun b' o e hb => ?_, fun b' hb o e => ?_, fun b' hb => ?_⟩
          · have n1 : b' ≠ D := fun z => by rw [z, hDn] at e; cases e
            have n2 : b' ≠ C := fun z => by rw [z, hCn] at e; cases e
            show h9.get? b' = some o
            rw [hk9 b' n1 n2]
            exact G6.old b' o e hb
          · have n1 : b' ≠ D := fun z => by rw [z, hDn] at e; cases e
            have n2 : b' ≠ C := fun z => by rw [z, hCn] at e; cases e
            show ∃ sl, h9.get? b' = _
            rw [hk9 b' n1 n2]
            exact G6.slot b' o e hb
          · have hz := (P6 b' hb).2.1
            show h9.get? b' = some o
            rw [hk9 b' (fun z => hz (by rw [z]; simp)) (fun z => hz (by rw [z]; simp))]
            exact e
          · rcases List.mem_cons.mp hb with rfl | hb
            · exact ⟨_, hD9, fun v q => by cases q⟩
            · rw [List.mem_singleton.mp hb]
              obtain ⟨o, es, ep, ho, hd', _⟩ := hC9
              exact ⟨o, ho, fun v q => by rw [hd'] at q; cases q⟩
      refine wpAny_tests_one (thnF test fun bb s8 h8 => ?_)
      obtain ⟨rfl, tk8, rfl⟩ := h8
      by_cases hw : ws.contains (hd i') = true
      · rw [if_pos hw]
        refine thnF (elt _ ⟨tk8, rfl⟩) fun x s9 h9 => ?_
        obtain ⟨rfl, tk9, rfl⟩ := h9
        have hD9 : h'.get? D = some (lstObj acc cc) := (hs2 D hDC).trans hD6
        have hal : acc.size ≤ i' := by
          have e1 := rv.length
          have e2 := selI_len ws hd i'
          have e3 : acc.toList.length = acc.size := by simp
          omega
        refine append_at (s := { s6.setGen g gs' with heap := h', toks := tk9 }) hD9 (fun h'' hs3 hD3 => ?_) (by have := sizeLine_eq; omega)
        refine after h'' tk9 _ _ (fun b' n1 n2 => (hs3.2 b' n1).trans (hs2 b' n2)) ?_ hD3 ?_
        · obtain ⟨o, es, ep, ho, r⟩ := hn'
          exact ⟨o, es, ep, (hs3.2 C (Ne.symm hDC)).trans ho, r⟩
        · rw [selI_succ, if_pos hw, Array.toList_push]
          exact rv.append (.cons hv0 .nil)
      · rw [if_neg hw]
        refine after h' tk8 acc cc (fun b' n1 n2 => hs2 b' n2) hn' ((hs2 D hDC).trans hD6) ?_
        rw [selI_succ, if_neg hw, List.append_nil]
        exact rv
  · obtain ⟨hn0, G6, cz6⟩ := hp
    obtain rfl : i = rows.length := by omega
    obtain ⟨oC, esC, epC, hoC, hdC, hrC⟩ := hC
    refine hend _ ⟨G6.os, allBare_setGen G6.bare rfl, G6.lim.keeps hk, G6.gen.keeps hk, fun b o e hb => hk b o (G6.old b o e hb), fun b o e hb => ?_⟩ ⟨acc, cc, rv, hk D _ (cz6 D (List.mem_cons_self ..) _ hD)⟩ ⟨m, oC, esC, epC, hk C _ (cz6 C (by simp) _ hoC), hdC, hrC⟩
    obtain ⟨sl, q⟩ := G6.slot b o e hb
    exact ⟨sl, hk b _ q⟩
end
end Aw
namespace Aw
open PySem PySem.Spec PyProof.Rows L2 GenW
section
variable {X : Cx} {R : Addr} {ws : List Str} {scope : Scope} {own : List (Str × Nat)} {iter : Expr} {tg : TGI} {y rn : Str} {py q1 q2 q3 p1 p2 p3 p4 p5 p6 p7 pos : Pos} {k k1 k2 k3 : Nat}
theorem pe_lcRows (hc : X.calm = true) (hr : RoomG (k + 1) X.A) (hG : PGenI X k iter tg) (ok : BlkOk X.N X.env.scope scope own) (hpc : ∀ h : Heap, pushCells h scope.names = h) (hcn : ∀ n, cellsFrom n scope.names (cloFrom X.env.cells scope.names []) = [])
    (hkk : ∀ C, (compEnvC scope [] C X.env).scope.kind = .function) (hky : ∀ C, (compEnvC scope [] C X.env).kindOf y = some .local) (hkr : ∀ C, (compEnvC scope [] C X.env).kindOf rn = some .globalImplicit)
    (hm : X.mg rn = some (.ref R)) (hR : ∃ its : Array Value, Vals (ws.map V.str) its.toList ∧ ∀ h : Heap, X.K.In h → IsTup h R its)
    (hdy : (y == ("__debug__" : Str)) = false) (hdr : (rn == ("__debug__" : Str)) = false) (hmk : behindInMarks .In (.Name rn p6) = false)
    (hsi : ∀ (j : Nat) (k : Nat) (p : Pos) (o i : Value), subscripted (.Constant (.int (j : Nat)) k p) false o i = operate [o, i] (getItem o i)) (hs : ∀ x, foldedSetIterable iter X.env x = pure x) :
    PE X (.ListComp (.Subscript (.Name y q1) (.Constant (.int ((0 : Nat) : Int)) k1 q2) q3) [⟨.Name y py, iter, [.Compare (.Subscript (.Subscript (.Name y p1) (.Constant (.int ((2 : Nat) : Int)) k2 p2) p3) (.Constant (.int ((0 : Nat) : Int)) k3 p4) p5) [.In] [.Name rn p6] p7], 0⟩] scope pos) (tRows X.K ws tg) := by
  refine ⟨fun pins s σ H Q I h => ?_⟩
  rw [eval_ListComp]
  have hfree : ∀ y ∈ scope.names, y.2 = .free → ∃ c, X.env.cells.lookup y.1 = some c := fun y hy e => by
    rcases ok.free y hy e with k | k
    · exact I.ok.has _ (.inl k)
    · exact I.ok.has _ (.inr k)
  refine wpAny_comprehension_free (use := none) rfl hs (closure_ok hfree) ok.kind (fun y hy e => by rw [ok.uniq y hy, e]) (thn (hG.run pins s σ H _ I h) fun xv s2 hx => ?_)
  obtain ⟨s1, H1, rows, I1, ⟨a, g, c, rfl, ha, hgen, hgs, hos, hba, hlim, hkp, hsz, wake⟩, hlen, hd, hrows, hQ⟩ := hx
  refine wpAny_pyIter_gen hgen ?_
  refine wpAny_newObj_type (newEnv_comp ?_) (by show 0 ≤ sizeLine; decide)
  have szC : (s2.heap.push { cls := .type "list", data := .seq ([] : List Value).toArray }).objs.size = s2.heap.objs.size + 1 := Heap.size_push ..
  show codeAny _ _ (.compStart (.ListComp (.Subscript (.Name y q1) (.Constant (.int ((0 : Nat) : Int)) k1 q2) q3) [⟨.Name y py, iter, [.Compare (.Subscript (.Subscript (.Name y p1) (.Constant (.int ((2 : Nat) : Int)) k2 p2) p3) (.Constant (.int ((0 : Nat) : Int)) k3 p4) p5) [.In] [.Name rn p6] p7], 0⟩] scope pos) 0 (.ref a) (.ref s2.heap.objs.size)
    (compEnvC scope (cellsFrom ((s2.heap.push { cls := .type "list", data := .seq ([] : List Value).toArray }).objs.size + 1) scope.names (cloFrom X.env.cells scope.names [])) (s2.heap.push { cls := .type "list", data := .seq ([] : List Value).toArray }).objs.size X.env))
    (compPost (model X.prog X.w) X.A X.xe none (EP X pins σ Q) (.ref s2.heap.objs.size) (s2.heap.push { cls := .type "list", data := .seq ([] : List Value).toArray }).objs.size)
    { s2 with heap := pushCells ((s2.heap.push { cls := .type "list", data := .seq ([] : List Value).toArray }).push { cls := .type "dict", data := .dict #[] }) scope.names }
  rw [hcn, hpc, szC]
  have kp4 : ∀ b o, s2.heap.get? b = some o → ((s2.heap.push { cls := .type "list", data := .seq ([] : List Value).toArray }).push { cls := .type "dict", data := .dict #[] }).get? b = some o := fun b o e => Heap.get?_push_of_some _ (Heap.get?_push_of_some _ e)
  have hD4 : ((s2.heap.push { cls := .type "list", data := .seq ([] : List Value).toArray }).push { cls := .type "dict", data := .dict #[] }).get? s2.heap.objs.size = some (lstObj #[] 0) := Heap.get?_push_of_some _ (Heap.get?_push_size _ rfl)
  have hC4 : ((s2.heap.push { cls := .type "list", data := .seq ([] : List Value).toArray }).push { cls := .type "dict", data := .dict #[] }).Ns (s2.heap.objs.size + 1) (fun _ => none) := by
    have q := Heap.Ns.new (s2.heap.push { cls := .type "list", data := .seq ([] : List Value).toArray })
    rw [szC] at q
    exact q _
  generalize hh4 : (s2.heap.push { cls := .type "list", data := .seq ([] : List Value).toArray }).push { cls := .type "dict", data := .dict #[] } = h4 at kp4 hD4 hC4 ⊢
  have hDn : s1.heap.get? s2.heap.objs.size = none := Heap.get?_none_of_le hsz
  have hCn : s1.heap.get? (s2.heap.objs.size + 1) = none := Heap.get?_none_of_le (Nat.le_succ_of_le hsz)
  have alt : a < s2.heap.objs.size := by
    obtain ⟨o, nm, qn, ho, _⟩ := hgen
    exact Heap.lt_size ho
  have hCo : ∃ o, h4.get? (s2.heap.objs.size + 1) = some o ∧ ∀ v, o.data ≠ .cell v := by
    obtain ⟨o, es, ep, ho, hd', _⟩ := hC4
    exact ⟨o, ho, fun v q => by rw [hd'] at q; cases q⟩
  have hrI : RoomG k X.A.in1 := ⟨hr.r.in1, hr.g⟩
  have loop : codeAny (model X.prog X.w) X.A (.compLoop (.ListComp (.Subscript (.Name y q1) (.Constant (.int ((0 : Nat) : Int)) k1 q2) q3) [⟨.Name y py, iter, [.Compare (.Subscript (.Subscript (.Name y p1) (.Constant (.int ((2 : Nat) : Int)) k2 p2) p3) (.Constant (.int ((0 : Nat) : Int)) k3 p4) p5) [.In] [.Name rn p6] p7], 0⟩] scope pos) 0 (.ref a) (.ref s2.heap.objs.size)
      (compEnvC scope [] (s2.heap.objs.size + 1) X.env)) (compPost (model X.prog X.w) X.A X.xe none (EP X pins σ Q) (.ref s2.heap.objs.size) (s2.heap.objs.size + 1)) { s2 with heap := h4 } := by
    refine rows_loop (D := s2.heap.objs.size) (C := s2.heap.objs.size + 1) (g := g) (hd := hd) hc hr I1 hDn hCn (Nat.ne_of_lt (Nat.lt_succ_self _)) (Nat.ne_of_lt alt) (Nat.ne_of_lt (Nat.lt_succ_of_lt alt)) hsz (Nat.le_succ_of_le hsz) (hkk _) (hky _) (hkr _) I1.ok.glob hm hR hdy hdr hmk hsi hrows hlen (fun s' G hL hN => ?_) rows.length { s2 with heap := h4 } ⟨0, Nat.add_zero _, ?_⟩
    · obtain ⟨acc, cc, rv, hD⟩ := hL
      obtain ⟨m, hC⟩ := hN
      have hDH : H1 s2.heap.objs.size = none := I1.hok.fresh hsz
      have I' : Inv X pins σ (upd H1 s2.heap.objs.size (.lst (selI ws hd rows.length))) s' := by
        refine I1.call' (ch := []) G.os ⟨fun b o e _ hb _ => G.old b o e hb, fun b o e _ hb _ => G.slot b o e hb, fun b o e n _ => ?_, fun b o e _ => ?_, fun b xs e => ?_, fun b o u e => ?_, fun b ps e => ⟨#[], ?_⟩⟩ (fun b u e => ?_) G.bare fun b hb => by cases hb
        · rw [upd_ne (fun z => by rw [z, hDn] at e; cases e)]
          exact n
        · by_cases hb : b ∈ frs X.stack
          · obtain ⟨sl, q⟩ := G.slot b o e hb
            exact ⟨_, q⟩
          · exact ⟨_, G.old b o e hb⟩
        · rw [upd_ne (ne_of_none e hDH)]
          exact e
        · rw [upd_ne (ne_of_none e hDH)]
          exact e
        · rw [upd_ne (ne_of_none e hDH), e]
          simp
        · by_cases hb : b = s2.heap.objs.size
          · subst hb
            rw [upd_same] at e
            cases e
            have hl := selI_len ws hd rows.length
            refine ⟨by have := sizeLine_eq; omega, acc.toList, cc, rv, ?_⟩
            rw [hD]
          · rw [upd_ne hb] at e
            have nf : ∀ c u, H1 c = some u → c ∉ frs X.stack := fun c u q hm => by rw [I1.stkFree c hm] at q; cases q
            refine (I1.hok b u e).stay (fun c v hc' q => ?_) (fun c q => ?_) fun c xs q => ?_
            · refine G.old c v q ?_
              rcases hc' with rfl | hc'
              · exact nf _ _ e
              · exact nf _ _ hc'
            · rw [upd_ne (ne_of_none q hDH)]
              exact q
            · rw [upd_ne (ne_of_none q hDH)]
              exact q
      have hCH : upd H1 s2.heap.objs.size (.lst (selI ws hd rows.length)) (s2.heap.objs.size + 1) = none := by
        rw [upd_ne (Nat.succ_ne_self _)]
        exact I1.hok.fresh (Nat.le_succ_of_le hsz)
      obtain ⟨f0, f1, f2, f3, f4, f5⟩ := I1.fpOk (b := s2.heap.objs.size + 1) (Nat.le_succ_of_le hsz) hCH
      exact ⟨m, hC, fun h'' sb => ⟨.ref s2.heap.objs.size, _, I'.turned (t' := s'.toks) (fun b o hb e => (sb.2 b hb).trans e) f0 f1 f3 f4 f5, rfl, hQ _ hDH⟩⟩
    · refine ⟨⟨hos, hba, hlim.keeps kp4, hgen.keeps kp4, fun b o e _ => kp4 b o (hkp b o e), fun b o e _ => ⟨o.slots, kp4 b o (hkp b o e)⟩⟩, ⟨#[], 0, .nil, hD4⟩, ⟨_, hC4⟩, _, hgs, rfl, ?_⟩
      rw [Nat.sub_zero]
      refine wake X.A.in1 [s2.heap.objs.size, s2.heap.objs.size + 1] _ hrI I1.ok.frames (fun b hb => ?_) kp4 hos (allBare_setGen (s := { s2 with heap := h4 }) hba rfl)
      rcases List.mem_cons.mp hb with rfl | hb
      · exact ⟨Nat.le_refl _, _, hD4, fun v q => by cases q⟩
      · rw [List.mem_singleton.mp hb]
        exact ⟨Nat.le_succ _, hCo⟩
  exact codeAny_compStart_list loop (wpAny_pyIter_gen (s := { s2 with heap := h4 }) (hgen.keeps kp4) loop)
end
end Aw
namespace Aw
open PySem PySem.Spec PyProof.Rows L2
/-- a list of pairs (depth, value): the very values -/
structure Snd (H : Hp) (us : List V) (st : List (Nat × V)) : Prop where
  len : us.length = st.length
  all : ∀ (i : Nat) (u : V) (p : Nat × V), us[i]? = some u → st[i]? = some p → ∃ a : Addr, u = .ref a ∧ H a = some (.tup [.int p.1, p.2])
section
variable {M : List Addr} {K : PySem.W.Frag} {H H1 : Hp} {v : V} {vs us : List V} {d : PyData} {ds : List PyData} {st tt : List (Nat × V)} {p : Nat × V}
theorem Snd.kp (h : Snd H us st) (k : Kp M H H1) : Snd H1 us st := ⟨h.len, fun i u p e e' => by
  obtain ⟨a, q1, q2⟩ := h.all i u p e e'
  exact ⟨a, q1, k.tup q2⟩⟩
theorem Snd.nil : Snd H [] [] := ⟨rfl, fun i v d e => by simp at e⟩
theorem Snd.app (h : Snd H vs st) (h2 : Snd H us tt) : Snd H (vs ++ us) (st ++ tt) := by
  refine ⟨by rw [List.length_append, List.length_append, h.len, h2.len], fun i u e q q' => ?_⟩
  by_cases hi : i < vs.length
  · rw [List.getElem?_append_left hi] at q
    rw [List.getElem?_append_left (by rw [← h.len]; exact hi)] at q'
    exact h.all i u e q q'
  · rw [List.getElem?_append_right (by omega)] at q
    rw [List.getElem?_append_right (by rw [← h.len]; omega), ← h.len] at q'
    exact h2.all _ u e q q'
theorem Snd.rev (h : Snd H vs st) : Snd H vs.reverse st.reverse := by
  refine ⟨by rw [List.length_reverse, List.length_reverse, h.len], fun i u e q q' => ?_⟩
  have hi : i < vs.length := by have := (List.getElem?_eq_some_iff.mp q).1; rwa [List.length_reverse] at this
  rw [List.getElem?_reverse hi] at q
  rw [List.getElem?_reverse (by rw [← h.len]; exact hi), ← h.len] at q'
  exact h.all _ u e q q'
theorem Snd.one {a : Addr} (h : H a = some (.tup [.int p.1, p.2])) : Snd H [.ref a] [p] := ⟨rfl, fun i v q e e' => by
  match i, e, e' with
  | 0, e, e' => cases e; cases e'; exact ⟨a, rfl, h⟩⟩
theorem Snd.last (h : Snd H vs (st ++ [p])) : ∃ (us : List V) (a : Addr), vs = us ++ [.ref a] ∧ Snd H us st ∧ H a = some (.tup [.int p.1, p.2]) := by
  have hl := h.len
  rw [List.length_append, List.length_singleton] at hl
  have hlt : st.length < vs.length := by omega
  obtain ⟨a, e, q1⟩ := h.all st.length vs[st.length] p (List.getElem?_eq_getElem hlt) (by simp)
  refine ⟨vs.take st.length, a, ?_, ⟨by rw [List.length_take]; omega, fun i u e' q q' => ?_⟩, q1⟩
  · rw [← e]
    have q := List.take_append_drop st.length vs
    rw [List.drop_eq_getElem_cons hlt, List.drop_eq_nil_of_le (by omega)] at q
    exact q.symm
  · have hi : i < st.length := (List.getElem?_eq_some_iff.mp q').1
    rw [List.getElem?_take, if_pos hi] at q
    exact h.all i u e' q (by rw [List.getElem?_append_left hi]; exact q')
theorem lc_snd {te : TE} {ws : List Nat} {σ : L2.St} {Q : VK} {a : Addr} {n j : Nat} (hT : SqT K H a vs) (hz : vs.length ≤ 1000000)
    (he : ∀ (x : V) (H' : Hp) (R : VK), (∀ p, H' p = none → R (.ref p) (upd H' p (.tup [.int n, x]))) → te ((wipe σ ws).set j (some x)) H' R)
    (hw : ∀ v : V, wipe ((wipe σ ws).set j (some v)) ws = wipe σ ws)
    (h : ∀ (q : Addr) (H' : Hp) (us : List V), H q = none → Kp [] H H' → H' q = some (.lst us) → Snd H' us (vs.map fun e => (n, e)) → Q (.ref q) H') :
    LcT K (gName j) tYes te ws σ Q (.ref a) H := by
  refine r_LcT hT fun q hq => ⟨fun i H' => ∃ us, Kp [] H H' ∧ H' q = some (.lst us) ∧ Snd H' us ((vs.take i).map fun e => (n, e)), ?_, ?_, ?_, ?_⟩
  · exact ⟨[], Kp.nil.new hq, upd_same, Snd.nil⟩
  · rintro i H' ⟨us, k1, _⟩
    exact sqT_kp k1 hT
  · rintro i x H' hx ⟨us, k1, hq1, hS⟩
    refine r_name (r_LcTurn (hw _) (r_yes (ifT (he x H' _ fun p hp => ?_))))
    have hqp : q ≠ p := ne_of_none hq1 hp
    have k2 : Kp [] H' (upd H' p (.tup [.int n, x])) := Kp.nil.new hp
    have hq2 := k2.get hq1 (by simp)
    have hil : i < vs.length := (List.getElem?_eq_some_iff.mp hx).1
    have hul : us.length ≤ i := by
      rw [hS.len, List.length_map, List.length_take]
      omega
    refine r_LcEnd hq2 (by rw [sizeLine_eq]; omega) ⟨us ++ [.ref p], (k1.trans k2).own hq, upd_same, ?_⟩
    have k3 := kpW (o := .lst (us ++ [.ref p])) hq2
    have S2 := (hS.kp k2).kp k3
    have htk : vs.take (i + 1) = vs.take i ++ [x] := by rw [List.take_add_one, hx]; rfl
    rw [htk, List.map_append]
    exact S2.app (Snd.one (p := (n, x)) (k3.tup upd_same))
  · rintro H' ⟨us, k1, hq1, hS⟩
    rw [List.take_length] at hS
    exact h q H' us hq k1 hq1 hS
/-- each value has its data, in the sense of D -/
structure DL (D : V → PyData → Prop) (vs : List V) (ds : List PyData) : Prop where
  len : vs.length = ds.length
  all : ∀ (i : Nat) (v : V) (d : PyData), vs[i]? = some v → ds[i]? = some d → D v d
theorem DL.nil {D : V → PyData → Prop} : DL D [] [] := ⟨rfl, fun i v d e => by simp at e⟩
theorem DL.app {D : V → PyData → Prop} {a b : List V} {c e : List PyData} (h1 : DL D a c) (h2 : DL D b e) : DL D (a ++ b) (c ++ e) := by
  refine ⟨by simp [h1.len, h2.len], fun i u dd q q' => ?_⟩
  by_cases hi : i < a.length
  · rw [List.getElem?_append_left hi] at q
    rw [List.getElem?_append_left (by rw [← h1.len]; exact hi)] at q'
    exact h1.all i u dd q q'
  · rw [List.getElem?_append_right (by omega)] at q
    rw [List.getElem?_append_right (by rw [← h1.len]; omega), ← h1.len] at q'
    exact h2.all _ u dd q q'
theorem DwL.dl (h : DwL M K H vs ds) : DL (Dw M K H) vs ds := ⟨h.len, h.all⟩
theorem DwL.tp {a : Addr} {xs : List V} {ds : List PyData} (s : SqT K H a xs) (h : DwL M K H xs ds) : Dw M K H (.ref a) (.tuple ds) := .tup s h.len h.all
/-- a statement's blocks: the very values -/
inductive InV (D : V → PyData → Prop) (K : PySem.W.Frag) (H : Hp) : V → PyData → List (List V) → Prop
  | pl {a : Addr} {u : Str} {ys : List V} {p : Pl} (h : SqT K H a (.str u :: ys)) (n1 : u ≠ "if") (n2 : u ≠ "repeat") (l : ys.length < 100) : InV D K H (.ref a) p.d []
  | ifs {a b1 b2 : Addr} {x : V} {t : Ts} {y z : List PyData} {y1 z1 : List V} (h : SqT K H a [.str "if", x, .ref b1, .ref b2]) (h1 : SqT K H b1 y1) (h2 : DL D y1 y) (h3 : SqT K H b2 z1) (h4 : DL D z1 z) :
      InV D K H (.ref a) (.tuple [.str "if", t.d, .tuple y, .tuple z]) [y1, z1]
  | rep {a b1 : Addr} {n : Int} {y : List PyData} {y1 : List V} (h : SqT K H a [.str "repeat", .int n, .ref b1]) (h1 : SqT K H b1 y1) (h2 : DL D y1 y) :
      InV D K H (.ref a) (.tuple [.str "repeat", .int n, .tuple y]) [y1]
variable {D : V → PyData → Prop}
theorem InV.sq {bs : List (List V)} (h : InV D K H v d bs) (f : ∀ a xs, SqT K H a xs → SqT K H1 a xs) : InV D K H1 v d bs := by
  cases h with
  | pl h n1 n2 l => exact .pl (f _ _ h) n1 n2 l
  | ifs h h1 h2 h3 h4 => exact .ifs (f _ _ h) (f _ _ h1) h2 (f _ _ h3) h4
  | rep h h1 h2 => exact .rep (f _ _ h) (f _ _ h1) h2
theorem InV.kp0 {bs : List (List V)} (h : InV D K H v d bs) (k : Kp M H H1) : InV D K H1 v d bs := h.sq fun _ _ q => sqT_kp k q
theorem Pl.d_len (p : Pl) : ∃ u r, p.d = .tuple (.str u :: r) ∧ u ≠ "if" ∧ u ≠ "repeat" ∧ r.length < 100 := by
  cases p <;> exact ⟨_, _, rfl, by decide +kernel, by decide +kernel, by simp⟩
theorem InV.ex (h : Dw M K H v d) (s : isStmt d = true) : ∃ bs, InV (Dw M K H) K H v d bs := by
  rcases stmt_view s with ⟨p, rfl, hp, hb⟩ | ⟨t, y, z, rfl, ht, hb⟩ | ⟨n, b, rfl, k1, k2, hb⟩
  · obtain ⟨u, r, e, n1, n2, hl⟩ := Pl.d_len p
    rw [e] at h
    obtain ⟨a, xs, rfl, hT, hL⟩ := h.items
    have hlen := hL.len
    obtain ⟨x, ys, rfl, h0, hR⟩ := hL.inv
    obtain rfl := h0.isStr
    exact ⟨_, .pl hT n1 n2 (by rw [hR.len]; exact hl)⟩
  · obtain ⟨a, xs, rfl, hT, hL⟩ := h.items
    obtain ⟨x0, x1, x2, x3, d0, d1, d2, d3, rfl, e, h0, h1, h2, h3⟩ := hL.is4 hL.len
    cases e
    obtain rfl := h0.isStr
    obtain ⟨b1, y1, rfl, q1, q2⟩ := h2.items
    obtain ⟨b2, z1, rfl, q3, q4⟩ := h3.items
    exact ⟨_, .ifs hT q1 q2.dl q3 q4.dl⟩
  · obtain ⟨a, xs, rfl, hT, hL⟩ := h.items
    obtain ⟨x0, x1, x2, d0, d1, d2, rfl, e, h0, h1, h2⟩ := hL.is3 hL.len
    cases e
    obtain rfl := h0.isStr
    obtain rfl := h1.isInt
    obtain ⟨b1, y1, rfl, q1, q2⟩ := h2.items
    exact ⟨_, .rep hT q1 q2.dl⟩
theorem Pl.blks (p : Pl) : Aw.blks p.d = [] := by
  obtain ⟨u, r, e, n1, n2⟩ := Pl.hd p
  rw [e]
  unfold Aw.blks
  simp only [if_neg n1, if_neg n2]
/-- a statement begins with a text -/
theorem InV.head {bs : List (List V)} (h : InV D K H v d bs) : ∃ (a : Addr) (u : Str) (ys : List V), v = .ref a ∧ SqT K H a (.str u :: ys) ∧ ys.length < 100 := by
  cases h with
  | pl h n1 n2 l => exact ⟨_, _, _, rfl, h, l⟩
  | ifs h h1 h2 h3 h4 => exact ⟨_, _, _, rfl, h, by simp⟩
  | rep h h1 h2 => exact ⟨_, _, _, rfl, h, by simp⟩
/-- the blocks as values: each stands at its address -/
structure BxL (D : V → PyData → Prop) (K : PySem.W.Frag) (H : Hp) (xs : List V) (bs : List (List V)) (ds : List (List PyData)) : Prop where
  len : xs.length = bs.length
  len2 : bs.length = ds.length
  all : ∀ (i : Nat) (x : V) (ys : List V) (d : List PyData), xs[i]? = some x → bs[i]? = some ys → ds[i]? = some d → ∃ b : Addr, x = .ref b ∧ SqT K H b ys ∧ DL D ys d
theorem BxL.nil : BxL D K H [] [] [] := ⟨rfl, rfl, fun i x ys d e => by simp at e⟩
theorem BxL.cons {b : Addr} {ys : List V} {e : List PyData} {xs : List V} {bs : List (List V)} {ds : List (List PyData)} (h : SqT K H b ys) (h1 : DL D ys e) (r : BxL D K H xs bs ds) : BxL D K H (.ref b :: xs) (ys :: bs) (e :: ds) := by
  refine ⟨by simp [r.len], by simp [r.len2], fun i x zs d q1 q2 q3 => ?_⟩
  cases i with
  | zero => cases q1; cases q2; cases q3; exact ⟨b, rfl, h, h1⟩
  | succ i => exact r.all i x zs d (by simpa using q1) (by simpa using q2) (by simpa using q3)
theorem BxL.dwl {xs : List V} {bs : List (List V)} {ds : List (List PyData)} (h : BxL (Dw M K H) K H1 xs bs ds) (k : Kp [] H H1) : DwL M K H1 xs (ds.map PyData.tuple) := by
  refine ⟨by rw [List.length_map, h.len, h.len2], fun i x e q1 q2 => ?_⟩
  rw [List.getElem?_map] at q2
  obtain ⟨dl, hd, rfl⟩ := Option.map_eq_some_iff.mp q2
  have hi : i < bs.length := by rw [← h.len]; exact (List.getElem?_eq_some_iff.mp q1).1
  obtain ⟨b, rfl, q, r⟩ := h.all i x _ dl q1 (List.getElem?_eq_getElem hi) hd
  exact DwL.tp q ⟨r.len, fun i v d e e' => (r.all i v d e e').kp0 k⟩
theorem InV.flat {bs : List (List V)} (h : InV D K H v d bs) : bs.length = (blks d).length ∧ DL D bs.flatten (inner d) := by
  unfold inner
  cases h with
  | pl h n1 n2 l =>
    rw [Pl.blks]
    exact ⟨rfl, .nil⟩
  | ifs h h1 h2 h3 h4 =>
    refine ⟨rfl, ?_⟩
    show DL D (_ ++ (_ ++ [])) (tupOf _ ++ (tupOf _ ++ []))
    rw [List.append_nil, List.append_nil]
    exact h2.app h4
  | rep h h1 h2 =>
    refine ⟨rfl, ?_⟩
    show DL D (_ ++ []) (tupOf _ ++ [])
    rw [List.append_nil, List.append_nil]
    exact h2
end
def spBlocksX (K : PySem.W.Frag) : Sp := fun vs H Q _ => ∃ (D : V → PyData → Prop) (v : V) (d : PyData) (bs : List (List V)), vs = [v] ∧ InV D K H v d bs ∧
  ∀ (H' : Hp) (p : Addr) (xs : List V), H p = none → Kp [] H H' → H' p = some (.lst xs) → BxL D K H' xs bs (blks d) → Q (.ref p) H'
theorem spBlocksX.old {K : PySem.W.Frag} {vs : List V} {H : Hp} {Q : VK} {E : XK} (h : spBlocks K vs H Q E) : spBlocksX K vs H Q E := by
  obtain ⟨M, v, d, rfl, hd, hs, k⟩ := h
  obtain ⟨bs, hb⟩ := InV.ex hd hs
  exact ⟨_, v, d, bs, rfl, hb, fun H' p xs h1 h2 h3 h4 => k H' p xs h1 h2 h3 (h4.dwl h2)⟩
def spItemsX (K : PySem.W.Frag) : Sp := fun vs H Q _ => ∃ (D : V → PyData → Prop) (v : V) (d : PyData) (n : Nat) (bs : List (List V)), vs = [v, .int n] ∧ InV D K H v d bs ∧ dsz d ≤ 1000000 ∧
  ∀ (H' : Hp) (p : Addr) (xs : List V), H p = none → Kp [] H H' → H' p = some (.lst xs) → Snd H' xs ((bs.flatten.map fun e => (n + 1, e)).reverse) → Q (.ref p) H'
/-- the stack of statements, and what is popped from it, one behind the other -/
inductive RwX (D : V → PyData → Prop) (K : PySem.W.Frag) (H : Hp) : List (Nat × V × PyData) → List (Nat × V × PyData) → Prop
  | nil : RwX D K H [] []
  | cons {n : Nat} {v : V} {d : PyData} {bs : List (List V)} {T r : List (Nat × V × PyData)} (h : InV D K H v d bs)
      (q : RwX D K H ((bs.flatten.zip (inner d)).map (fun e => (n + 1, e.1, e.2)) ++ T) r) : RwX D K H ((n, v, d) :: T) ((n, v, d) :: r)
def vx (T : List (Nat × V × PyData)) : List (Nat × V) := T.map fun e => (e.1, e.2.1)
def dx (T : List (Nat × V × PyData)) : List (Nat × PyData) := T.map fun e => (e.1, e.2.2)
section
variable {M : List Addr} {K : PySem.W.Frag} {H H1 : Hp} {v : V} {vs us : List V} {d : PyData}
theorem vx_map {n : Nat} {a : List V} {b : List PyData} (h : a.length = b.length) : vx ((a.zip b).map fun e => (n, e.1, e.2)) = a.map fun e => (n, e) := by
  unfold vx
  rw [List.map_map]
  have e : ((fun e : Nat × V × PyData => (e.1, e.2.1)) ∘ fun e : V × PyData => (n, e.1, e.2)) = (fun e => (n, e)) ∘ Prod.fst := rfl
  rw [e, ← List.map_map, List.map_fst_zip (by omega)]
theorem dx_map {n : Nat} {a : List V} {b : List PyData} (h : a.length = b.length) : dx ((a.zip b).map fun e => (n, e.1, e.2)) = b.map fun e => (n, e) := by
  unfold dx
  rw [List.map_map]
  have e : ((fun e : Nat × V × PyData => (e.1, e.2.2)) ∘ fun e : V × PyData => (n, e.1, e.2)) = (fun e => (n, e)) ∘ Prod.snd := rfl
  rw [e, ← List.map_map, List.map_snd_zip (by omega)]
theorem vx_app (a b : List (Nat × V × PyData)) : vx (a ++ b) = vx a ++ vx b := List.map_append
theorem dx_app (a b : List (Nat × V × PyData)) : dx (a ++ b) = dx a ++ dx b := List.map_append
theorem RwX.sq {D : V → PyData → Prop} {T r : List (Nat × V × PyData)} (h : RwX D K H T r) (f : ∀ a xs, SqT K H a xs → SqT K H1 a xs) : RwX D K H1 T r := by
  induction h with
  | nil => exact .nil
  | cons h q ih => exact .cons (h.sq f) ih
theorem RwX.head {D : V → PyData → Prop} {T r : List (Nat × V × PyData)} (h : RwX D K H T r) : ∀ e ∈ r, ∃ (a : Addr) (u : Str) (ys : List V), e.2.1 = .ref a ∧ SqT K H a (.str u :: ys) ∧ ys.length < 100 := by
  induction h with
  | nil => intro e he; cases he
  | cons h q ih =>
    intro e he
    rcases List.mem_cons.mp he with rfl | he
    · exact h.head
    · exact ih e he
/-- the rows of valid trees -/
theorem RwX.ex : ∀ (m : Nat) (T : List (Nat × V × PyData)) (S : List (Nat × Sm)), stSize (dx T) ≤ m → dx T = dT S → (∀ e ∈ T, Dw M K H e.2.1 e.2.2) → (∀ q ∈ S, ∃ n, Sm.vd n q.2) → ∃ r, RwX (Dw M K H) K H T r ∧ dx r = rowsT S ∧ (∀ e ∈ r, Dw M K H e.2.1 e.2.2)
  | m, [], S, _, e, _, _ => by
    cases S with
    | nil => exact ⟨[], .nil, rfl, fun e he => by cases he⟩
    | cons => exact nomatch e
  | m, (n, v, d) :: T, S, hm, e, hT, hS => by
    cases S with
    | nil => exact nomatch e
    | cons s S =>
      obtain ⟨dep, sm⟩ := s
      have e1 : (n, d) :: dx T = (dep, sm.d) :: dT S := e
      obtain ⟨e2, e3⟩ := List.cons.inj e1
      cases e2
      have hm1 : dsz sm.d + stSize (dx T) ≤ m := by
        have q : stSize ((n, sm.d) :: dx T) ≤ m := hm
        rwa [stSize_cons] at q
      obtain ⟨nv, hv⟩ := hS (n, sm) (List.mem_cons_self ..)
      obtain ⟨hst, hin, hkids⟩ := hv.is
      have hisz := inner_size sm.d
      have hd : Dw M K H v sm.d := hT (n, v, sm.d) (List.mem_cons_self ..)
      obtain ⟨bs, hb⟩ := InV.ex hd hst
      obtain ⟨hbl, hfl⟩ := hb.flat
      have hdp := dsz_pos sm.d
      cases m with
      | zero => omega
      | succ m =>
      have eD : dx ((bs.flatten.zip (inner sm.d)).map (fun e => (n + 1, e.1, e.2)) ++ T) = dT (sm.kids.map (fun s => (n + 1, s)) ++ S) := by
        rw [dx_app, dx_map hfl.len, e3, hin, ← dT_map]
        unfold dT
        rw [List.map_append]
      obtain ⟨r, hr, er, hD⟩ := RwX.ex m ((bs.flatten.zip (inner sm.d)).map (fun e => (n + 1, e.1, e.2)) ++ T) (sm.kids.map (fun s => (n + 1, s)) ++ S) (by
          rw [dx_app, dx_map hfl.len, stSize_app, stSize_map]
          omega) eD (fun e he => by
          rcases List.mem_append.mp he with he | he
          · obtain ⟨⟨x, y⟩, hx, rfl⟩ := List.mem_map.mp he
            obtain ⟨i, hi, hxe⟩ := List.mem_iff_getElem.mp hx
            have q := List.getElem?_zip_eq_some.mp (List.getElem?_eq_some_iff.mpr ⟨hi, hxe⟩)
            exact hfl.all i x y q.1 q.2
          · exact hT e (List.mem_cons_of_mem _ he)) (fun q hq => by
          rcases List.mem_append.mp hq with hq | hq
          · obtain ⟨c, hc, rfl⟩ := List.mem_map.mp hq
            obtain ⟨m, hm, _⟩ := hkids c hc
            exact ⟨m, hm⟩
          · exact hS q (List.mem_cons_of_mem _ hq))
      refine ⟨(n, v, sm.d) :: r, .cons hb hr, ?_, fun e he => ?_⟩
      · show (n, sm.d) :: dx r = rowsT ((n, sm) :: S)
        rw [er]
        unfold rowsT
        rw [List.flatMap_cons, List.flatMap_append]
        have e5 : List.flatMap (fun p => Sm.rows p.1 p.2) (List.map (fun s => (n + 1, s)) sm.kids) = Sm.rowsL (n + 1) sm.kids := rowsT_map (n + 1) sm.kids
        rw [e5, Sm.rows_kids]
        rfl
      · rcases List.mem_cons.mp he with rfl | he
        · exact hd
        · exact hD e he
end
/-- the rows of a program: the very statements, with their depths -/
def spRowsX (K : PySem.W.Frag) : Sp := fun vs H Q _ => ∃ (D : V → PyData → Prop) (a : Addr) (xs : List V) (ds : List PyData) (rows : List (Nat × V × PyData)), vs = [.ref a] ∧ SqT K H a xs ∧ xs.length = ds.length ∧ dszs ds ≤ 1000000 ∧
  RwX D K H ((xs.zip ds).map fun e => (0, e.1, e.2)) rows ∧ rows.length ≤ 1000000 ∧
  ∀ (H' : Hp) (r : Addr) (us : List V), H r = none → Kp [] H H' → H' r = some (.lst us) → Snd H' us (vx rows) → Q (.ref r) H'
theorem spRowsX.old {K : PySem.W.Frag} {vs : List V} {H : Hp} {Q : VK} {E : XK} (h : spRows K vs H Q E) : spRowsX K vs H Q E := by
  obtain ⟨M, v, p, rfl, hd, hv, hz, k⟩ := h
  obtain ⟨a, xs, rfl, hT, hL⟩ := hd.items
  obtain ⟨rows, hr, er, hD⟩ := RwX.ex (M := M) (K := K) (H := H) (dszs (Sm.ds p)) ((xs.zip (Sm.ds p)).map fun e => (0, e.1, e.2)) (p.map fun s => (0, s)) (by rw [dx_map hL.len, stSize_map]; exact Nat.le_refl _)
    (by rw [dx_map hL.len, dT_map]) (fun e he => by
      obtain ⟨⟨x, y⟩, hx, rfl⟩ := List.mem_map.mp he
      obtain ⟨i, hi, hxe⟩ := List.mem_iff_getElem.mp hx
      have q := List.getElem?_zip_eq_some.mp (List.getElem?_eq_some_iff.mpr ⟨hi, hxe⟩)
      exact hL.all i x y q.1 q.2) (fun q hq => by
      obtain ⟨s, hs, rfl⟩ := List.mem_map.mp hq
      exact hv s hs)
  have e2 : dx rows = Sm.rowsL 0 p := by rw [er, rowsT_map]
  have hlen : rows.length = (Sm.rowsL 0 p).length := by rw [← e2]; unfold dx; rw [List.length_map]
  refine ⟨_, a, xs, Sm.ds p, rows, rfl, hT, hL.len, hz, hr, ?_, fun H' r us h1 h2 h3 h4 => k H' r us h1 h2 h3 ⟨?_, fun i u q e e' => ?_⟩⟩
  · rw [hlen, Sm.rowsL_len]
    have := Sm.sizes_dszs p
    omega
  · rw [h4.len, ← e2]
    unfold vx dx
    rw [List.length_map, List.length_map]
  · rw [← e2] at e'
    unfold dx at e'
    rw [List.getElem?_map] at e'
    obtain ⟨⟨n, y, d⟩, he, rfl⟩ := Option.map_eq_some_iff.mp e'
    obtain ⟨b, rfl, hb⟩ := h4.all i u (n, y) e (by unfold vx; rw [List.getElem?_map, he]; rfl)
    exact ⟨b, y, rfl, hb, (hD _ (List.mem_of_getElem? he)).kp0 h2⟩
end Aw
namespace Aw
open PySem PySem.Spec PyProof.Rows L2 GenW
section
variable {P : Program} {w : World} {K : PySem.W.Frag} {mg : Str → Option Value} {base : Heap}
theorem Df.hasI {x : Str} {st : Stmt} {ps N : List Str} {k : Nat} {sp : SpI} {tg iter ye : Expr} {yp pos ypos : Pos} (d : Df K mg x st ps) (S : GScope N ps (defScope st))
    (hbd : defBody st = [.For tg iter [.Expr (.Yield (some ye) yp) ypos] [] pos])
    (hnc : ∀ n, cellsFrom n (defScope st).names [] = []) (hfold : ∀ (env : Env) (x : Value), foldedSetIterable iter env x = pure x) (hint : ∀ n f cdv, interactive (envOfC x (defScope st) n f cdv) = false)
    (len : ∀ vs H rows, sp vs H rows → vs.length = ps.length)
    (hbody : ∀ (f : Addr) (cdv : Value) (A : Around) (outer : List Env) (s : Shared) (H : Hp) (vs : List V) (rows : List (Int × V)) (pn : List (Addr × Obj)), RoomG k (A.deeper (envOfC x (defScope st) s.heap.objs.size f cdv)) → HOk P w H s.heap → sp vs H rows →
      ∃ (ta : TA) (gg : TG) (te : TE), PI (gcxN P w K mg base N x (defScope st) f cdv A outer s (frzH H s.heap) pn) tg iter (iEnum K ta) ∧ PG (gcxN P w K mg base N x (defScope st) f cdv A outer s (frzH H s.heap) pn) tg gg ∧
        PE (gcxN P w K mg base N x (defScope st) f cdv A outer s (frzH H s.heap) pn) ye te ∧
        (∀ R : List V → Hp → Prop, (∀ (H1 : Hp) (l : Addr) (rs : List Addr), H1 l = some (.lst (rs.map V.ref)) → rs.length = rows.length → (∀ (i : Nat) d st, rows[i]? = some (d, st) → ∃ r, rs[i]? = some r ∧ SqT K H1 r [.int d, st]) → R [.ref l] H1) →
          ta (start N vs) (frzH H s.heap) R) ∧
        ∀ (i : Nat) (d : Int) (st : V) (r T1 : Addr) (σ : L2.St) (Hr : Hp), σ.length = N.length → rows[i]? = some (d, st) → Hr T1 = none → SqT K Hr r [.int d, st] →
          gg (.ref T1) σ (upd Hr T1 (.tup [.int (i : Nat), .ref r])) fun σ2 H2 => te σ2 H2 fun v H3 => ∃ T2, v = .ref T2 ∧ upd Hr T1 (.tup [.int (i : Nat), .ref r]) T2 = none ∧ H3 = upd (upd Hr T1 (.tup [.int (i : Nat), .ref r])) T2 (.tup [.int (i : Nat), .int d, st])) :
    HasI P w K mg base x ps (k + 1) sp := by
  obtain ⟨f, fd, F, m, b⟩ := d
  obtain ⟨oc, od, kV, doc, pm, an, cdv, ct, osl, rfl, lk, hcd⟩ := F.ex
  refine ⟨f, _, F.kp, m, b, ?_⟩
  rw [hbd] at lk ⊢
  exact gfx_of lk hcd S hnc hfold (fun n => hint n f cdv) len fun A outer s H vs rows pn => hbody f cdv A outer s H vs rows pn
end
/-- each_statement of a program -/
def spEach (K : PySem.W.Frag) : SpI := fun vs H rows => ∃ (D : V → PyData → Prop) (a : Addr) (xs : List V) (ds : List PyData) (rw : List (Nat × V × PyData)), vs = [.ref a] ∧ SqT K H a xs ∧ xs.length = ds.length ∧ dszs ds ≤ 1000000 ∧
  RwX D K H ((xs.zip ds).map fun e => (0, e.1, e.2)) rw ∧ rw.length ≤ 1000000 ∧ rows = rw.map fun e => ((e.1 : Int), e.2.1)
theorem Snd.refs {H : Hp} {us : List V} {st : List (Nat × V)} (h : Snd H us st) : ∃ rs : List Addr, us = rs.map V.ref ∧ rs.length = st.length ∧ ∀ (i : Nat) (n : Nat) (y : V), st[i]? = some (n, y) → ∃ r : Addr, rs[i]? = some r ∧ H r = some (.tup [.int n, y]) := by
  have hx : ∀ u ∈ us, ∃ a : Addr, u = V.ref a := fun u hu => by
    obtain ⟨i, hi, e⟩ := List.mem_iff_getElem.mp hu
    have hj : i < st.length := by rw [← h.len]; exact hi
    obtain ⟨a, q, _⟩ := h.all i u _ (List.getElem?_eq_some_iff.mpr ⟨hi, e⟩) (List.getElem?_eq_getElem hj)
    exact ⟨a, q⟩
  have ex : ∀ vs : List V, (∀ u ∈ vs, ∃ a : Addr, u = V.ref a) → ∃ rs : List Addr, vs = rs.map V.ref := fun vs => by
    induction vs with
    | nil => exact fun _ => ⟨[], rfl⟩
    | cons v r ih =>
      intro q
      obtain ⟨a, rfl⟩ := q v (List.mem_cons_self ..)
      obtain ⟨rs, e⟩ := ih fun u hu => q u (List.mem_cons_of_mem _ hu)
      exact ⟨a :: rs, by rw [e, List.map_cons]⟩
  obtain ⟨rs, rfl⟩ := ex us hx
  refine ⟨rs, rfl, by rw [← h.len, List.length_map], fun i n y e => ?_⟩
  have hi : i < (rs.map V.ref).length := by rw [h.len]; exact (List.getElem?_eq_some_iff.mp e).1
  obtain ⟨a, q1, q2⟩ := h.all i _ (n, y) (List.getElem?_eq_getElem hi) e
  have hj : i < rs.length := by rwa [List.length_map] at hi
  rw [List.getElem_map] at q1
  exact ⟨rs[i], List.getElem?_eq_getElem hj, by rw [V.ref.inj q1]; exact q2⟩
end Aw
namespace Aw
open PySem PySem.Spec PyProof.Rows L2
section
variable {K : PySem.W.Frag} {h : Heap} {mg : Str → Option Value}
theorem fun_of {x q : Str} {st : Stmt} {f : Addr} {fd : FuncData} (F : FunD K x q (defArgs st) (defBody st) (defScope st) [] [] f fd) : Fun K x q st f fd := by
  obtain ⟨oc, od, dV, kV, doc, pm, an, cdv, ct, osl, e, lk, hc, hd, hk⟩ := F.ex
  rcases hd with ⟨_, rfl⟩ | ⟨hd, _⟩
  · exact ⟨⟨oc, od, kV, doc, pm, an, cdv, ct, osl, e, lk, hc⟩, F.kp⟩
  · exact absurd rfl hd
/-- a def of the top -/
theorem df_hd {x : Str} {st : Stmt} {ps : List Str} {fd : FuncData} (X : K.In h) (G : h.Ns mainGlobals mg) (F : FunD K x x (defArgs st) (defBody st) (defScope st) [] [] (He.ga K x) fd) (a : (He.Fa.glo x).ok K = true)
    (b : ∀ (kV doc pm : Value) (an : Option Addr) (cdv ct : Value) (us : List Value), us.length = ps.length →
      bindArgs (PySem.W.fnOf x x (defArgs st) (defBody st) (defScope st) .none kV doc pm an cdv ct) ⟨us, []⟩ = pure (ps.zip us)) : Df K mg x st ps :=
  ⟨_, fd, fun_of F, He.glo_ok X G a, (fun_of F).binds b⟩
/-- a method -/
theorem dfm_hd {x m q : Str} {st : Stmt} {ps : List Str} {fd : FuncData} (F : FunD K m q (defArgs st) (defBody st) (defScope st) [] [] (He.ma K (He.ga K x) m) fd) (a : (He.Fa.meth x m).ok K = true)
    (b : ∀ (kV doc pm : Value) (an : Option Addr) (cdv ct : Value) (us : List Value), us.length = ps.length →
      bindArgs (PySem.W.fnOf m q (defArgs st) (defBody st) (defScope st) .none kV doc pm an cdv ct) ⟨us, []⟩ = pure (ps.zip us)) : DfM K (He.ga K x) m q st ps :=
  ⟨_, fd, fun_of F, He.meth_ok a, (fun_of F).binds b⟩
end
theorem walkGE {l : PySem.W.OpenLaw} {k : Nat} {q : Program} {loose : List Str}
    {XP : (Str → Option Value) → Heap → Prop} {YP : World → Heap → Prop} {d : DefRec}
    {x : Str} (hn : l.most = some 63) (hdf : d.params.defaults = []) (hnm : d.name = "law") (hr : RoomG k callerA)
    (F : ∀ (w : World) (mg : Str → Option Value) (h : Heap), YP w h → h.Ns mainGlobals mg → ∃ K : PySem.W.Frag, K.In h ∧
      ∀ base : Heap, K.In base → base.Ns mainGlobals mg → (∃ mm, base.Ns sysModules mm) → Has l.prog w K mg base CX0 "law" [x] k (spLaw K))
    (hq : importsNone q = true) :
    PySem.W.WalkO q loose XP YP l.row.toRowW d [] (fun f vs => PySem.call f vs) := by
  refine Att.attach_call hn hdf fun w s₀ s₁ mg mb fa o pm cd doc a vs ns G Y ho hd hcd hmg hobj hints hlen hg => ?_
  obtain ⟨K, KX, FF⟩ := F w mg _ Y G.T.g
  rw [hnm] at hmg
  exact lawG KX G.T.g G.T.b G.T.builtins G.T.nolimit ((G.T.seer hq).mods.imp fun _ h => h.1) hg hobj hints hlen hr hmg FF
end Aw
namespace Aw
open PySem PySem.Spec PyProof.Rows L2
theorem excOB_ok {K : PySem.W.Frag} {C : Addr} {newId : String} {tl : List Value} (q : excOB K C newId tl = true) :
    ∃ nm qn N bs bm sn sub ab col dd k0 k1 k2 k3 k5, K.lookup C = some (excClassObj nm qn C N bs bm true sn sub ab col dd k0 k1 k2 k3 k5 newId) ∧ RfT tl bm := by
  unfold excOB at q
  split at q
  · rename_i t dd cd sl ho
    split at q
    · rename_i C' bm k0 k1 k2 k3 n k5 hm hs
      obtain ⟨q1, q⟩ := He.ba q
      obtain ⟨q2, q⟩ := He.ba q
      obtain ⟨q3, q⟩ := He.ba q
      obtain ⟨q4, q⟩ := He.ba q
      obtain ⟨q5, q6⟩ := He.ba q
      have e1 := of_decide_eq_true q1
      have e2 := of_decide_eq_true q2
      have e3 := of_decide_eq_true q3
      subst e1 e2 e3
      obtain ⟨nm, bs, mro, ns, qn, hd, sn, sub, ab, col, del⟩ := cd
      dsimp only at hm q4 q5
      subst hm
      have e4 : del = false := by cases del <;> first | rfl | cases q4
      subst e4 q5
      have hsl : sl = #[k0, k1, k2, k3, some (.builtin n), k5] := by
        obtain ⟨l⟩ := sl
        simp only at hs
        rw [hs]
      subst hsl
      exact ⟨nm, qn, ns, bs, bm, sn, sub, ab, col, dd, k0, k1, k2, k3, k5, ho, rfB_ok q6⟩
    · cases q
  · cases q
theorem efc_hd {K : PySem.W.Frag} {h : Heap} {mg : Str → Option Value} {x : Str} {newId : String} {tl : List Value} {bm : PySem.W.Frag → List Value} (X : K.In h) (G : h.Ns mainGlobals mg) (c : efcB x newId tl bm K = true) :
    EFC K mg x (He.ga K x) newId tl (bm K) := by
  obtain ⟨c0, c⟩ := He.ba c
  obtain ⟨c1, c⟩ := He.ba c
  obtain ⟨c2, c⟩ := He.ba c
  obtain ⟨c3, c⟩ := He.ba c
  obtain ⟨c4, c⟩ := He.ba c
  obtain ⟨c5, c⟩ := He.ba c
  obtain ⟨c6, c⟩ := He.ba c
  obtain ⟨c7, c⟩ := He.ba c
  obtain ⟨c8, c9⟩ := He.ba c
  obtain ⟨nm, qn, N, bs, bm', sn, sub, ab, col, dd, k0, k1, k2, k3, k5, lk, rf⟩ := excOB_ok c1
  have e : mroTail K (He.ga K x) = bm' := by
    unfold mroTail PySem.W.clsIn
    rw [lk] <;> rfl
  have e2 : bm' = bm K := e.symm.trans (of_decide_eq_true c2)
  subst e2
  exact ⟨He.glo_ok X G c0, ⟨nm, qn, N, bs, sn, sub, ab, col, dd, k0, k1, k2, k3, k5, lk⟩, rf, He.eqO_ok c3, He.eqO_ok c4, He.eqO_ok c5, c6, of_decide_eq_true c7, c8, He.eqO_ok c9⟩
theorem valB_ok {K : PySem.W.Frag} {c mc : Value} {n : Str} {v : Value} (h : valB K c mc n v = true) : PySem.W.findCls K c mc n = some (.val v) := by
  unfold valB at h
  split at h
  · rename_i u e
    rw [e, of_decide_eq_true h]
  · cases h
end Aw
namespace Aw
open PySem PySem.Spec PyProof.Rows L2
section
variable {K : PySem.W.Frag} {h : Heap} {mg : Str → Option Value}
theorem dfa_hd {x nm : Str} {st : Stmt} {ps : List Str} {fd : FuncData} (X : K.In h) (G : h.Ns mainGlobals mg) (F : FunD K nm nm (defArgs st) (defBody st) (defScope st) [] [] (He.ga K x) fd) (a : (He.Fa.glo x).ok K = true)
    (b : ∀ (kV doc pm : Value) (an : Option Addr) (cdv ct : Value) (us : List Value), us.length = ps.length →
      bindArgs (PySem.W.fnOf nm nm (defArgs st) (defBody st) (defScope st) .none kV doc pm an cdv ct) ⟨us, []⟩ = pure (ps.zip us)) : DfA K mg x nm st ps :=
  ⟨_, fd, fun_of F, He.glo_ok X G a, (fun_of F).binds b⟩
theorem valsB_ok : ∀ {ws : List Str} {its : List Value}, valsB ws its = true → Vals (ws.map V.str) its
  | [], [], _ => .nil
  | x :: r, .str z t :: s, q => by
    obtain ⟨q1, q2⟩ := He.ba q
    have e := of_decide_eq_true q1
    subst e
    exact .cons ⟨t, rfl⟩ (valsB_ok q2)
  | [], _ :: _, q => by cases q
  | x :: r, [], q => by cases q
/-- a tuple of texts at the top -/
structure GStrs (K : PySem.W.Frag) (mg : Str → Option Value) (x : Str) (R : Addr) (ws : List Str) : Prop where
  at_ : mg x = some (.ref R)
  sq : ∀ H, SqT K H R (ws.map V.str)
  its : ∃ its : Array Value, Vals (ws.map V.str) its.toList ∧ ∀ h : Heap, K.In h → IsTup h R its
theorem strs_hd {x : Str} {ws : List Str} (X : K.In h) (G : h.Ns mainGlobals mg) (c : strsB x ws K = true) : GStrs K mg x (He.ga K x) ws := by
  obtain ⟨c0, c⟩ := He.ba c
  have ex : ∃ (t od : Option Addr) (its : Array Value) (n : Nat) (sl : Array (Option Value)), K.lookup (He.ga K x) = some ⟨.type "tuple", od, .seq its n, sl⟩ ∧ its.size ≤ 1000 ∧ Vals (ws.map V.str) its.toList := by
    revert c
    split
    · rename_i t od its n sl e
      intro c
      obtain ⟨q1, c⟩ := He.ba c
      obtain ⟨q2, q3⟩ := He.ba c
      have e1 := of_decide_eq_true q1
      subst e1
      exact ⟨none, od, its, n, sl, e, of_decide_eq_true q2, valsB_ok q3⟩
    · intro c
      cases c
  obtain ⟨_, od, its, n, sl, lk, hz, hv⟩ := ex
  have hz2 : its.size ≤ sizeLine := by
    rw [sizeLine_eq]
    omega
  exact ⟨He.glo_ok X G c0, fun H => .inr ⟨_, its, n, lk, rfl, rfl, hz2, hv⟩, its, hv, fun h' X' => ⟨_, X' _ _ lk, rfl, n, rfl⟩⟩
end
end Aw
namespace Aw
open PySem PySem.Spec PyProof.Rows L2 GenW
def RDS : List Str := ["set", "tell", "if"]
def headS : PyData → Str
  | .tuple (.str u :: _) => u
  | _ => ""
/-- the places whose statements read -/
def selP (rs : List (Nat × PyData)) : List Int := ((List.range rs.length).filter fun j => RDS.contains (headS (rs.getD j (0, .none)).2)).map Int.ofNat
theorem selI_selP (rs : List (Nat × PyData)) : selI RDS (fun j => headS (rs.getD j (0, .none)).2) rs.length = (selP rs).map V.int := by
  unfold selI selP
  rw [List.map_map]
  rfl
def spPlaces (K : PySem.W.Frag) : Sp := fun vs H Q _ => ∃ (M : List Addr) (v : V) (p : List Sm), vs = [v] ∧ Dw M K H v (.tuple (Sm.ds p)) ∧ (∀ s ∈ p, ∃ n, Sm.vd n s) ∧ dszs (Sm.ds p) ≤ 1000000 ∧ Sm.sizes p < 1000 ∧
  ∀ (H' : Hp) (r : Addr), H r = none → Kp [] H H' → H' r = some (.lst ((selP (Sm.rowsL 0 p)).map V.int)) → Q (.ref r) H'
theorem stmt_head {d : PyData} (s : isStmt d = true) : ∃ u r, d = .tuple (.str u :: r) ∧ r.length < 100 := by
  rcases stmt_view s with ⟨p, rfl, hp, hb⟩ | ⟨t, y, z, rfl, ht, hb⟩ | ⟨n, b, rfl, k1, k2, hb⟩
  · obtain ⟨u, r, e, _, _, hl⟩ := Pl.d_len p
    exact ⟨u, r, e, hl⟩
  · exact ⟨_, _, rfl, by simp⟩
  · exact ⟨_, _, rfl, by simp⟩
theorem Dw.head {M : List Addr} {K : PySem.W.Frag} {H : Hp} {v : V} {d : PyData} (h : Dw M K H v d) (s : isStmt d = true) : ∃ (a : Addr) (ys : List V), v = .ref a ∧ SqT K H a (.str (headS d) :: ys) ∧ ys.length < 100 := by
  obtain ⟨u, r, rfl, hl⟩ := stmt_head s
  obtain ⟨a, xs, rfl, hT, hL⟩ := h.items
  obtain ⟨x, ys, rfl, h0, hR⟩ := hL.inv
  obtain rfl := h0.isStr
  exact ⟨a, ys, rfl, hT, by rw [hR.len]; exact hl⟩
theorem rowsL_stmt {p : List Sm} (hv : ∀ s ∈ p, ∃ n, Sm.vd n s) : ∀ e ∈ Sm.rowsL 0 p, isStmt e.2 = true := by
  have go : ∀ (m : Nat) (S : List (Nat × Sm)), stSize (dT S) ≤ m → (∀ q ∈ S, ∃ n, Sm.vd n q.2) → ∀ e ∈ rowsT S, isStmt e.2 = true := by
    intro m
    induction m with
    | zero =>
      intro S hm hS e he
      cases S with
      | nil => cases he
      | cons s S =>
        obtain ⟨n, sm⟩ := s
        have q : stSize ((n, sm.d) :: dT S) ≤ 0 := hm
        rw [stSize_cons] at q
        have := dsz_pos sm.d
        omega
    | succ m ih =>
      intro S hm hS e he
      cases S with
      | nil => cases he
      | cons s S =>
        obtain ⟨n, sm⟩ := s
        have q : stSize ((n, sm.d) :: dT S) ≤ m + 1 := hm
        rw [stSize_cons] at q
        have hdp := dsz_pos sm.d
        have hisz := inner_size sm.d
        obtain ⟨nv, hsv⟩ := hS (n, sm) (List.mem_cons_self ..)
        obtain ⟨hst, hin, hkids⟩ := hsv.is
        have e5 : rowsT ((n, sm) :: S) = (n, sm.d) :: rowsT (sm.kids.map (fun s => (n + 1, s)) ++ S) := by
          unfold rowsT
          rw [List.flatMap_cons, List.flatMap_append]
          have e5 : List.flatMap (fun p => Sm.rows p.1 p.2) (List.map (fun s => (n + 1, s)) sm.kids) = Sm.rowsL (n + 1) sm.kids := rowsT_map (n + 1) sm.kids
          rw [e5, Sm.rows_kids]
          rfl
        rw [e5] at he
        rcases List.mem_cons.mp he with rfl | he
        · exact hst
        · refine ih _ ?_ (fun q hq => ?_) e he
          · have eD : dT (sm.kids.map (fun s => (n + 1, s)) ++ S) = (inner sm.d).map (fun e => (n + 1, e)) ++ dT S := by
              rw [hin, ← dT_map]
              unfold dT
              rw [List.map_append]
            rw [eD, stSize_app, stSize_map]
            omega
          · rcases List.mem_append.mp hq with hq | hq
            · obtain ⟨c, hc, rfl⟩ := List.mem_map.mp hq
              obtain ⟨m, hm, _⟩ := hkids c hc
              exact ⟨m, hm⟩
            · exact hS q (List.mem_cons_of_mem _ hq)
  intro e he
  refine go _ (p.map fun s => (0, s)) (Nat.le_refl _) (fun q hq => ?_) e (by rw [rowsT_map]; exact he)
  obtain ⟨s, hs, rfl⟩ := List.mem_map.mp hq
  exact hv s hs
/-- what the call of each_statement hands out -/
theorem each_use {K : PySem.W.Frag} {M : List Addr} {v : V} {p : List Sm} {H : Hp} (hd : Dw M K H v (.tuple (Sm.ds p))) (hv : ∀ s ∈ p, ∃ n, Sm.vd n s) (hz : dszs (Sm.ds p) ≤ 1000000) :
    ∃ rows, spEach K [v] H rows ∧ rows.length = (Sm.rowsL 0 p).length ∧ ∀ (i : Nat) d st, rows[i]? = some (d, st) → ∃ a xs, st = .ref a ∧ SqT K H a (.str (headS ((Sm.rowsL 0 p).getD i (0, .none)).2) :: xs) ∧ xs.length < 900 := by
  obtain ⟨a, xs, rfl, hT, hL⟩ := hd.items
  obtain ⟨rw_, hr, er, hD⟩ := RwX.ex (M := M) (K := K) (H := H) (dszs (Sm.ds p)) ((xs.zip (Sm.ds p)).map fun e => (0, e.1, e.2)) (p.map fun s => (0, s)) (by rw [dx_map hL.len, stSize_map]; exact Nat.le_refl _)
    (by rw [dx_map hL.len, dT_map]) (fun e he => by
      obtain ⟨⟨x, y⟩, hx, rfl⟩ := List.mem_map.mp he
      obtain ⟨i, hi, hxe⟩ := List.mem_iff_getElem.mp hx
      have q := List.getElem?_zip_eq_some.mp (List.getElem?_eq_some_iff.mpr ⟨hi, hxe⟩)
      exact hL.all i x y q.1 q.2) (fun q hq => by
      obtain ⟨s, hs, rfl⟩ := List.mem_map.mp hq
      exact hv s hs)
  have e2 : dx rw_ = Sm.rowsL 0 p := by rw [er, rowsT_map]
  have hlen : rw_.length = (Sm.rowsL 0 p).length := by rw [← e2]; unfold dx; rw [List.length_map]
  have hn : rw_.length ≤ 1000000 := by
    rw [hlen, Sm.rowsL_len]
    have := Sm.sizes_dszs p
    omega
  refine ⟨rw_.map fun e => ((e.1 : Int), e.2.1), ⟨_, a, xs, Sm.ds p, rw_, rfl, hT, hL.len, hz, hr, hn, rfl⟩, by rw [List.length_map, hlen], fun i d st e => ?_⟩
  rw [List.getElem?_map] at e
  obtain ⟨⟨n, y, dd⟩, he, e3⟩ := Option.map_eq_some_iff.mp e
  cases e3
  have e4 : (Sm.rowsL 0 p)[i]? = some (n, dd) := by
    rw [← e2]
    unfold dx
    rw [List.getElem?_map, he]
    rfl
  have e5 : (Sm.rowsL 0 p).getD i (0, .none) = (n, dd) := by rw [List.getD_eq_getElem?_getD, e4]; rfl
  rw [e5]
  have hs := rowsL_stmt hv (n, dd) (List.mem_of_getElem? e4)
  obtain ⟨b, ys, rfl, q1, q2⟩ := (hD _ (List.mem_of_getElem? he)).head hs
  exact ⟨b, ys, rfl, q1, by omega⟩
theorem r_rows {K : PySem.W.Frag} {ws : List Str} {sp : SpI} {t : TA} {σ : L2.St} {H : Hp} {Q : VK} (h : t σ H fun vs H1 => ∃ rows, sp vs H1 rows ∧ rows.length < 1000 ∧ ∃ hd : Nat → Str,
    (∀ (i : Nat) d st, rows[i]? = some (d, st) → ∃ a xs, st = .ref a ∧ SqT K H1 a (.str (hd i) :: xs) ∧ xs.length < 900) ∧ ∀ D, H1 D = none → Q (.ref D) (upd H1 D (.lst (selI ws hd rows.length)))) : tRows K ws (tCallI sp t) σ H Q := h
end Aw
namespace Aw
open PySem PySem.Spec PyProof.Rows L2
/-- an own error's class, over either base -/
def HasH (P : Program) (w : World) (K : PySem.W.Frag) (mg : Str → Option Value) (base : Heap) (x : Str) (C : Addr) (ps : List Str) (k : Nat) (sp : Sp) : Prop :=
  ∃ newId initId tl, HasG P w K mg base x C newId initId tl ps k sp ∧ PySem.W.subIn K (.ref C) (.type "BaseException") = some true ∧ PySem.W.typeIn K (.ref C) = some (.type "type") ∧ XfC K C
theorem HasH.at_ {P : Program} {w : World} {K : PySem.W.Frag} {mg : Str → Option Value} {base : Heap} {x : Str} {C : Addr} {ps : List Str} {k : Nat} {sp : Sp} (F : HasH P w K mg base x C ps k sp) : mg x = some (.ref C) := by
  obtain ⟨_, _, _, ⟨_, _, h, _⟩, _⟩ := F
  exact h
theorem HasH.kC {P : Program} {w : World} {K : PySem.W.Frag} {mg : Str → Option Value} {base : Heap} {x : Str} {C : Addr} {ps : List Str} {k : Nat} {sp : Sp} (F : HasH P w K mg base x C ps k sp) : PySem.W.keepIn K (.ref C) = true := by
  obtain ⟨_, _, _, ⟨_, T, _⟩, _⟩ := F
  exact T.kC
theorem HasH.xf {P : Program} {w : World} {K : PySem.W.Frag} {mg : Str → Option Value} {base : Heap} {x : Str} {C : Addr} {ps : List Str} {k : Nat} {sp : Sp} (F : HasH P w K mg base x C ps k sp) : XfC K C := by
  obtain ⟨_, _, _, _, _, _, h⟩ := F
  exact h
theorem HasH.of {P : Program} {w : World} {K : PySem.W.Frag} {mg : Str → Option Value} {base : Heap} {x : Str} {C : Addr} {newId initId : String} {tl bm : List Value} {ps : List Str} {k : Nat} {sp : Sp} (BF : BaseF newId initId tl) (e : EFC K mg x C newId tl bm)
    (hb : tl.contains (.type "BaseException") = true) (h : HasM P w K mg base CX0 C "__init__" ps k sp) : HasH P w K mg base x C ps k sp :=
  ⟨newId, initId, tl, HasG.of BF e h, e.has hb, e.tC, e.xf hb⟩
section
variable {X : Cx} {e : Expr} {es : List Expr} {ta : TA} {x f : Str} {C : Addr} {k : Nat} {ps : List Str} {p pos p1 p2 : Pos}
theorem mk_oexH {sp : Sp} {pins : List (Addr × Obj)} {σ : L2.St} {H1 : Hp} {Q : XK} {us : List Value} {vs : List V} {s1 : Shared} (F : HasH X.prog X.w X.K X.mg X.base x C ps k sp) (hr : RoomG (k + 1) X.A) (I1 : Inv X pins σ H1 s1) (r1 : Vals vs us) (hz : vs.length ≤ 1000)
    (q1 : ∀ a, H1 a = none → sp (.ref a :: (vs ++ [])) (upd H1 a (exo a C none)) (fun v H2 => v = .non ∧ ∃ (d : Addr) (fs : List (Str × V)), H2 a = some (exo a C (some d)) ∧ H2 d = some (exd d fs) ∧ H1 d = none ∧ Q (.ref C) (some d) (upd (del H2 a) d (.xd fs))) (fun _ _ _ => False)) :
    wpAny (model X.prog X.w) X.A (call (.ref C) us) (MkP X pins σ Q) X.xe s1 := by
  obtain ⟨newId, initId, tl, ⟨BF, T, hm, fI, fd, iC, tI, hb, F1⟩, xC, tyC, _⟩ := F
  obtain ⟨B, FB⟩ := BF.F
  obtain ⟨nm, q, N, bs, bm, sn, sub, ab, col, dd, k0, k1, k2, k3, k5, hC, hbm⟩ := T.cls
  obtain ⟨hp, g, dr, tk, os⟩ := s1
  have hsz : hp.objs.size ≤ hp.objs.size + 1 := Nat.le_succ _
  have hn : H1 (hp.objs.size + 1) = none := I1.hok.fresh hsz
  have hq := q1 (hp.objs.size + 1) hn
  rw [List.append_nil] at hq
  have kk : ∀ b o, hp.get? b = some o → ((hp.push (PySem.W.kdv_tup us)).push (PySem.HandSPX.excO C hp.objs.size)).get? b = some o := fun b o e => Heap.get?_push_of_some _ (Heap.get?_push_of_some _ e)
  have hget : ((hp.push (PySem.W.kdv_tup us)).push (PySem.HandSPX.excO C hp.objs.size)).get? (hp.objs.size + 1) = some (PySem.HandSPX.excO C hp.objs.size) := by heap_get
  have I2 : Inv X pins σ (upd H1 (hp.objs.size + 1) (exo (hp.objs.size + 1) C none)) ⟨(hp.push (PySem.W.kdv_tup us)).push (PySem.HandSPX.excO C hp.objs.size), g, dr, tk, os⟩ :=
    I1.laid (t' := tk) (a := hp.objs.size + 1) (o := exo (hp.objs.size + 1) C none) (h' := (hp.push (PySem.W.kdv_tup us)).push (PySem.HandSPX.excO C hp.objs.size)) kk hsz (exo_ok hget)
  have r2 : Vals (V.ref (hp.objs.size + 1) :: vs) (Value.ref (hp.objs.size + 1) :: us) := .cons rfl r1
  have hl : (Value.ref (hp.objs.size + 1) :: us ++ []).length = ps.length := by
    have e := r2.length
    rw [F1.len _ _ _ _ hq] at e
    rw [List.append_nil]
    exact e.symm
  have hus : us.length ≤ sizeLine := by
    rw [← Paired.length r1, sizeLine_eq]
    omega
  have bb := hb _ (Value.ref (hp.objs.size + 1) :: us) I2.kIn hl
  rw [List.append_nil] at bb
  refine wpAny_call (PySem.HandSPX.call_own FB (fun Y => hbm.has Y) (I1.kIn _ _ hC) (PySem.W.looks_findIn I1.kIn iC) (fun self => PySem.W.bind_fn I1.kIn self tI) hus
    (codeAny_mono (F1.run _ X.stack _ _ ⟨Value.ref (hp.objs.size + 1) :: us, []⟩ (Value.ref (hp.objs.size + 1) :: us) _ _ (fun _ _ _ => False) (hr.make C us []) (I2.env0.make C us []) bb r2 hq) fun r s' hq' => ?_))
  cases r with
  | error er => exact pass0 pins σ _ _ er s' I2 hq'
  | ok fl =>
    cases fl with
    | ret u =>
      obtain ⟨v, H2, os2, bare2, un2, hok2, rv, ev, d, fs, ea, ed, hd1, q2⟩ := hq'
      subst ev
      obtain ⟨h2, g2, d2, t2, os'⟩ := s'
      exact ⟨rv, mk_end (raises_own xC tyC) I1 hsz kk un2 hok2 os2 bare2 ea ed hd1 q2⟩
    | next => exact False.elim hq'
    | brk => exact False.elim hq'
    | cont => exact False.elim hq'
/-- x(e) of an error with one field -/
theorem pmk_errH (F : HasH X.prog X.w X.K X.mg X.base x C ps k (spErr C f)) (hr : RoomG (k + 1) X.A) (hg : Gl X x) (ha : PA X [e] ta)
    (hdb : (x == ("__debug__" : Str)) = false := by decide) (he : starEach [e] X.env = (false, eval e X.env) :: starEach [] X.env := by rfl) (hpl : (backTo pos (starEach [] X.env)).any (·.1) = false := by rfl) :
    PMk X (.Call (.Name x p) [e] [] pos) (tErr C f ta) := by
  intro pins s σ H Q I h
  refine wpAny_Call_Name_kw (ld_glob I hg F.at_ ?_ hdb)
  refine PySem.W.callWith_K (h₀ := X.base) I.ok.mod.kin F.kC (thn (ha.run pos pins s σ H _ I h) fun us s1 ⟨vs, H1, I1, r1, v, ev, q1⟩ => ⟨I1.kIn, ?_⟩) he hpl
  subst ev
  refine mk_oexH F hr I1 r1 (by simp) fun a ha => ⟨a, v, rfl, upd_same, fun dx hdx hne => ⟨rfl, dx, [(f, v)], upd_same, ?_, ?_, ?_⟩⟩
  · rw [upd_ne hne, upd_same]
  · rw [upd_ne hne] at hdx
    exact hdx
  · rw [upd_exd ha hne]
    rw [upd_ne hne] at hdx
    exact q1 dx hdx
end
def rSortedT (K : PySem.W.Frag) : List V → Hp → VK → Prop := fun vs H Q => ∃ (a : Addr) (ns : List Int), vs = [V.ref a] ∧ SqT K H a (ns.map V.int) ∧ ns.length < 64 ∧
  ∀ (ns' : List Int) (p : Addr), ns'.Perm ns → ns'.Pairwise (· ≤ ·) → H p = none → Q (.ref p) (upd H p (.lst (ns'.map V.int)))
theorem cr_sortedT {X : Cx} {K : PySem.W.Frag} (h : X.K = K) : CallR X (.builtin "sorted") (rSortedT K) := by
  subst h
  intro pins s σ H vs us Q I r h
  obtain ⟨a, ns, rfl, hs, hz, q⟩ := h
  obtain ⟨its, rv, ⟨o, ho, hc, n, hd⟩, _⟩ := I.tuple hs
  rw [Vals.ref1 r]
  have hi := rv.ints
  have hL : its.length ≤ sizeLine := by
    have := hi.length
    rw [sizeLine_eq]
    omega
  refine Calls.call_function_entry kind_sorted plain_sorted entry_sorted (args_sorted1 _) ?_
  unfold Builtin.«sorted»
  refine wpAny_bind (m := checkCount "sorted" 1 1 _) (wpAny_pure ?_)
  refine wpAny_bind (wpAny_collect_seq a (.inr rfl) ho hc hd (fun h' k' => ?_) (by simpa using hL))
  refine wpAny_bind (wpAny_newList ?_ (by simpa using hL))
  have hoL : (h'.push (seqObj "list" its.toArray 0)).get? h'.objs.size = some (seqObj "list" its.toArray 0) := Heap.get?_push_size _ rfl
  refine wpAny_bind (wpAny_holding (wpAny_call_entry slot_list_sort ⟨_, hoL, rfl⟩ entry_list_sort (list_sort_tree hoL hi (by rw [hi.length]; exact hz) fun out ns' h1 h2 h3 => ⟨_, rfl, ?_⟩) (args_list_sort _)))
  refine wpAny_pure ⟨_, rfl, ?_⟩
  have hlt : h'.objs.size < (h'.push (seqObj "list" its.toArray 0)).objs.size := Heap.lt_size hoL
  obtain ⟨ep, he⟩ := PyProof.Rows.sortedHeap_at (vs := its) (out := out) hoL
  have hlen : (ns'.map V.int).length ≤ sizeLine := by
    rw [List.length_map, h2.length_eq]
    exact small64 hz
  have old : ∀ b o', s.heap.get? b = some o' → (PyProof.Rows.sortedHeap (h'.push (seqObj "list" its.toArray 0)) h'.objs.size its out).get? b = some o' := fun b o' e => by
    have e1 := k' b o' e
    have e2 : (h'.push (seqObj "list" its.toArray 0)).get? b = some o' := Heap.get?_push_of_some _ e1
    rw [PyProof.Rows.sortedHeap_old (Nat.ne_of_lt (Heap.lt_size e1)) (Heap.lt_size e2)]
    exact e2
  have hp : s.heap.get? h'.objs.size = none := by
    cases e : s.heap.get? h'.objs.size with
    | none => rfl
    | some o' => exact absurd (Heap.lt_size (k' _ _ e)) (Nat.lt_irrefl _)
  have hn : H h'.objs.size = none := I.hok.gone hp
  exact ⟨.ref _, upd H h'.objs.size (.lst (ns'.map V.int)), I.laidN (t' := s.toks) old hp hn ⟨hlen, out.toList, ep, vals_of_ints h1, he⟩, rfl, q ns' _ h2 h3 hn⟩
theorem passC {X : Cx} {E : XK} (tk : Takes X (fun cls d _ H => E cls d H)) : Passes (L2.CX X.prog X.w) X E := fun pins σ H s e s' I c => passAt tk σ pins H s e s' I c
theorem cr_allK {X : Cx} {K : PySem.W.Frag} (h : X.K = K) (hc : X.calm = true) : CallR X (.builtin "all") (rAll K) := by
  subst h
  exact cr_all hc
def spIsInt : Sp := fun vs H Q _ => ∃ i : Int, vs = [.int i] ∧ Q (.bl true) H
/-- a fix that is one -/
def spFixT (K : PySem.W.Frag) : Sp := fun vs H Q _ => ∃ (M : List Addr) (v : V) (p : List Sm) (a : Addr) (fx : List Int), vs = [v, .ref a] ∧ Dw M K H v (.tuple (Sm.ds p)) ∧ (∀ s ∈ p, ∃ n, Sm.vd n s) ∧ dszs (Sm.ds p) ≤ 1000000 ∧ Sm.sizes p < 1000 ∧
  SqT K H a (fx.map V.int) ∧ fx.length < 1000 ∧ (∀ x ∈ fx, x ∈ selP (Sm.rowsL 0 p)) ∧ fx.Pairwise (· < ·) ∧ ∀ H', Kp [] H H' → Q (.bl true) H'
/-- need_program -/
noncomputable def spNeed (K : PySem.W.Frag) (CB : Addr) : Sp := fun vs H Q E => ∃ (v : V) (d : PyData), vs = [v] ∧ Dw [] K H v d ∧ dsz d ≤ 1000000 ∧
  (perr d = .none → ∀ H', Kp [] H H' → Q v H') ∧ (perr d ≠ .none → ∀ (H' : Hp) (e : Addr) (z : V), Kp [] H H' → H e = none → H' e = some (.xd [("error", z)]) → Dt K H' z (perr d) → E (.ref CB) (some e) H')
def spSize (K : PySem.W.Frag) (n : Nat) : Sp := fun vs H Q _ => ∃ (M : List Addr) (v : V) (s : Sm), vs = [v] ∧ Dw M K H v s.d ∧ Sm.vd n s ∧ s.size < 1000 ∧ ∀ H', Kp [] H H' → Q (.int s.size) H'
def spStmts (K : PySem.W.Frag) (n : Nat) : Sp := fun vs H Q _ => ∃ (M : List Addr) (v : V) (b : List Sm), vs = [v] ∧ Dw M K H v (.tuple (Sm.ds b)) ∧ VdB n b ∧ Sm.sizes b < 1000 ∧ ∀ H', Kp [] H H' → Q (.int (Sm.sizes b)) H'
theorem Dw.ints {M : List Addr} {K : PySem.W.Frag} {H : Hp} {a : Addr} {fx : List Int} (h : SqT K H a (fx.map V.int)) : Dw M K H (.ref a) (.tuple (fx.map PyData.int)) := .tup h (by simp) fun i v d e e' => by
  rw [List.getElem?_map] at e e'
  obtain ⟨x, hx, rfl⟩ := Option.map_eq_some_iff.mp e
  rw [hx] at e'
  cases e'
  exact .int x
theorem flat_ints (l : List Int) : (l.map V.int).all flatV = true := by
  rw [List.all_eq_true]
  intro v hv
  obtain ⟨_, _, rfl⟩ := List.mem_map.mp hv
  rfl
theorem inV_ints (x : Int) : ∀ l : List Int, inV (.int x) (l.map V.int) = decide (x ∈ l)
  | [] => rfl
  | y :: r => by
    have q := inV_ints x r
    unfold inV at q ⊢
    rw [List.map_cons, List.any_cons, q]
    show (decide (y = x) || decide (x ∈ r)) = decide (x ∈ y :: r)
    rw [← Bool.decide_or]
    refine decide_eq_decide.mpr ⟨fun h => ?_, fun h => ?_⟩
    · rcases h with h | h
      · exact List.mem_cons.mpr (.inl h.symm)
      · exact List.mem_cons.mpr (.inr h)
    · rcases List.mem_cons.mp h with h | h
      · exact .inl h.symm
      · exact .inr h
theorem Dw.intsT {M : List Addr} {K : PySem.W.Frag} {H : Hp} {v : V} {l : List Int} (h : Dw M K H v (.tuple (l.map PyData.int))) : ∃ a, v = .ref a ∧ SqT K H a (l.map V.int) := by
  obtain ⟨a, xs, rfl, hT, hL⟩ := h.items
  refine ⟨a, rfl, ?_⟩
  have e : xs = l.map V.int := by
    refine List.ext_getElem? fun i => ?_
    cases q : xs[i]? with
    | none =>
      have h1 : l.length ≤ i := by
        have := List.getElem?_eq_none_iff.mp q
        have h2 := hL.len
        rw [List.length_map] at h2
        omega
      rw [List.getElem?_map, List.getElem?_eq_none h1]
      rfl
    | some x =>
      obtain ⟨d, hd, hx⟩ := hL.get q
      rw [List.getElem?_map] at hd ⊢
      obtain ⟨n, hn, rfl⟩ := Option.map_eq_some_iff.mp hd
      rw [hn, hx.isInt]
      rfl
  rw [← e]
  exact hT
theorem asc_next {l : List Int} (h : l.Pairwise (· < ·)) : ∀ (i : Nat) (x y : Int), l[i]? = some x → (l.drop 1)[i]? = some y → x < y := by
  intro i x y hx hy
  rw [List.getElem?_drop] at hy
  obtain ⟨h1, rfl⟩ := List.getElem?_eq_some_iff.mp hx
  obtain ⟨h2, rfl⟩ := List.getElem?_eq_some_iff.mp hy
  exact List.pairwise_iff_getElem.mp h i (1 + i) h1 h2 (by omega)
/-- [g(x) for x in ints if f(x)] -/
theorem lc_intsF {K : PySem.W.Frag} {tt : TT} {te : TE} {ws : List Nat} {σ : L2.St} {H : Hp} {Q : VK} {a : Addr} {fx : List Int} {j : Nat} (f : Int → Bool) (g : Int → Int) (hT : SqT K H a (fx.map V.int)) (hz : fx.length ≤ 1000000)
    (ht : ∀ (x : Int) (H' : Hp) (R : Bool → Hp → Prop), Kp [] H H' → x ∈ fx → R (f x) H' → tt ((wipe σ ws).set j (some (.int x))) H' R)
    (he : ∀ (x : Int) (H' : Hp) (R : VK), Kp [] H H' → R (.int (g x)) H' → te ((wipe σ ws).set j (some (.int x))) H' R)
    (hw : ∀ v : V, wipe ((wipe σ ws).set j (some v)) ws = wipe σ ws)
    (h : ∀ (q : Addr) (H' : Hp), H q = none → Kp [] H H' → H' q = some (.lst (((fx.filter f).map g).map V.int)) → Q (.ref q) H') : LcT K (gName j) tt te ws σ Q (.ref a) H := by
  refine r_LcT hT fun q hq => ⟨fun i H' => Kp [] H H' ∧ H' q = some (.lst ((((fx.take i).filter f).map g).map V.int)), ⟨Kp.nil.new hq, upd_same⟩, fun i H' ⟨k1, _⟩ => sqT_kp k1 hT, ?_, ?_⟩
  · rintro i u H' hu ⟨k1, hq1⟩
    rw [List.getElem?_map] at hu
    obtain ⟨x, hx, rfl⟩ := Option.map_eq_some_iff.mp hu
    have hil : i < fx.length := (List.getElem?_eq_some_iff.mp hx).1
    have htk : fx.take (i + 1) = fx.take i ++ [x] := by rw [List.take_add_one, hx]; rfl
    refine r_name (r_LcTurn (hw _) (ht x H' _ k1 (List.mem_of_getElem? hx) ?_))
    cases hf : f x with
    | true =>
      rw [if_pos rfl]
      refine he x H' _ k1 (r_LcEnd hq1 ?_ ⟨k1.own hq, ?_⟩)
      · have q1 := List.length_filter_le f (fx.take i)
        rw [List.length_take] at q1
        rw [List.length_map, List.length_map, sizeLine_eq]
        omega
      · rw [upd_same, htk, List.filter_append, List.filter_cons_of_pos (by exact hf), List.map_append, List.map_append]
        rfl
    | false =>
      rw [if_neg (by decide)]
      refine ⟨k1, ?_⟩
      rw [htk, List.filter_append, List.filter_cons_of_neg (by rw [hf]; decide), List.filter_nil, List.append_nil]
      exact hq1
  · rintro H' ⟨k1, hq1⟩
    rw [List.length_map, List.take_length] at hq1
    exact h q H' hq k1 hq1
end Aw
namespace Aw
open PySem PySem.Spec PyProof.Rows L2
theorem enum_new1 {v : Value} {o : Obj} {H : Heap → Prop} (B : Begins v o H) :
    Meets (Builtin.«enumerate.__new__» ⟨[.type "enumerate", v], []⟩) (fun _ R s => H s.heap ∧
      R (.ok (.ret (.ref (s.heap.push o).objs.size))) { s with heap := (s.heap.push o).push { cls := .type "enumerate", data := .fields #[.none, .bool false, .ref s.heap.objs.size, rawInt 0, .none, .none] } }) :=
  .of_wp fun prog w A R s h => by
    obtain ⟨hp, g, d, tk, os⟩ := s
    obtain ⟨h1, h⟩ := h
    have hsub := sub_enumerate
    have q1 : ∀ {A' : Around} {E : Value → Shared → Prop} {Q : Value → Shared → Prop}, Q (.ref hp.objs.size) ⟨hp.push o, g, d, tk, os⟩ → wpAny (model prog w) A' (pyIter v) Q E ⟨hp, g, d, tk, os⟩ :=
      fun q => B.iter prog w _ _ ⟨hp, g, d, tk, os⟩ _ h1 q
    wp_walk using q1
    refine wpAny_stack_any fun st => wpAny_pure ?_
    split
    · rename_i c _ _ _ _ _
      cases (c == Value.type "enumerate") <;>
        (wp_walk using q1
         exact ⟨_, rfl, h⟩)
    · wp_walk using q1
      exact ⟨_, rfl, h⟩
theorem enum_call1 {prog : Program} {w : World} {A : Around} {E : Value → Shared → Prop} {s : Shared} {v : Value} {o : Obj} {H : Heap → Prop} {Q : Value → Shared → Prop} (B : Begins v o H) (h1 : H s.heap)
    (h : ∀ h', IsEnum h' (s.heap.objs.size + 1) s.heap.objs.size 0 .none → h'.get? s.heap.objs.size = some o → (∀ b u, s.heap.get? b = some u → h'.get? b = some u) → Q (.ref (s.heap.objs.size + 1)) { s with heap := h' }) :
    wpAny (model prog w) A (call (.type "enumerate") [v]) Q E s := by
  refine callType_new F.called_enumerate (by decide) (F.typeCall_enumerate_1 _) (F.newCall_enumerate_1 _) (fun obj => F.args_object_init_2 obj _) F.entry_enumerate_new (enum_new1 B) ⟨h1, ?_⟩
  have hz : (s.heap.push o).objs.size = s.heap.objs.size + 1 := Heap.size_push ..
  show _ ∧ _
  rw [hz]
  have he : IsEnum ((s.heap.push o).push { cls := .type "enumerate", data := .fields #[.none, .bool false, .ref s.heap.objs.size, rawInt 0, .none, .none] }) (s.heap.objs.size + 1) s.heap.objs.size 0 .none := by
    have q := Heap.get?_push_size (s.heap.push o) (o := { cls := .type "enumerate", data := .fields #[.none, .bool false, .ref s.heap.objs.size, rawInt 0, .none, .none] }) rfl
    rw [hz] at q
    exact q
  exact ⟨⟨_, he, rfl⟩, h _ he (Heap.get?_push_of_some _ (Heap.get?_push_size _ B.free)) fun b u x => Heap.get?_push_of_some _ (Heap.get?_push_of_some _ x)⟩
/-- the tuple at a, each item in a new pair -/
def IteT (K : PySem.W.Frag) (a : Addr) : It :=
  ⟨fun i H => ∃ (xs : List V) (x : V), SqT K H a xs ∧ xs[i]? = some x, fun i H v H' => ∃ T x, v = .ref T ∧ H T = none ∧ H' = upd H T (.tup [.int (i : Nat), x]) ∧ ∀ xs, SqT K H a xs → xs[i]? = some x, fun i H => ∃ xs : List V, SqT K H a xs ∧ xs.length ≤ i⟩
theorem turn_enumT {P : Program} {w : World} {K : PySem.W.Frag} {elts : List Expr} {kk : Nat} {tpos : Pos} (a e it : Addr) :
    Turn P w K (.Tuple elts kk tpos) (IteT K a) [e, it] e (fun i h => (∃ old, IsEnum h e it ((i : Nat) : Int) old) ∧ h.IsTupleIter it a i ∧ e ≠ it ∧ e ≠ a ∧ a ≠ it) where
  mem := by simp
  obj := fun i h st b hb => by
    obtain ⟨⟨old, he⟩, ⟨o, ho, hc, hd⟩, _⟩ := st
    have e' : b = e ∨ b = it := by simpa using hb
    rcases e' with z | z
    · rw [z]; exact ⟨_, he, fun v q => nomatch q⟩
    · rw [z]; exact ⟨o, ho, fun v q => by rw [hd] at q; cases q⟩
  keep := fun i h h' st k => let ⟨⟨old, he⟩, hi, hne⟩ := st; ⟨⟨old, k e (by simp) _ he⟩, hi.at fun o q => k it (by simp) o q, hne⟩
  item := by
    intro X hP hw hK hc i pins s σ H E I hf st hg
    subst hP hw hK
    obtain ⟨⟨old, he⟩, hit, hne, hea, hai⟩ := st
    obtain ⟨xs, x, hq, hx⟩ := hg
    obtain ⟨its, rv, p, hz⟩ := I.tuple hq
    obtain ⟨u, hu, ru⟩ := rv.get hx
    have hel : e < s.heap.objs.size := Heap.lt_size he
    have hil : it < s.heap.objs.size := by obtain ⟨_, q, _⟩ := hit; exact Heap.lt_size q
    have hlt : i < its.toArray.size := by
      have := (List.getElem?_eq_some_iff.mp hu).1
      simpa using this
    refine wpAny_pyNext_enum_itemD (Draws.tuple (A := X.A.in1) (I.ok.hd hc) it a hai its.toArray) he ⟨hit, p⟩ hlt hne (by simp [hne, hea]) fun u' h' tk hP ho hit' hT hsz hk => ?_
    have e0 : its.toArray[i]? = some u := by simpa using hu
    obtain rfl : u' = u := Option.some.inj (hP.symm.trans e0)
    refine ⟨_, rfl, wpAny_letOwnedTupleGo_enum (s := { s with heap := h', toks := tk + 1 }) ho fun h'' he' sb => ?_⟩
    have hT2 : h''.get? s.heap.objs.size = some { cls := .type "tuple", data := .seq #[.int i tk, u'] } := (sb.2 _ (Nat.ne_of_gt hel)).trans hT
    have new : ObjOk X.prog X.w (upd H s.heap.objs.size (.tup [.int (i : Nat), x])) h'' s.heap.objs.size (.tup [.int (i : Nat), x]) :=
      ⟨by show 2 ≤ sizeLine; decide, [.int i tk, u'], .cons ⟨_, rfl⟩ (.cons ru .nil), ⟨_, hT2, rfl, _, rfl⟩⟩
    have I1 : Inv X pins σ (upd H s.heap.objs.size (.tup [.int (i : Nat), x])) { s with heap := h'', toks := tk + 1 } :=
      I.turnedNew (ch := [e, it]) (fun b ob hb q => (sb.2 b (fun z => hb (by simp [z]))).trans (hk b ob (fun z => hb (by simp [z])) (fun z => hb (by simp [z])) q)) hf (Nat.le_refl _) new
    refine ⟨.ref s.heap.objs.size, _, I1, rfl, ⟨_, x, rfl, I.hok.fresh (Nat.le_refl _), rfl, fun ys hy => by rw [I.tuple_inj hy hq]; exact hx⟩, ⟨⟨u', ?_⟩, hit'.1.at fun o q => (sb.2 it (Ne.symm hne)).trans q, hne, hea, hai⟩, fun b hb => ?_⟩
    · have e1 : ((i + 1 : Nat) : Int) = (i : Int) + 1 := by omega
      rw [e1]; exact he'
    · have hb' : b < s.heap.objs.size := by
        have e' : b = e ∨ b = it := by simpa using hb
        rcases e' with z | z
        · rw [z]; exact hel
        · rw [z]; exact hil
      rw [upd_ne (Nat.ne_of_lt hb')]
      exact (hf b hb).1
  done := by
    intro X hP hw hK hc i pins s σ H E I hf st hg
    subst hP hw hK
    obtain ⟨⟨old, he⟩, hit, hne, hea, hai⟩ := st
    obtain ⟨xs, hq, hx⟩ := hg
    obtain ⟨its, rv, p, hz⟩ := I.tuple hq
    obtain ⟨f0, f1, f2, f3, f4, f5⟩ := hf it (by simp)
    have hl := rv.length
    have D : Draws X.prog X.w X.A.in1 it [it, a] i (fun _ _ => True) (fun j h => j = i ∧ h.IsTupleIter it a i ∧ h.IsTuple a its.toArray) :=
      ⟨fun _ _ st => let ⟨o, ho, _⟩ := st.2.1; ⟨o, ho⟩, fun _ _ _ st hk => ⟨st.1, st.2.1.at fun o e => hk it (by simp) o e, st.2.2.at fun o e => hk a (by simp) o e⟩,
        fun j s Q E hj st _ => absurd st.1 (Nat.ne_of_lt hj), fun s Q E st hE => wpAny_nextOf_tuple_end (I.ok.hd hc) st.2.1 st.2.2 (by simp; omega) hE⟩
    exact wpAny_pyNext_enum_endD D he ⟨rfl, hit, p⟩ fun h' eb => ⟨rfl, I.turned (t' := s.toks) (fun b o hb q => eb b o hb q) f0 f1 f3 f4 f5⟩
  self := fun A i s Q E st h => let ⟨⟨_, he⟩, _⟩ := st; wpAny_pyIter_enum he h
def iEnumT (K : PySem.W.Frag) (ta : TA) : TI := fun σ H R => ta σ H fun vs H1 => ∃ a xs, vs = [.ref a] ∧ SqT K H1 a xs ∧ R (IteT K a) H1
theorem pi_enumT {X : Cx} {e : Expr} {ta : TA} {p pos tpos : Pos} {elts : List Expr} {kk : Nat} (hg : Gl X "enumerate") (hm : X.mg "enumerate" = none) (ha : PA X [e] ta) (hs : starEach [e] X.env = [(false, eval e X.env)] := by rfl) :
    PI X (.Tuple elts kk tpos) (.Call (.Name "enumerate" p) [e] [] pos) (iEnumT X.K ta) := by
  refine ⟨fun pins s σ H R I h => ?_⟩
  refine Call_ (ld_blt I hg hm boot_enumerate (PyProof.Rows.callWith_type1 (thn (ha.run pos pins s σ H _ I h) fun us s1 ⟨vs, H1, I1, r1, q1⟩ => ?_) hs rfl))
  obtain ⟨a, xs, ex, hq, q⟩ := q1
  subst ex
  cases r1 with
  | cons r rr =>
    cases rr
    cases r
    obtain ⟨its, rv, p', hz⟩ := I1.tuple hq
    have hal : a < s1.heap.objs.size := by
      obtain ⟨_, q, _⟩ := p'
      exact Heap.lt_size q
    refine enum_call1 (begins_tuple a its.toArray) p' fun h' he hit hk => wpAny_pyIter_enum he ?_
    have I2 : Inv X pins σ H1 { s1 with heap := h' } := I1.kept (t' := s1.toks) hk
    refine ⟨s1.heap.objs.size + 1, [s1.heap.objs.size + 1, s1.heap.objs.size], _, _, H1, rfl, I2, turn_enumT a (s1.heap.objs.size + 1) s1.heap.objs.size, ⟨⟨.none, he⟩, ⟨_, hit, rfl, rfl⟩, Nat.succ_ne_self _, Nat.ne_of_gt (Nat.lt_succ_of_lt hal), Nat.ne_of_lt hal⟩, fun b hb => ?_, q⟩
    have e' : b = s1.heap.objs.size + 1 ∨ b = s1.heap.objs.size := by simpa using hb
    have hle : s1.heap.objs.size ≤ b := by
      rcases e' with z | z
      · rw [z]; exact Nat.le_add_right _ _
      · rw [z]; exact Nat.le_refl _
    exact I1.fpOk hle (I1.hok.fresh hle)
section
variable {K : PySem.W.Frag} {g : TG} {ts : TA} {tb : TS} {D : Ends} {σ : L2.St} {H : Hp}
def ForET (K : PySem.W.Frag) (g : TG) (tb : TS) (D : Ends) (σ : L2.St) : List V → Hp → Prop := fun us H1 => ∃ a xs, us = [.ref a] ∧ SqT K H1 a xs ∧ Turns (IteT K a) g tb D σ H1
theorem r_forET (h : ts σ H (ForET K g tb D σ)) : tFor (iEnumT K ts) g tb D σ H := by
  refine cast ?_ h
  rfl
theorem r_ForET {a : Addr} {xs : List V} (s : SqT K H a xs) (R : Nat → L2.St → Hp → Prop) (h0 : R 0 σ H) (hl : ∀ i σ H, R i σ H → SqT K H a xs)
    (hs : ∀ (i : Nat) x σ H T, xs[i]? = some x → R i σ H → H T = none → g (.ref T) σ (upd H T (.tup [.int (i : Nat), x])) fun σ2 H2 => tb { D with nx := R (i + 1), ct := R (i + 1), bk := D.nx } σ2 H2)
    (hd : ∀ σ H, R xs.length σ H → D.nx σ H) : ForET K g tb D σ [.ref a] H := by
  refine ⟨a, xs, rfl, s, fun i m σ H => i + m = xs.length ∧ R i σ H, ⟨xs.length, by omega, h0⟩, fun i m σ H ⟨e, r⟩ => ?_⟩
  have sl := hl i σ H r
  by_cases hi : i < xs.length
  · refine .inr ⟨⟨xs, xs[i], sl, List.getElem?_eq_getElem hi⟩, R (i + 1), fun σ' H' r' => ⟨m - 1, by omega, by omega, r'⟩, fun v H' hy => ?_⟩
    obtain ⟨T, x, rfl, hT, rfl, hx⟩ := hy
    exact hs i x σ H T (hx xs sl) r hT
  · refine .inl ⟨⟨xs, sl, by omega⟩, hd σ H ?_⟩
    have e2 : i = xs.length := by omega
    rw [← e2]
    exact r
end
end Aw
namespace Aw
open PySem PySem.Spec PyProof.Rows L2
mutual
/-- all statements, in the order of their places -/
def Sm.al : Sm → List Sm
  | .pl p => [.pl p]
  | .ifs t y z => .ifs t y z :: (Sm.als y ++ Sm.als z)
  | .rep k b => .rep k b :: Sm.als b
def Sm.als : List Sm → List Sm
  | [] => []
  | s :: r => Sm.al s ++ Sm.als r
end
mutual
theorem Sm.al_len : ∀ s : Sm, (Sm.al s).length = s.size
  | .pl p => by rw [Sm.al, Sm.size]; rfl
  | .ifs t y z => by rw [Sm.al, Sm.size, List.length_cons, List.length_append, Sm.als_len y, Sm.als_len z]; omega
  | .rep k b => by rw [Sm.al, Sm.size, List.length_cons, Sm.als_len b]; omega
theorem Sm.als_len : ∀ b : List Sm, (Sm.als b).length = Sm.sizes b
  | [] => rfl
  | s :: r => by rw [Sm.als, Sm.sizes, List.length_append, Sm.al_len s, Sm.als_len r]
end
theorem Sm.als_app : ∀ a b : List Sm, Sm.als (a ++ b) = Sm.als a ++ Sm.als b
  | [], b => by rw [List.nil_append, Sm.als, List.nil_append]
  | s :: r, b => by rw [List.cons_append, Sm.als, Sm.als, Sm.als_app r b, List.append_assoc]
theorem Sm.al_parts (s : Sm) : Sm.al s = s :: (s.parts.map Sm.als).flatten := by
  cases s with
  | pl p => rw [Sm.al, Sm.parts]; rfl
  | ifs t y z => rw [Sm.al, Sm.parts]; simp
  | rep k b => rw [Sm.al, Sm.parts]; simp
theorem Sm.als_take_snoc {b : List Sm} {i : Nat} {s : Sm} (h : b[i]? = some s) : Sm.als (b.take (i + 1)) = Sm.als (b.take i) ++ Sm.al s := by
  rw [List.take_add_one, h, Sm.als_app]
  show _ ++ Sm.als [s] = _
  rw [Sm.als, Sm.als, List.append_nil]
theorem Sm.parts_sizes {s : Sm} {b : List Sm} (h : b ∈ s.parts) : Sm.sizes b < s.size := by
  cases s with
  | pl p => cases h
  | ifs t y z =>
    rw [Sm.size]
    rcases List.mem_cons.mp h with rfl | h
    · omega
    · rw [List.mem_singleton.mp h]
      omega
  | rep k c =>
    rw [List.mem_singleton.mp h, Sm.size]
    omega
mutual
/-- others in the place of one: in a statement's blocks, in a block -/
def Sm.putS : Sm → Nat → List PyData → PyData
  | .pl p, _, _ => p.d
  | .ifs t y z, i, so => if i < Sm.sizes y then .tuple [.str "if", t.d, .tuple (Sm.putB y i so), .tuple (Sm.ds z)] else .tuple [.str "if", t.d, .tuple (Sm.ds y), .tuple (Sm.putB z (i - Sm.sizes y) so)]
  | .rep k b, i, so => .tuple [.str "repeat", .int k, .tuple (Sm.putB b i so)]
def Sm.putB : List Sm → Nat → List PyData → List PyData
  | [], _, _ => []
  | s :: r, i, so => if i = 0 then so ++ Sm.ds r else if i < s.size then Sm.putS s (i - 1) so :: Sm.ds r else s.d :: Sm.putB r (i - s.size) so
end
theorem putB_app : ∀ (a : List Sm) (b : List Sm) (i : Nat) (so : List PyData), Sm.sizes a ≤ i → Sm.putB (a ++ b) i so = Sm.ds a ++ Sm.putB b (i - Sm.sizes a) so
  | [], b, i, so, _ => by simp [Sm.sizes, Sm.ds]
  | s :: r, b, i, so, h => by
    rw [Sm.sizes] at h
    have hp := Sm.size_pos s
    rw [List.cons_append, Sm.putB, if_neg (by omega), if_neg (by omega), putB_app r b _ so (by omega), Sm.ds, Sm.sizes, List.cons_append]
    congr 3
    omega
theorem Sm.split_at {b : List Sm} {j : Nat} {s : Sm} (h : b[j]? = some s) : b = b.take j ++ s :: b.drop (j + 1) := by
  obtain ⟨hi, e⟩ := List.getElem?_eq_some_iff.mp h
  rw [← e, ← List.drop_eq_getElem_cons hi, List.take_append_drop]
theorem putB_at {b : List Sm} {j i : Nat} {s : Sm} (so : List PyData) (h : b[j]? = some s) (e : Sm.sizes (b.take j) = i) : Sm.putB b i so = Sm.ds (b.take j) ++ (so ++ Sm.ds (b.drop (j + 1))) := by
  conv => lhs; rw [Sm.split_at h]
  rw [putB_app _ _ _ _ (Nat.le_of_eq e), e, Nat.sub_self, Sm.putB, if_pos rfl]
theorem putB_in {b : List Sm} {j i : Nat} {s : Sm} (so : List PyData) (h : b[j]? = some s) (e : Sm.sizes (b.take j) < i) (e2 : i < Sm.sizes (b.take j) + s.size) :
    Sm.putB b i so = Sm.ds (b.take j) ++ (Sm.putS s (i - Sm.sizes (b.take j) - 1) so :: Sm.ds (b.drop (j + 1))) := by
  conv => lhs; rw [Sm.split_at h]
  rw [putB_app _ _ _ _ (Nat.le_of_lt e), Sm.putB, if_neg (by omega), if_pos (by omega)]
theorem Sm.sizes_take {b : List Sm} {j : Nat} {s : Sm} (h : b[j]? = some s) : Sm.sizes (b.take (j + 1)) = Sm.sizes (b.take j) + s.size := by
  rw [List.take_add_one, h, Sm.sizes_app]
  show _ + Sm.sizes [s] = _
  rw [Sm.sizes, Sm.sizes, Nat.add_zero]
theorem Sm.cut_to (b : List Sm) {j : Nat} (h : j ≤ b.length) : cutD (Sm.ds b) none (some (j : Int)) = Sm.ds (b.take j) := by
  rw [cutD_to _ j (by rw [Sm.ds_map, List.length_map]; exact h), Sm.ds_map, Sm.ds_map, List.map_take]
theorem Sm.cut_from (b : List Sm) {j : Nat} {i : Int} (h : j ≤ b.length) (e : i = (j : Int)) : cutD (Sm.ds b) (some i) none = Sm.ds (b.drop j) := by
  subst e
  rw [cutD_from _ j (by rw [Sm.ds_map, List.length_map]; exact h), Sm.ds_map, Sm.ds_map, List.map_drop]
/-- the held places behind an edit -/
def pinsL (fx : List Int) (p g c : Int) : List Int := (fx.filter fun h => decide (h < p)) ++ ((fx.filter fun h => decide (p + g ≤ h)).map fun h => h + c - g)
def spAllIn (K : PySem.W.Frag) (n : Nat) : Sp := fun vs H Q _ => ∃ (v : V) (b : List Sm), vs = [v] ∧ Dw [] K H v (.tuple (Sm.ds b)) ∧ VdB n b ∧ Sm.sizes b < 1000 ∧
  ∀ (H' : Hp) (r : V), Kp [] H H' → Dw [] K H' r (.tuple (Sm.ds (Sm.als b))) → Q r H'
def spPlacedAt (K : PySem.W.Frag) (C : Addr) : Sp := fun vs H Q E => ∃ (v u : V) (b : List Sm) (d : PyData), vs = [v, u] ∧ Dw [] K H v (.tuple (Sm.ds b)) ∧ VdB 4 b ∧ Sm.sizes b < 1000 ∧ Dw [] K H u d ∧
  (∀ (i : Nat) (s : Sm), d = .int (i : Nat) → (Sm.als b)[i]? = some s → ∀ (H' : Hp) (r : V), Kp [] H H' → Dw [] K H' r s.d → Q r H') ∧
  (isWhole 0 (Sm.sizes b - 1) d = false → Lv H E C "place" u)
def spPutB (K : PySem.W.Frag) (n : Nat) : Sp := fun vs H Q _ => ∃ (v u : V) (b : List Sm) (i : Nat) (so : List PyData), vs = [v, .int (i : Nat), u] ∧ Dw [] K H v (.tuple (Sm.ds b)) ∧ VdB n b ∧ Sm.sizes b < 1000 ∧ i < Sm.sizes b ∧ Dw [] K H u (.tuple so) ∧ so.length ≤ 1000 ∧
  ∀ (H' : Hp) (r : V), Kp [] H H' → Dw [] K H' r (.tuple (Sm.putB b i so)) → Q r H'
def spPutS (K : PySem.W.Frag) (n : Nat) : Sp := fun vs H Q _ => ∃ (v u : V) (s : Sm) (i : Nat) (so : List PyData), vs = [v, .int (i : Nat), u] ∧ Dw [] K H v s.d ∧ Sm.vd n s ∧ s.size < 1000 ∧ i + 1 < s.size ∧ Dw [] K H u (.tuple so) ∧ so.length ≤ 1000 ∧
  ∀ (H' : Hp) (r : V), Kp [] H H' → Dw [] K H' r (Sm.putS s i so) → Q r H'
def spMoved (K : PySem.W.Frag) : Sp := fun vs H Q _ => ∃ (a : Addr) (fx : List Int) (p g c : Int), vs = [.ref a, .int p, .int g, .int c] ∧ SqT K H a (fx.map V.int) ∧ fx.length ≤ 1000 ∧ 
  ∀ (H' : Hp) (r : Addr), Kp [] H H' → SqT K H' r ((pinsL fx p g c).map V.int) → Q (.ref r) H'
end Aw
namespace Aw
open PySem PySem.Spec PyProof.Rows L2
/-- a program -/
structure VP (b : List Sm) : Prop where
  vd : ∀ s ∈ b, Sm.vd 3 s
  size : Sm.sizes b ≤ 24
  ok : perr (.tuple (Sm.ds b)) = .none
theorem errD_ne {x : Str} : errD x ≠ .none := by
  intro h
  cases h
theorem VP.of {ds : List PyData} (h : perr (.tuple ds) = .none) : ∃ b, ds = Sm.ds b ∧ VP b := by
  have h0 := h
  rw [perr] at h
  cases ho : ordErr ds with
  | some x =>
    obtain ⟨p, w⟩ := x
    rw [ho] at h
    cases h
  | none =>
    rw [ho] at h
    obtain ⟨e1, hvd⟩ := treeOf_spec ho
    have h1 : lim (treeOf ds) = .none := h
    refine ⟨treeOf ds, e1, hvd, ?_, by rw [← e1]; exact h0⟩
    unfold lim at h1
    split at h1
    · exact absurd h1 errD_ne
    · omega
theorem Ex.vd_dsz : ∀ {n : Nat} {e : Ex}, e.vd n → dsz e.d ≤ 20 * 3 ^ n
  | 0, _, h => h.elim
  | n + 1, .int i, h => by
    have : 1 ≤ 3 ^ (n + 1) := Nat.one_le_pow _ _ (by decide)
    rw [Ex.d, dsz]
    omega
  | n + 1, .name x, h => by
    have : 1 ≤ 3 ^ (n + 1) := Nat.one_le_pow _ _ (by decide)
    have q : isNameS x = true := h
    unfold isNameS at q
    simp only [Bool.and_eq_true, decide_eq_true_eq] at q
    have := q.1.1.1.2
    rw [Ex.d, dsz]
    omega
  | n + 1, .bin o a b, h => by
    obtain ⟨hb, h⟩ := h
    have h3 : 3 ^ (n + 1) = 3 * 3 ^ n := by rw [Nat.pow_succ, Nat.mul_comm]
    have h1 : 1 ≤ 3 ^ n := Nat.one_le_pow _ _ (by decide)
    have qb := Ex.vd_dsz hb
    have e : dsz (Ex.bin o a b).d = 1 + (1 + o.length + (dsz a.d + (dsz b.d + 0))) := by rw [Ex.d, dsz, dszs, dszs, dszs, dszs, dsz]
    rw [e]
    rcases h with ⟨rfl, i, rfl, _⟩ | ⟨ho, ha⟩
    · have l : ("times" : Str).length = 5 := by decide +kernel
      have q : dsz (Ex.int i).d = 1 := by rw [Ex.d, dsz]
      rw [q, l]
      omega
    · have qa := Ex.vd_dsz ha
      have l : o.length ≤ 5 := by
        rcases ho with rfl | rfl <;> decide +kernel
      omega
theorem Ts.vd_dsz : ∀ {n : Nat} {t : Ts}, t.vd n → dsz t.d ≤ 1200 + 10 * n
  | 0, .not t, h => h.elim
  | n + 1, .not t, h => by
    have h : t.vd n := h
    have q := Ts.vd_dsz h
    have l : ("not" : Str).length = 3 := by decide +kernel
    have e : dsz (Ts.not t).d = 1 + (1 + ("not" : Str).length + (dsz t.d + 0)) := by rw [Ts.d, dsz, dszs, dszs, dszs, dsz]
    rw [e, l]
    omega
  | n, .given x, h => by
    have q : isNameS x = true := by cases n <;> exact h
    unfold isNameS at q
    simp only [Bool.and_eq_true, decide_eq_true_eq] at q
    have := q.1.1.1.2
    have l : ("given" : Str).length = 5 := by decide +kernel
    have e : dsz (Ts.given x).d = 1 + (1 + ("given" : Str).length + ((1 + x.length) + 0)) := by rw [Ts.d, dsz, dszs, dszs, dszs, dsz, dsz]
    rw [e, l]
    omega
  | n, .rest a b r, h => by
    have q : a.vd 3 := by cases n <;> exact h.1
    have q2 := Ex.vd_dsz q
    have l : ("rest" : Str).length = 4 := by decide +kernel
    have e : dsz (Ts.rest a b r).d = 1 + (1 + ("rest" : Str).length + (dsz a.d + (1 + (1 + 0)))) := by rw [Ts.d, dsz, dszs, dszs, dszs, dszs, dszs, dsz, dsz, dsz]
    rw [e, l]
    omega
  | n, .less a b, h => by
    have q : a.vd 3 ∧ b.vd 3 := by cases n <;> exact h
    have q2 := Ex.vd_dsz q.1
    have q3 := Ex.vd_dsz q.2
    have l : ("less" : Str).length = 4 := by decide +kernel
    have e : dsz (Ts.less a b).d = 1 + (1 + ("less" : Str).length + (dsz a.d + (dsz b.d + 0))) := by rw [Ts.d, dsz, dszs, dszs, dszs, dszs, dsz]
    rw [e, l]
    omega
theorem Pl.vd_dsz {p : Pl} (h : p.vd) : dsz p.d ≤ 600 := by
  have nm : ∀ x : Str, isNameS x = true → x.length ≤ 8 := fun x q => by
    unfold isNameS at q
    simp only [Bool.and_eq_true, decide_eq_true_eq] at q
    exact q.1.1.1.2
  have wd : ∀ x : Str, isWordS x = true → x.length ≤ 8 := fun x q => by
    unfold isWordS at q
    simp only [Bool.and_eq_true, decide_eq_true_eq] at q
    exact q.1.1.2
  cases p with
  | set x e =>
    have q := nm x h.1
    have q2 := Ex.vd_dsz h.2
    have l : ("set" : Str).length = 3 := by decide +kernel
    have e : dsz (Pl.set x e).d = 1 + (1 + ("set" : Str).length + (1 + x.length + (dsz e.d + 0))) := by rw [Pl.d, dsz, dszs, dszs, dszs, dszs, dsz, dsz]
    rw [e, l]
    omega
  | unset x =>
    have q := nm x h
    have l : ("unset" : Str).length = 5 := by decide +kernel
    have e : dsz (Pl.unset x).d = 1 + (1 + ("unset" : Str).length + (1 + x.length + 0)) := by rw [Pl.d, dsz, dszs, dszs, dszs, dsz, dsz]
    rw [e, l]
    omega
  | tell e =>
    have q2 := Ex.vd_dsz (n := 3) h
    have l : ("tell" : Str).length = 4 := by decide +kernel
    have e : dsz (Pl.tell e).d = 1 + (1 + ("tell" : Str).length + (dsz e.d + 0)) := by rw [Pl.d, dsz, dszs, dszs, dszs, dsz]
    rw [e, l]
    omega
  | say x =>
    have q := wd x h
    have l : ("say" : Str).length = 3 := by decide +kernel
    have e : dsz (Pl.say x).d = 1 + (1 + ("say" : Str).length + (1 + x.length + 0)) := by rw [Pl.d, dsz, dszs, dszs, dszs, dsz, dsz]
    rw [e, l]
    omega
  | stop x =>
    have q := wd x h
    have l : ("stop" : Str).length = 4 := by decide +kernel
    have e : dsz (Pl.stop x).d = 1 + (1 + ("stop" : Str).length + (1 + x.length + 0)) := by rw [Pl.d, dsz, dszs, dszs, dszs, dsz, dsz]
    rw [e, l]
    omega
theorem VdB.at {n : Nat} {b : List Sm} (h : VdB n b) : ∀ s ∈ b, ∃ m, Sm.vd m s := by
  intro s hs
  cases n with
  | zero =>
    rw [show b = [] from h] at hs
    cases hs
  | succ n => exact ⟨n, h s hs⟩
mutual
theorem Sm.vd_dsz : ∀ (s : Sm), (∃ n, Sm.vd n s) → dsz s.d ≤ 1300 * s.size
  | .pl p, ⟨n, h⟩ => by
    have q : p.vd := by cases n <;> exact h
    have := Pl.vd_dsz q
    rw [Sm.d, Sm.size]
    omega
  | .ifs t y z, ⟨n, h⟩ => by
    have ht : t.vd 2 := by cases n <;> exact h.1
    have hp := h.parts
    have hy := Sm.vd_dszs y (hp y (List.mem_cons_self ..)).at
    have hz := Sm.vd_dszs z (hp z (List.mem_cons_of_mem _ (List.mem_cons_self ..))).at
    have q := Ts.vd_dsz ht
    have l : ("if" : Str).length = 2 := by decide +kernel
    have e : dsz (Sm.ifs t y z).d = 1 + (1 + ("if" : Str).length + (dsz t.d + ((1 + dszs (Sm.ds y)) + ((1 + dszs (Sm.ds z)) + 0)))) := by rw [Sm.d, dsz, dszs, dszs, dszs, dszs, dszs, dsz, dsz, dsz]
    rw [e, l, Sm.size]
    omega
  | .rep k b, ⟨n, h⟩ => by
    have hp := h.parts
    have hy := Sm.vd_dszs b (hp b (List.mem_cons_self ..)).at
    have l : ("repeat" : Str).length = 6 := by decide +kernel
    have e : dsz (Sm.rep k b).d = 1 + (1 + ("repeat" : Str).length + (1 + ((1 + dszs (Sm.ds b)) + 0))) := by rw [Sm.d, dsz, dszs, dszs, dszs, dszs, dsz, dsz, dsz]
    rw [e, l, Sm.size]
    omega
theorem Sm.vd_dszs : ∀ (b : List Sm), (∀ s ∈ b, ∃ n, Sm.vd n s) → dszs (Sm.ds b) ≤ 1300 * Sm.sizes b
  | [], _ => by rw [Sm.ds, dszs]; omega
  | s :: r, h => by
    have h1 := Sm.vd_dsz s (h s (List.mem_cons_self ..))
    have h2 := Sm.vd_dszs r fun x hx => h x (List.mem_cons_of_mem _ hx)
    rw [Sm.ds, dszs, Sm.sizes]
    omega
end
theorem VP.b4 {b : List Sm} (h : VP b) : VdB 4 b := h.vd
theorem VP.ex {b : List Sm} (h : VP b) : ∀ s ∈ b, ∃ n, Sm.vd n s := fun s hs => ⟨3, h.vd s hs⟩
theorem VP.dsz {b : List Sm} (h : VP b) : dszs (Sm.ds b) ≤ 40000 := by
  have q := Sm.vd_dszs b h.ex
  have := h.size
  omega
mutual
theorem putS_dsz : ∀ (s : Sm) (i : Nat) (so : List PyData), dsz (Sm.putS s i so) ≤ dsz s.d + dszs so
  | .pl p, i, so => by rw [Sm.putS, Sm.d]; omega
  | .ifs t y z, i, so => by
    have h1 := putB_dsz y i so
    have h2 := putB_dsz z (i - Sm.sizes y) so
    rw [Sm.putS, Sm.d]
    split
    · simp only [Aw.dsz, dszs]
      omega
    · simp only [Aw.dsz, dszs]
      omega
  | .rep k b, i, so => by
    have h1 := putB_dsz b i so
    rw [Sm.putS, Sm.d]
    simp only [Aw.dsz, dszs]
    omega
theorem putB_dsz : ∀ (b : List Sm) (i : Nat) (so : List PyData), dszs (Sm.putB b i so) ≤ dszs (Sm.ds b) + dszs so
  | [], i, so => by rw [Sm.putB, Sm.ds, dszs]; omega
  | s :: r, i, so => by
    have h1 := putS_dsz s (i - 1) so
    have h2 := putB_dsz r (i - s.size) so
    rw [Sm.putB, Sm.ds, dszs]
    split
    · rw [dszs_app]
      omega
    · split
      · rw [dszs]
        omega
      · rw [dszs]
        omega
end
mutual
/-- what is put into a program that stays one is a statement -/
theorem putS_stmt : ∀ (s : Sm) (i : Nat) (d : PyData) (t : Sm), i + 1 < s.size → Sm.putS s i [d] = t.d → ∃ u : Sm, d = u.d ∧ u ∈ Sm.al t
  | .pl p, i, d, t, h, _ => by
    rw [Sm.size] at h
    omega
  | .ifs c y z, i, d, t, h, e => by
    rw [Sm.size] at h
    rw [Sm.putS] at e
    cases t with
    | pl p =>
      obtain ⟨u, r, e2, n1, n2⟩ := Pl.hd p
      rw [Sm.d, e2] at e
      split at e
      · injection e with e
        injection e with e _
        injection e with e
        exact absurd e.symm n1
      · injection e with e
        injection e with e _
        injection e with e
        exact absurd e.symm n1
    | rep k b =>
      rw [Sm.d] at e
      split at e
      · injection e with e
        injection e with e _
        injection e with e
        exact absurd e (by decide +kernel)
      · injection e with e
        injection e with e _
        injection e with e
        exact absurd e (by decide +kernel)
    | ifs c2 y2 z2 =>
      rw [Sm.d] at e
      rw [Sm.al]
      split at e
      · rename_i hlt
        injection e with e
        injection e with _ e
        injection e with _ e
        injection e with e _
        injection e with e
        obtain ⟨u, h1, h2⟩ := putB_stmt y i d y2 hlt e
        exact ⟨u, h1, List.mem_cons_of_mem _ (List.mem_append_left _ h2)⟩
      · injection e with e
        injection e with _ e
        injection e with _ e
        injection e with _ e
        injection e with e _
        injection e with e
        obtain ⟨u, h1, h2⟩ := putB_stmt z (i - Sm.sizes y) d z2 (by omega) e
        exact ⟨u, h1, List.mem_cons_of_mem _ (List.mem_append_right _ h2)⟩
  | .rep k b, i, d, t, h, e => by
    rw [Sm.size] at h
    rw [Sm.putS] at e
    cases t with
    | pl p =>
      obtain ⟨u, r, e2, n1, n2⟩ := Pl.hd p
      rw [Sm.d, e2] at e
      injection e with e
      injection e with e _
      injection e with e
      exact absurd e.symm n2
    | ifs c2 y2 z2 =>
      rw [Sm.d] at e
      injection e with e
      injection e with e _
      injection e with e
      exact absurd e (by decide +kernel)
    | rep k2 b2 =>
      rw [Sm.d] at e
      rw [Sm.al]
      injection e with e
      injection e with _ e
      injection e with _ e
      injection e with e _
      injection e with e
      obtain ⟨u, h1, h2⟩ := putB_stmt b i d b2 (by omega) e
      exact ⟨u, h1, List.mem_cons_of_mem _ h2⟩
theorem putB_stmt : ∀ (b : List Sm) (i : Nat) (d : PyData) (c : List Sm), i < Sm.sizes b → Sm.putB b i [d] = Sm.ds c → ∃ u : Sm, d = u.d ∧ u ∈ Sm.als c
  | [], i, d, c, h, _ => by
    rw [Sm.sizes] at h
    omega
  | s :: r, i, d, c, h, e => by
    rw [Sm.sizes] at h
    rw [Sm.putB] at e
    cases c with
    | nil =>
      rw [Sm.ds] at e
      split at e
      · cases e
      · split at e <;> cases e
    | cons t c =>
      rw [Sm.ds] at e
      rw [Sm.als]
      split at e
      · obtain ⟨e1, _⟩ := List.cons.inj e
        exact ⟨t, e1, List.mem_append_left _ (by cases t <;> (rw [Sm.al]; exact List.mem_cons_self ..))⟩
      · split at e
        · obtain ⟨e1, _⟩ := List.cons.inj e
          obtain ⟨u, h1, h2⟩ := putS_stmt s (i - 1) d t (by omega) e1
          exact ⟨u, h1, List.mem_append_left _ h2⟩
        · obtain ⟨_, e2⟩ := List.cons.inj e
          obtain ⟨u, h1, h2⟩ := putB_stmt r (i - s.size) d c (by omega) e2
          exact ⟨u, h1, List.mem_append_right _ h2⟩
end
end Aw
namespace Aw
open PySem PySem.Spec PyProof.Rows L2
open Classical in
noncomputable def smOf (d : PyData) : Sm := if h : ∃ s : Sm, d = s.d then h.choose else .pl (.unset "")
theorem smOf_d (s : Sm) : smOf s.d = s := by
  unfold smOf
  have h : ∃ t : Sm, s.d = t.d := ⟨s, rfl⟩
  rw [dif_pos h]
  exact (Sm.d_inj h.choose_spec).symm
/-- an edit, its data -/
inductive EdD
  | add (d : PyData)
  | drop (p : PyData)
  | change (p d : PyData)
  | hold (p : PyData)
  | free (p : PyData)
/-- what it leads to -/
inductive EdR
  | ok (ds : List PyData) (fx : List Int)
  | noPlace
  | noReader
  | isHeld
  | notHeld
  | bad (e : PyData)
open Classical in
noncomputable def needD (ds : List PyData) (fx : List Int) : EdR := if perr (.tuple ds) = .none then .ok ds fx else .bad (perr (.tuple ds))
theorem needD_ok {ds : List PyData} {fx : List Int} (h : perr (.tuple ds) = .none) : needD ds fx = .ok ds fx := if_pos h
theorem needD_bad {ds : List PyData} {fx : List Int} (h : perr (.tuple ds) ≠ .none) : needD ds fx = .bad (perr (.tuple ds)) := if_neg h
def plc : PyData → Nat
  | .int i => i.toNat
  | _ => 0
def stAt (b : List Sm) (i : Nat) : Sm := (Sm.als b).getD i (.pl (.unset ""))
def insS (fx : List Int) (i : Int) : List Int := (fx.filter fun x => decide (x < i)) ++ i :: fx.filter fun x => decide (i < x)
noncomputable def dueE (b : List Sm) (fx : List Int) : EdD → EdR
  | .add d => needD (Sm.ds b ++ [d]) fx
  | .drop p => if isWhole 0 ((Sm.sizes b : Int) - 1) p = true then needD (Sm.putB b (plc p) []) (pinsL fx (plc p) (stAt b (plc p)).size 0) else .noPlace
  | .change p d => if isWhole 0 ((Sm.sizes b : Int) - 1) p = true then needD (Sm.putB b (plc p) [d]) (pinsL fx (plc p) (stAt b (plc p)).size (smOf d).size) else .noPlace
  | .hold p => if isWhole 0 ((Sm.sizes b : Int) - 1) p = true then
      (if RDS.contains (headS (stAt b (plc p)).d) = true then (if (plc p : Int) ∈ fx then .isHeld else .ok (Sm.ds b) (insS fx (plc p))) else .noReader) else .noPlace
  | .free p => if isWhole 0 ((Sm.sizes b : Int) - 1) p = true then (if (plc p : Int) ∈ fx then .ok (Sm.ds b) (fx.filter fun x => decide (x ≠ (plc p : Int))) else .notHeld) else .noPlace
/-- the classes of the errors -/
structure ErA where
  N : Addr
  R : Addr
  I : Addr
  F : Addr
  B : Addr
/-- a pair of a program and a fix -/
def PairK (K : PySem.W.Frag) (H : Hp) (Q : VK) (ds : List PyData) (fx : List Int) : Prop := ∀ (H' : Hp) (p a : Addr) (w : V), Kp [] H H' → SqT K H' p [w, .ref a] → Dw [] K H' w (.tuple ds) → SqT K H' a (fx.map V.int) → Q (.ref p) H'
/-- an error with data leaves -/
def LvD (K : PySem.W.Frag) (H : Hp) (E : XK) (C : Addr) (f : Str) (d : PyData) : Prop := ∀ (H' : Hp) (e : Addr) (z : V), Kp [] H H' → H e = none → H' e = some (.xd [(f, z)]) → Dt K H' z d → E (.ref C) (some e) H'
def EdK (K : PySem.W.Frag) (A : ErA) (H : Hp) (Q : VK) (E : XK) (u : V) : EdR → Prop
  | .ok ds fx => PairK K H Q ds fx
  | .noPlace => Lv H E A.N "place" u
  | .noReader => Lv H E A.R "place" u
  | .isHeld => Lv H E A.I "place" u
  | .notHeld => Lv H E A.F "place" u
  | .bad e => LvD K H E A.B "error" e
/-- a program with a fix, in the heap -/
structure BSt (K : PySem.W.Frag) (H : Hp) (v : V) (a : Addr) (b : List Sm) (fx : List Int) : Prop where
  vp : VP b
  dw : Dw [] K H v (.tuple (Sm.ds b))
  sq : SqT K H a (fx.map V.int)
  lt : ∀ x ∈ fx, 0 ≤ x ∧ x < (Sm.sizes b : Int)
  asc : fx.Pairwise (· < ·)
  len : fx.length ≤ 24
section
variable {K : PySem.W.Frag} {A : ErA} {H H1 : Hp} {Q : VK} {E : XK} {u v : V} {a C : Addr} {b : List Sm} {fx : List Int} {f : Str} {d : PyData} {ds : List PyData} {r : EdR}
theorem BSt.kp (h : BSt K H v a b fx) (k : Kp [] H H1) : BSt K H1 v a b fx := ⟨h.vp, h.dw.kp0 k, sqT_kp k h.sq, h.lt, h.asc, h.len⟩
theorem Lv.kp (h : Lv H E C f u) (k : Kp [] H H1) : Lv H1 E C f u := fun H' dd k2 hd e => h H' dd (k.trans k2) (k.freeM Ms.nil hd) e
theorem LvD.kp (h : LvD K H E C f d) (k : Kp [] H H1) : LvD K H1 E C f d := fun H' dd z k2 hd e q => h H' dd z (k.trans k2) (k.freeM Ms.nil hd) e q
theorem PairK.kp (h : PairK K H Q ds fx) (k : Kp [] H H1) : PairK K H1 Q ds fx := fun H' p a w k2 q1 q2 q3 => h H' p a w (k.trans k2) q1 q2 q3
theorem EdK.kp (h : EdK K A H Q E u r) (k : Kp [] H H1) : EdK K A H1 Q E u r := by
  cases r with
  | ok ds fx => exact PairK.kp h k
  | bad e => exact LvD.kp h k
  | _ => exact Lv.kp h k
end
def spAdded (K : PySem.W.Frag) (A : ErA) : Sp := fun vs H Q E => ∃ (v s : V) (a : Addr) (b : List Sm) (fx : List Int) (d : PyData), vs = [v, .ref a, s] ∧ BSt K H v a b fx ∧ Dw [] K H s d ∧ dsz d ≤ 40000 ∧ EdK K A H Q E .non (dueE b fx (.add d))
def spDropped (K : PySem.W.Frag) (A : ErA) : Sp := fun vs H Q E => ∃ (v u : V) (a : Addr) (b : List Sm) (fx : List Int) (p : PyData), vs = [v, .ref a, u] ∧ BSt K H v a b fx ∧ Dw [] K H u p ∧ EdK K A H Q E u (dueE b fx (.drop p))
def spChanged (K : PySem.W.Frag) (A : ErA) : Sp := fun vs H Q E => ∃ (v u s : V) (a : Addr) (b : List Sm) (fx : List Int) (p d : PyData), vs = [v, .ref a, u, s] ∧ BSt K H v a b fx ∧ Dw [] K H u p ∧ Dw [] K H s d ∧ dsz d ≤ 40000 ∧ EdK K A H Q E u (dueE b fx (.change p d))
def spHeld (K : PySem.W.Frag) (A : ErA) : Sp := fun vs H Q E => ∃ (v u : V) (a : Addr) (b : List Sm) (fx : List Int) (p : PyData), vs = [v, .ref a, u] ∧ BSt K H v a b fx ∧ Dw [] K H u p ∧ EdK K A H Q E u (dueE b fx (.hold p))
def spFreed (K : PySem.W.Frag) (A : ErA) : Sp := fun vs H Q E => ∃ (v u : V) (a : Addr) (b : List Sm) (fx : List Int) (p : PyData), vs = [v, .ref a, u] ∧ BSt K H v a b fx ∧ Dw [] K H u p ∧ EdK K A H Q E u (dueE b fx (.free p))
theorem Sm.vd.upB : ∀ (n : Nat) (s : Sm), Sm.vd n s → Sm.vd (n + 1) s
  | 0, .pl p, h => h
  | n + 1, .pl p, h => h
  | 0, .ifs t y z, h => by
    obtain ⟨h1, h2, h3⟩ := h
    subst h2 h3
    exact ⟨h1, fun s hs => (by cases hs), fun s hs => (by cases hs)⟩
  | 0, .rep k b, h => by
    obtain ⟨h1, h2, h3⟩ := h
    subst h3
    exact ⟨h1, h2, fun s hs => (by cases hs)⟩
  | n + 1, .ifs t y z, h => ⟨h.1, fun s hs => Sm.vd.upB n s (h.2.1 s hs), fun s hs => Sm.vd.upB n s (h.2.2 s hs)⟩
  | n + 1, .rep k b, h => ⟨h.1, h.2.1, fun s hs => Sm.vd.upB n s (h.2.2 s hs)⟩
mutual
theorem al_vd : ∀ (s : Sm) (n : Nat), Sm.vd n s → n ≤ 3 → ∀ u ∈ Sm.al s, Sm.vd 3 u
  | .pl p, n, h, hn, u, hu => by
    rw [Sm.al, List.mem_singleton] at hu
    subst hu
    cases n <;> exact h
  | .ifs t y z, n, h, hn, u, hu => by
    rw [Sm.al] at hu
    have hp := h.parts
    rcases List.mem_cons.mp hu with rfl | hu
    · match n, h, hn with
      | 0, h, _ => exact Sm.vd.upB _ _ (Sm.vd.upB _ _ (Sm.vd.upB _ _ h))
      | 1, h, _ => exact Sm.vd.upB _ _ (Sm.vd.upB _ _ h)
      | 2, h, _ => exact Sm.vd.upB _ _ h
      | 3, h, _ => exact h
    · rcases List.mem_append.mp hu with hu | hu
      · exact als_vd y n (hp y (List.mem_cons_self ..)) (by omega) u hu
      · exact als_vd z n (hp z (List.mem_cons_of_mem _ (List.mem_cons_self ..))) (by omega) u hu
  | .rep k b, n, h, hn, u, hu => by
    rw [Sm.al] at hu
    have hp := h.parts
    rcases List.mem_cons.mp hu with rfl | hu
    · match n, h, hn with
      | 0, h, _ => exact Sm.vd.upB _ _ (Sm.vd.upB _ _ (Sm.vd.upB _ _ h))
      | 1, h, _ => exact Sm.vd.upB _ _ (Sm.vd.upB _ _ h)
      | 2, h, _ => exact Sm.vd.upB _ _ h
      | 3, h, _ => exact h
    · exact als_vd b n (hp b (List.mem_cons_self ..)) (by omega) u hu
theorem als_vd : ∀ (b : List Sm) (n : Nat), VdB n b → n ≤ 4 → ∀ u ∈ Sm.als b, Sm.vd 3 u
  | [], n, h, hn, u, hu => by
    rw [Sm.als] at hu
    cases hu
  | s :: r, n, h, hn, u, hu => by
    rw [Sm.als] at hu
    match n, h with
    | 0, h => exact absurd h (List.cons_ne_nil _ _)
    | n + 1, h =>
      rcases List.mem_append.mp hu with hu | hu
      · exact al_vd s n (h s (List.mem_cons_self ..)) (by omega) u hu
      · exact als_vd r (n + 1) (fun x hx => h x (List.mem_cons_of_mem _ hx)) hn u hu
end
mutual
theorem al_size : ∀ (s : Sm), ∀ u ∈ Sm.al s, u.size ≤ s.size
  | .pl p, u, hu => by
    rw [Sm.al, List.mem_singleton] at hu
    rw [hu]
    exact Nat.le_refl _
  | .ifs t y z, u, hu => by
    rw [Sm.al] at hu
    rcases List.mem_cons.mp hu with rfl | hu
    · exact Nat.le_refl _
    · rw [Sm.size]
      rcases List.mem_append.mp hu with hu | hu
      · have := als_size y u hu
        omega
      · have := als_size z u hu
        omega
  | .rep k b, u, hu => by
    rw [Sm.al] at hu
    rcases List.mem_cons.mp hu with rfl | hu
    · exact Nat.le_refl _
    · rw [Sm.size]
      have := als_size b u hu
      omega
theorem als_size : ∀ (b : List Sm), ∀ u ∈ Sm.als b, u.size ≤ Sm.sizes b
  | [], u, hu => by
    rw [Sm.als] at hu
    cases hu
  | s :: r, u, hu => by
    rw [Sm.als] at hu
    rw [Sm.sizes]
    rcases List.mem_append.mp hu with hu | hu
    · have := al_size s u hu
      omega
    · have := als_size r u hu
      omega
end
/-- a place is one -/
theorem place_at {b : List Sm} {d : PyData} (hw : isWhole 0 ((Sm.sizes b : Int) - 1) d = true) : d = .int (plc d : Nat) ∧ plc d < Sm.sizes b ∧ (Sm.als b)[plc d]? = some (stAt b (plc d)) := by
  obtain ⟨i, rfl, i0, i1⟩ := whole_view hw
  have e : plc (.int i) = i.toNat := rfl
  rw [e]
  have h2 : i.toNat < (Sm.als b).length := by rw [Sm.als_len]; omega
  refine ⟨by congr 1; omega, by omega, ?_⟩
  unfold stAt
  rw [List.getD_eq_getElem?_getD, List.getElem?_eq_getElem h2]
  rfl
theorem due_no {b : List Sm} {fx : List Int} {p : PyData} (hw : isWhole 0 ((Sm.sizes b : Int) - 1) p = false) :
    dueE b fx (.drop p) = .noPlace ∧ (∀ d, dueE b fx (.change p d) = .noPlace) ∧ dueE b fx (.hold p) = .noPlace ∧ dueE b fx (.free p) = .noPlace := by
  have n : ¬ isWhole 0 ((Sm.sizes b : Int) - 1) p = true := by rw [hw]; decide
  exact ⟨if_neg n, fun d => if_neg n, if_neg n, if_neg n⟩
theorem due_at {b : List Sm} {fx : List Int} {i : Nat} {st : Sm} (h : (Sm.als b)[i]? = some st) :
    dueE b fx (.drop (.int (i : Nat))) = needD (Sm.putB b i []) (pinsL fx i st.size 0) ∧ (∀ d, dueE b fx (.change (.int (i : Nat)) d) = needD (Sm.putB b i [d]) (pinsL fx i st.size (smOf d).size)) ∧
    dueE b fx (.hold (.int (i : Nat))) = (if RDS.contains (headS st.d) = true then (if (i : Int) ∈ fx then .isHeld else .ok (Sm.ds b) (insS fx i)) else .noReader) ∧
    dueE b fx (.free (.int (i : Nat))) = (if (i : Int) ∈ fx then .ok (Sm.ds b) (fx.filter fun x => decide (x ≠ (i : Int))) else .notHeld) := by
  have hil : i < Sm.sizes b := by
    have := (List.getElem?_eq_some_iff.mp h).1
    rwa [Sm.als_len] at this
  have hw : isWhole 0 ((Sm.sizes b : Int) - 1) (.int (i : Nat)) = true := by
    show (decide (0 ≤ (i : Int)) && decide ((i : Int) ≤ (Sm.sizes b : Int) - 1)) = true
    rw [decide_eq_true (by omega), decide_eq_true (by omega)]
    rfl
  have hpl : plc (.int (i : Nat)) = i := Int.toNat_natCast i
  have hst2 : stAt b (plc (.int (i : Nat))) = st := by
    rw [hpl]
    unfold stAt
    rw [List.getD_eq_getElem?_getD, h]
    rfl
  refine ⟨(if_pos hw).trans ?_, fun d => (if_pos hw).trans ?_, (if_pos hw).trans ?_, (if_pos hw).trans ?_⟩
  · rw [hst2, hpl]
  · rw [hst2, hpl]
  · rw [hst2, hpl]
  · rw [hpl]
theorem sorted_eq : ∀ {l1 l2 : List Int}, l1.Perm l2 → l1.Pairwise (· ≤ ·) → l2.Pairwise (· ≤ ·) → l1 = l2
  | [], l2, h, _, _ => (List.nil_perm.mp h).symm
  | a :: r, [], h, _, _ => absurd h.length_eq (by simp)
  | a :: r, c :: t, h, h1, h2 => by
    rw [List.pairwise_cons] at h1 h2
    have e : a = c := by
      have q1 : a ∈ c :: t := h.mem_iff.mp (List.mem_cons_self ..)
      have q2 : c ∈ a :: r := h.mem_iff.mpr (List.mem_cons_self ..)
      rcases List.mem_cons.mp q1 with q1 | q1
      · exact q1
      · rcases List.mem_cons.mp q2 with q2 | q2
        · exact q2.symm
        · have := h1.1 c q2
          have := h2.1 a q1
          omega
    subst e
    rw [sorted_eq (List.Perm.cons_inv h) h1.2 h2.2]
theorem insS_perm {fx : List Int} {i : Int} (h : i ∉ fx) : (insS fx i).Perm (fx ++ [i]) := by
  unfold insS
  have e : (fx.filter fun x => decide (i < x)) = fx.filter fun x => !decide (x < i) := List.filter_congr fun x hx => by
    have hne : x ≠ i := fun z => h (z ▸ hx)
    by_cases hlt : x < i
    · rw [decide_eq_true hlt, decide_eq_false (by omega)]
      rfl
    · rw [decide_eq_false hlt, decide_eq_true (by omega)]
      rfl
  rw [e]
  refine List.perm_middle.trans ?_
  refine (List.Perm.cons i (List.filter_append_perm (fun x => decide (x < i)) fx)).trans ?_
  exact (List.perm_append_singleton i fx).symm
theorem insS_asc {fx : List Int} {i : Int} (h : fx.Pairwise (· < ·)) : (insS fx i).Pairwise (· < ·) := by
  unfold insS
  rw [List.pairwise_append]
  refine ⟨h.sublist List.filter_sublist, ?_, fun x hx y hy => ?_⟩
  · rw [List.pairwise_cons]
    refine ⟨fun x hx => ?_, h.sublist List.filter_sublist⟩
    have q := (List.mem_filter.mp hx).2
    exact of_decide_eq_true q
  · have q := of_decide_eq_true (List.mem_filter.mp hx).2
    rcases List.mem_cons.mp hy with rfl | hy
    · exact q
    · have q2 := of_decide_eq_true (List.mem_filter.mp hy).2
      omega
theorem insS_sorted {fx ns : List Int} {i : Int} (h : fx.Pairwise (· < ·)) (hi : i ∉ fx) (p : ns.Perm (fx ++ [i])) (s : ns.Pairwise (· ≤ ·)) : ns = insS fx i :=
  sorted_eq (p.trans (insS_perm hi).symm) s ((insS_asc h).imp fun q => Int.le_of_lt q)
theorem r_ninB {K : PySem.W.Frag} {H : Hp} {Q : VK} {a : Addr} {x : V} {xs : List V} (h : SqL K H a xs ∨ SqT K H a xs) (f1 : flatV x = true) (f2 : xs.all flatV = true) (q : Q (.bl (!inV x xs)) H) : rIn K true x (.ref a) H Q := ⟨a, xs, rfl, h, f1, f2, q⟩
theorem r_inB {K : PySem.W.Frag} {H : Hp} {Q : VK} {a : Addr} {x : V} {xs : List V} (h : SqL K H a xs ∨ SqT K H a xs) (f1 : flatV x = true) (f2 : xs.all flatV = true) (q : Q (.bl (inV x xs)) H) : rIn K false x (.ref a) H Q := ⟨a, xs, rfl, h, f1, f2, q⟩
theorem flat_strs (l : List Str) : (l.map V.str).all flatV = true := by
  rw [List.all_eq_true]
  intro v hv
  obtain ⟨_, _, rfl⟩ := List.mem_map.mp hv
  rfl
theorem r_sortedT {K : PySem.W.Frag} {H : Hp} {Q : VK} {a : Addr} {ns : List Int} (h : SqT K H a (ns.map V.int)) (l : ns.length < 64) (q : ∀ (ns' : List Int) (p : Addr), ns'.Perm ns → ns'.Pairwise (· ≤ ·) → H p = none → Q (.ref p) (upd H p (.lst (ns'.map V.int)))) : rSortedT K [.ref a] H Q := ⟨a, ns, rfl, h, l, q⟩
/-- an edit as a value -/
inductive EdV (K : PySem.W.Frag) (H : Hp) : Addr → V → EdD → Prop
  | add {e : Addr} {s : V} {d : PyData} (h : SqT K H e [.str "add", s]) (hs : Dw [] K H s d) (hz : dsz d ≤ 40000) : EdV K H e .non (.add d)
  | drop {e : Addr} {u : V} {p : PyData} (h : SqT K H e [.str "drop", u]) (hu : Dw [] K H u p) : EdV K H e u (.drop p)
  | change {e : Addr} {u s : V} {p d : PyData} (h : SqT K H e [.str "change", u, s]) (hu : Dw [] K H u p) (hs : Dw [] K H s d) (hz : dsz d ≤ 40000) : EdV K H e u (.change p d)
  | hold {e : Addr} {u : V} {p : PyData} (h : SqT K H e [.str "hold", u]) (hu : Dw [] K H u p) : EdV K H e u (.hold p)
  | free {e : Addr} {u : V} {p : PyData} (h : SqT K H e [.str "free", u]) (hu : Dw [] K H u p) : EdV K H e u (.free p)
theorem EdV.kp {K : PySem.W.Frag} {H H1 : Hp} {e : Addr} {u : V} {x : EdD} (h : EdV K H e u x) (k : Kp [] H H1) : EdV K H1 e u x := by
  cases h with
  | add h hs hz => exact .add (sqT_kp k h) (hs.kp0 k) hz
  | drop h hu => exact .drop (sqT_kp k h) (hu.kp0 k)
  | change h hu hs hz => exact .change (sqT_kp k h) (hu.kp0 k) (hs.kp0 k) hz
  | hold h hu => exact .hold (sqT_kp k h) (hu.kp0 k)
  | free h hu => exact .free (sqT_kp k h) (hu.kp0 k)
def spEdited (K : PySem.W.Frag) (A : ErA) : Sp := fun vs H Q E => ∃ (v u : V) (a e : Addr) (b : List Sm) (fx : List Int) (x : EdD), vs = [v, .ref a, .ref e] ∧ BSt K H v a b fx ∧ EdV K H e u x ∧ EdK K A H Q E u (dueE b fx x)
theorem r_sl2 {K : PySem.W.Frag} {H : Hp} {Q : VK} {e : Addr} {x y : V} {r : List V} (h : SqT K H e (x :: y :: r)) (q : ∀ (H' : Hp) (c : Addr), Kp [] H H' → SqT K H' c [x, y] → Q (.ref c) H') : rSlA K (.ref e) none (some ((2 : Nat) : Int)) H Q := by
  refine ⟨e, _, rfl, h, fun hw => ?_, fun _ p hp => ?_⟩
  · have hr : r = [] := by
      have h2 := hw.2
      rw [HT.sIx_nat] at h2
      simp only [List.length_cons] at h2
      exact List.length_eq_zero_iff.mp (by omega)
    subst hr
    exact q H e Kp.nil h
  · have e2 : cutV (x :: y :: r) none (some ((2 : Nat) : Int)) = [x, y] := by
      unfold cutV
      rw [HT.sIx_none, HT.sIx_nat]
      simp
    rw [e2]
    exact q _ p (Kp.nil.new hp) (SqT.of upd_same)
end Aw
namespace Aw
open PySem PySem.Spec PyProof.Rows L2
/-- o.f = .. -/
def gFld (K : PySem.W.Frag) (f : Str) (ta : TE) : TG := fun y σ H R => ta σ H fun x H2 => ∃ a C dx fs, x = .ref a ∧ H2 a = some (.ins C dx fs) ∧ Cls K C ∧ NoAttr K C f ∧ fs.length < 1000 ∧ R σ (upd H2 a (.ins C dx (putF f y fs)))
theorem pg_fld {X : Cx} {o : Expr} {f : Str} {ta : TE} {pos : Pos} (ho : PE X o ta)
    (ha : ∀ v, assign (.Attribute o f pos) X.env v = (do
      let ov ← holding [v] (eval o X.env)
      standAt pos.atName
      holding [v, ov] (setAttr ov f v)
      release [v, ov] []) := by intro _; rfl) : PG X (.Attribute o f pos) (gFld X.K f ta) := by
  refine ⟨fun pins s σ H v u Q I r h => ?_⟩
  rw [ha]
  refine wpAny_bind (wpAny_holding (thn (ho.run pins s σ H _ I h) fun ov s1 ⟨x, H1, I1, r1, a, C, dx, fs, ex, ea, c, n, l, q⟩ => ?_))
  subst ex
  obtain rfl : ov = Value.ref a := r1
  refine wpAny_bind (wpAny_standAt (wpAny_bind (wpAny_holding (setattr_ok I1 ea c n l r fun s2 I2 => ?_))))
  exact wpAny_release ⟨σ, _, I2, q⟩
def GFldQ (K : PySem.W.Frag) (f : Str) (y : V) (σ : L2.St) (R : L2.St → Hp → Prop) : V → Hp → Prop := fun x H2 => ∃ a C dx fs, x = .ref a ∧ H2 a = some (.ins C dx fs) ∧ Cls K C ∧ NoAttr K C f ∧ fs.length < 1000 ∧ R σ (upd H2 a (.ins C dx (putF f y fs)))
theorem r_gfld {K : PySem.W.Frag} {f : Str} {ta : TE} {y : V} {σ : L2.St} {H : Hp} {R : L2.St → Hp → Prop} (h : ta σ H (GFldQ K f y σ R)) : gFld K f ta y σ H R := h
theorem r_GFld {K : PySem.W.Frag} {f : Str} {a C dx : Addr} {fs : List (Str × V)} {y : V} {σ : L2.St} {H : Hp} {R : L2.St → Hp → Prop} (e : H a = some (.ins C dx fs)) (c : Cls K C) (n : NoAttr K C f) (l : fs.length < 1000) (q : R σ (upd H a (.ins C dx (putF f y fs)))) : GFldQ K f y σ R (.ref a) H := ⟨a, C, dx, fs, rfl, e, c, n, l, q⟩
end Aw
namespace Aw
open PySem PySem.Spec PyProof.Rows L2
theorem special_fn {prog : Program} {w : World} {K : PySem.W.Frag} {A : Around} {E : Value → Shared → Prop} {s : Shared} {a C f : Addr} {o : Obj} {name : Str} {args : List Value} {Q : Option Value → Shared → Prop} (X : K.In s.heap) (ho : s.heap.get? a = some o) (hoc : o.cls = .ref C)
    (hf : PySem.W.findIn K (.ref C) name = some (some (.ref f))) (ht : PySem.W.typeIn K (.ref f) = some (.type "function"))
    (hc : wpAny (model prog w) A (call (.ref f) (.ref a :: args)) (fun v s' => Q (some v) s') E s) : wpAny (model prog w) A (callSpecial? (.ref a) name args) Q E s := by
  unfold callSpecial? specialOf
  refine wpAny_bind (wpAny_bind (wpAny_typeOf_ref ho ?_))
  rw [hoc]
  refine (PySem.W.looks_findIn X hf).here ?_
  refine wpAny_holding (wpAny_bind ((PySem.W.bind_fn X (.ref a) ht).here ?_))
  exact wpAny_bind (wpAny_mono hc (fun v s' h => wpAny_pure h) fun _ _ z => z)
def qLenC (C : Addr) (sp : Sp) : List V → Hp → VK → Prop := fun vs H Q => ∃ (a dx : Addr) (fs : List (Str × V)), vs = [.ref a] ∧ H a = some (.ins C dx fs) ∧ sp [.ref a] H (fun v H' => ∃ n : Nat, v = .int (n : Nat) ∧ n < 2 ^ 62 ∧ Q (.int (n : Nat)) H') (fun _ _ _ => False)
theorem c_lenM {X : Cx} {k : Nat} {C : Addr} {ps : List Str} {sp : Sp} (F : HasM X.prog X.w X.K X.mg X.base CX0 C "__len__" ps k sp) (hr : RoomG (k + 1) X.A) : CallR X (.builtin "len") (qLenC C sp) := by
  intro pins s σ H vs us Q I r h
  obtain ⟨a, dx, fs, rfl, ea, hsp⟩ := h
  rw [Vals.ref1 r]
  obtain ⟨f, fd, ⟨oc, od, osl, lk⟩, M, hb, F⟩ := F
  obtain ⟨mA, O, _⟩ := ins_get I.hok ea
  have hl : ([Value.ref a] ++ []).length = ps.length := F.len _ _ _ _ hsp
  have bb := hb s [.ref a] I.kIn hl
  rw [List.append_nil] at bb
  have e0 := I.env0
  have e1 : Env0 X.prog X.w X.K X.mg X.base X.A.in1 X.stack s H := ⟨e0.frames, e0.mod, e0.bs, e0.bsz, e0.funs, e0.frf, e0.hok, e0.bare⟩
  refine Calls.call_function_entry kind_len plain_len entry_len (args_len1 _) ?_
  unfold Builtin.«len»
  refine wpAny_bind (m := oneArg "len" _) (wpAny_pure ?_)
  refine wpAny_bind (m := callSpecial? (.ref a) (Str.ofString "__len__")) (special_fn I.kIn O.obj rfl M.at_ (beq_iff_eq.mp M.fn) (wpAny_call (codeAny_mono (F.run X.A.in1 X.stack s H ⟨[.ref a], []⟩ [.ref a] [.ref a] _ _ ⟨hr.r.in1, hr.g⟩ e1 bb (.cons rfl .nil) hsp) fun r' s' hq => ?_)))
  match r', hq with
  | .error e, hq => exact hq.elim
  | .ok (.ret u), hq =>
    obtain ⟨v, H2, J, rv, n, rfl, hn, q⟩ := I.after hq
    obtain ⟨t, rfl⟩ : ∃ t, u = Value.int (n : Nat) t := rv
    refine wpAny_bind (wpAny_holding (wpAny_pure ?_))
    refine wpAny_bind (wpAny_letGo ?_)
    show wpAny _ _ (if ((n : Nat) : Int) < 0 then _ else _) _ _ _
    rw [if_neg (by omega)]
    show wpAny _ _ (if ((n : Nat) : Int) ≥ 2 ^ 63 then _ else _) _ _ _
    rw [if_neg (by omega)]
    exact wpAny_bind (wpAny_mkInt (wpAny_pure ⟨_, rfl, .int (n : Nat), H2, J.tok _, ⟨_, rfl⟩, q⟩))
end Aw
namespace Aw
open PySem PySem.Spec PyProof.Rows L2
/-- what stands of the class Bench -/
structure BnT (K : PySem.W.Frag) (C : Addr) : Prop where
  cl : Cls K C
  nP : NoAttr K C "program"
  nF : NoAttr K C "fix"
  nB : NoAttr K C "begun"
  nS : NoAttr K C "standing"
  nU : NoAttr K C "undone"
  nW : NoAttr K C "is_watched"
/-- its fields -/
def bnF (v : V) (f g l u : Addr) : List (Str × V) := [("program", v), ("fix", .ref f), ("begun", .ref g), ("standing", .ref l), ("undone", .ref u), ("is_watched", .bl false)]
def spStand (K : PySem.W.Frag) (C : Addr) : Sp := fun vs H Q _ => ∃ (a dx f g l u l2 p f2 : Addr) (v w : V) (xs : List V), vs = [.ref a, .ref l2] ∧ H a = some (.ins C dx (bnF v f g l u)) ∧ H l2 = some (.lst xs) ∧
  ((xs = [] ∧ p = g) ∨ ∃ (ys : List V) (e : Addr) (ed : V), xs = ys ++ [.ref e] ∧ SqT K H e [ed, .ref p]) ∧ SqT K H p [w, .ref f2] ∧ xs.length < 1001 ∧ ∀ H', Kp [a] H H' → H' a = some (.ins C dx (bnF w f2 g l2 u)) → Q (.int ((xs.length : Nat) : Int)) H'
section
variable {v w : V} {f g l u l2 : Addr}
theorem bn_putS : putF "standing" (.ref l2) (bnF v f g l u) = bnF v f g l2 u := by
  simp only [bnF, putF]
  rw [if_neg (by decide +kernel), if_neg (by decide +kernel), if_neg (by decide +kernel), if_pos trivial]
theorem bn_putU : putF "undone" (.ref l2) (bnF v f g l u) = bnF v f g l l2 := by
  simp only [bnF, putF]
  rw [if_neg (by decide +kernel), if_neg (by decide +kernel), if_neg (by decide +kernel), if_neg (by decide +kernel), if_pos trivial]
theorem bn_putP : putF "program" w (bnF v f g l u) = bnF w f g l u := by
  simp only [bnF, putF]
  rw [if_pos trivial]
theorem bn_putF : putF "fix" (.ref l2) (bnF v f g l u) = bnF v l2 g l u := by
  simp only [bnF, putF]
  rw [if_neg (by decide +kernel), if_pos trivial]
end
theorem at_lastV (xs : List V) (y : V) : atI (xs ++ [y]) (-1) = some y := by
  unfold atI ixN
  simp
  rw [if_pos (by omega)]
  have e : (-1 + ((xs.length : Int) + 1)).toNat = xs.length := by omega
  show (xs ++ [y])[(-1 + ((xs.length : Int) + 1)).toNat]? = some y
  rw [e]
  simp
def spIdle (K : PySem.W.Frag) (C : Addr) : Sp := fun vs H Q _ => ∃ (a dx f g l u : Addr) (v : V), vs = [.ref a] ∧ H a = some (.ins C dx (bnF v f g l u)) ∧ Q .non H
def spReady (K : PySem.W.Frag) (C : Addr) : Sp := fun vs H Q _ => ∃ (a dx f g l u : Addr) (v : V) (xs : List V), vs = [.ref a] ∧ H a = some (.ins C dx (bnF v f g l u)) ∧ H l = some (.lst xs) ∧ xs.length < 60 ∧ Q .non H
def spJudge : Sp := fun vs H Q _ => ∃ x y : V, vs = [x, y] ∧ Q .non H
section
variable {v : V} {f g l u : Addr}
theorem bn_getW : (bnF v f g l u).lookup ("is_watched" : Str) = some (V.bl false) := by rfl
theorem bn_getS : (bnF v f g l u).lookup ("standing" : Str) = some (V.ref l) := by rfl
theorem bn_getP : (bnF v f g l u).lookup ("program" : Str) = some v := by rfl
theorem bn_getB : (bnF v f g l u).lookup ("begun" : Str) = some (V.ref g) := by rfl
theorem bn_getU : (bnF v f g l u).lookup ("undone" : Str) = some (V.ref u) := by rfl
theorem bn_getF : (bnF v f g l u).lookup ("fix" : Str) = some (V.ref f) := by rfl
end
def spSettle (K : PySem.W.Frag) (C : Addr) : Sp := fun vs H Q _ => ∃ (a dx f g l u p f2 : Addr) (v ed w : V) (xs : List V), vs = [.ref a, ed, .ref p] ∧ H a = some (.ins C dx (bnF v f g l u)) ∧ H l = some (.lst xs) ∧ SqT K H p [w, .ref f2] ∧ xs.length < 1000 ∧
  ∀ (H' : Hp) (l2 u2 e : Addr), H l2 = none → Kp [a] H H' → H' a = some (.ins C dx (bnF w f2 g l2 u2)) → H' l2 = some (.lst (xs ++ [.ref e])) → SqT K H' e [ed, .ref p] → H' u2 = some (.lst []) → H u2 = none → Q (.int ((xs.length + 1 : Nat) : Int)) H'
end Aw
namespace Aw
open PySem PySem.Spec PyProof.Rows L2
/-- a def that might raise, and does not here -/
theorem passQ {X : Cx} : Passes (L2.CX X.prog X.w) X E0 := fun _ _ _ _ _ _ _ h => by
  obtain ⟨_, _, _, _, _, _, _, _, _, _, _, _, z⟩ := h
  exact z.elim
/-- the values that a method of an edit is given -/
inductive ArgV (K : PySem.W.Frag) (H : Hp) : Str → List V → V → EdD → Prop
  | add {s : V} {d : PyData} (hs : Dw [] K H s d) (hz : dsz d ≤ 40000) : ArgV K H "add" [s] .non (.add d)
  | drop {u : V} {p : PyData} (hu : Dw [] K H u p) : ArgV K H "drop" [u] u (.drop p)
  | change {u s : V} {p d : PyData} (hu : Dw [] K H u p) (hs : Dw [] K H s d) (hz : dsz d ≤ 40000) : ArgV K H "change" [u, s] u (.change p d)
  | hold {u : V} {p : PyData} (hu : Dw [] K H u p) : ArgV K H "hold" [u] u (.hold p)
  | free {u : V} {p : PyData} (hu : Dw [] K H u p) : ArgV K H "free" [u] u (.free p)
theorem ArgV.ed {K : PySem.W.Frag} {H H1 : Hp} {nm : Str} {us : List V} {u : V} {x : EdD} {e : Addr} (h : ArgV K H nm us u x) (k : Kp [] H H1) (he : SqT K H1 e (.str nm :: us)) : EdV K H1 e u x := by
  cases h with
  | add hs hz => exact .add he (hs.kp0 k) hz
  | drop hu => exact .drop he (hu.kp0 k)
  | change hu hs hz => exact .change he (hu.kp0 k) (hs.kp0 k) hz
  | hold hu => exact .hold he (hu.kp0 k)
  | free hu => exact .free he (hu.kp0 k)
/-- a bench -/
structure BnS (K : PySem.W.Frag) (H : Hp) (C a dx : Addr) (v : V) (f g l u : Addr) (xs : List V) (b : List Sm) (fx : List Int) : Prop where
  ins : H a = some (.ins C dx (bnF v f g l u))
  lst : H l = some (.lst xs)
  st : BSt K H v f b fx
/-- the edit as data -/
def edD : EdD → PyData
  | .add d => .tuple [.str "add", d]
  | .drop p => .tuple [.str "drop", p]
  | .change p d => .tuple [.str "change", p, d]
  | .hold p => .tuple [.str "hold", p]
  | .free p => .tuple [.str "free", p]
/-- what an edit of a bench leads to -/
def BnK (K : PySem.W.Frag) (A : ErA) (C a dx g : Addr) (H : Hp) (Q : VK) (E : XK) (xs : List V) (xd : PyData) (u : V) : EdR → Prop
  | .ok ds fx => ∀ (H' : Hp) (w ev : V) (f2 l2 u2 e p : Addr), H l2 = none → H u2 = none → Kp [a] H H' → H' a = some (.ins C dx (bnF w f2 g l2 u2)) → H' l2 = some (.lst (xs ++ [.ref e])) → H' u2 = some (.lst []) → SqT K H' e [ev, .ref p] → SqT K H' p [w, .ref f2] → Dw [] K H' ev xd →
      Dw [] K H' w (.tuple ds) → SqT K H' f2 (fx.map V.int) → Q (.int ((xs.length + 1 : Nat) : Int)) H'
  | .noPlace => Lv H E A.N "place" u
  | .noReader => Lv H E A.R "place" u
  | .isHeld => Lv H E A.I "place" u
  | .notHeld => Lv H E A.F "place" u
  | .bad e => LvD K H E A.B "error" e
theorem EdV.dw {K : PySem.W.Frag} {H : Hp} {e : Addr} {u : V} {x : EdD} (h : EdV K H e u x) : Dw [] K H (.ref e) (edD x) := by
  cases h with
  | add h hs hz => exact DwL.tp h (.cons (.str _) (.cons hs .nil))
  | drop h hu => exact DwL.tp h (.cons (.str _) (.cons hu .nil))
  | change h hu hs hz => exact DwL.tp h (.cons (.str _) (.cons hu (.cons hs .nil)))
  | hold h hu => exact DwL.tp h (.cons (.str _) (.cons hu .nil))
  | free h hu => exact DwL.tp h (.cons (.str _) (.cons hu .nil))
section
variable {K : PySem.W.Frag} {A : ErA} {H H1 : Hp} {Q : VK} {E : XK} {u v : V} {C a dx f g l un : Addr} {xs : List V} {b : List Sm} {fx : List Int} {ws : List V} {xd : PyData} {r : EdR}
theorem BnS.kp (h : BnS K H C a dx v f g l un xs b fx) (k : Kp [] H H1) : BnS K H1 C a dx v f g l un xs b fx := ⟨k.get h.ins (by simp), k.get h.lst (by simp), h.st.kp k⟩
theorem BnK.kp (hI : H a = some (.ins C dx (bnF v f g l un))) (h : BnK K A C a dx g H Q E ws xd u r) (k : Kp [] H H1) : BnK K A C a dx g H1 Q E ws xd u r := by
  cases r with
  | ok ds fx => exact fun H' w ev f2 l2 u2 e p hn hn2 k2 => h H' w ev f2 l2 u2 e p (k.freeM Ms.nil hn) (k.freeM Ms.nil hn2) ((k.subM (Ms.cons hI trivial Ms.nil) (by simp)).trans k2)
  | bad e => exact LvD.kp h k
  | _ => exact Lv.kp h k
end
def spDo (K : PySem.W.Frag) (A : ErA) (C : Addr) : Sp := fun vs H Q E => ∃ (a dx f g l un e : Addr) (v u : V) (xs : List V) (b : List Sm) (fx : List Int) (x : EdD), vs = [.ref a, .ref e] ∧ BnS K H C a dx v f g l un xs b fx ∧ xs.length < 60 ∧ EdV K H e u x ∧
  BnK K A C a dx g H Q E xs (edD x) u (dueE b fx x)
def spEdM (K : PySem.W.Frag) (A : ErA) (C : Addr) (nm : Str) : Sp := fun vs H Q E => ∃ (a dx f g l un : Addr) (v u : V) (us xs : List V) (b : List Sm) (fx : List Int) (x : EdD), vs = .ref a :: us ∧ BnS K H C a dx v f g l un xs b fx ∧ xs.length < 60 ∧ ArgV K H nm us u x ∧
  BnK K A C a dx g H Q E xs (edD x) u (dueE b fx x)
def spLenB (C : Addr) : Sp := fun vs H Q _ => ∃ (a dx f g l un : Addr) (v : V) (xs : List V), vs = [.ref a] ∧ H a = some (.ins C dx (bnF v f g l un)) ∧ H l = some (.lst xs) ∧ xs.length < 1000 ∧ Q (.int ((xs.length : Nat) : Int)) H
def spInitB (K : PySem.W.Frag) (C : Addr) : Sp := fun vs H Q _ => ∃ (a dx f : Addr) (v : V) (b : List Sm) (fx : List Int), vs = [.ref a, v, .ref f] ∧ H a = some (.ins C dx []) ∧ BSt K H v f b fx ∧ (∀ x ∈ fx, x ∈ selP (Sm.rowsL 0 b)) ∧
  ∀ (H' : Hp) (g l un : Addr), H l = none → H un = none → Kp [a] H H' → H' a = some (.ins C dx (bnF v f g l un)) → H' l = some (.lst []) → H' un = some (.lst []) → SqT K H' g [v, .ref f] → Q .non H'
section
variable {x1 x2 x3 x4 x5 x6 : V}
theorem bn_i1 : putF "program" x1 [] = ([("program", x1)] : List (Str × V)) := by
  simp only [putF]
theorem bn_i2 : putF "fix" x2 [("program", x1)] = ([("program", x1), ("fix", x2)] : List (Str × V)) := by
  simp only [putF]
  rw [if_neg (by decide +kernel)]
theorem bn_i3 : putF "begun" x3 [("program", x1), ("fix", x2)] = ([("program", x1), ("fix", x2), ("begun", x3)] : List (Str × V)) := by
  simp only [putF]
  rw [if_neg (by decide +kernel), if_neg (by decide +kernel)]
theorem bn_i4 : putF "standing" x4 [("program", x1), ("fix", x2), ("begun", x3)] = ([("program", x1), ("fix", x2), ("begun", x3), ("standing", x4)] : List (Str × V)) := by
  simp only [putF]
  rw [if_neg (by decide +kernel), if_neg (by decide +kernel), if_neg (by decide +kernel)]
theorem bn_i5 : putF "undone" x5 [("program", x1), ("fix", x2), ("begun", x3), ("standing", x4)] = ([("program", x1), ("fix", x2), ("begun", x3), ("standing", x4), ("undone", x5)] : List (Str × V)) := by
  simp only [putF]
  rw [if_neg (by decide +kernel), if_neg (by decide +kernel), if_neg (by decide +kernel), if_neg (by decide +kernel)]
theorem bn_i6 : putF "is_watched" x6 [("program", x1), ("fix", x2), ("begun", x3), ("standing", x4), ("undone", x5)] = ([("program", x1), ("fix", x2), ("begun", x3), ("standing", x4), ("undone", x5), ("is_watched", x6)] : List (Str × V)) := by
  simp only [putF]
  rw [if_neg (by decide +kernel), if_neg (by decide +kernel), if_neg (by decide +kernel), if_neg (by decide +kernel), if_neg (by decide +kernel)]
end
section
variable {K : PySem.W.Frag} {H H1 : Hp} {v : V} {d : PyData} {M : List Addr}
mutual
/-- data without lists and dicts -/
def tplD : PyData → Bool
  | .tuple ds => tplDs ds
  | .list _ => false
  | .dict _ => false
  | _ => true
def tplDs : List PyData → Bool
  | [] => true
  | d :: r => tplD d && tplDs r
end
theorem tplDs_at : ∀ {ds : List PyData} {i : Nat} {d : PyData}, tplDs ds = true → ds[i]? = some d → tplD d = true
  | e :: r, 0, d, h, q => by
    rw [tplDs, Bool.and_eq_true] at h
    cases q
    exact h.1
  | e :: r, i + 1, d, h, q => by
    rw [tplDs, Bool.and_eq_true] at h
    exact tplDs_at h.2 (by simpa using q)
theorem Dw.dt (h : Dw M K H v d) (t : tplD d = true) : Dt K H v d := by
  induction h with
  | non => exact .non
  | bl b => exact .bl b
  | int i => exact .int i
  | str x => exact .str x
  | tup s l _ ih =>
    rw [tplD] at t
    exact .tup s l fun i v d e e' => ih i v d e e' (tplDs_at t e')
  | lst e n l _ ih => rw [tplD] at t; cases t
  | dct e n l q _ ih => rw [tplD] at t; cases t
theorem Ex.tpl : ∀ e : Ex, tplD e.d = true
  | .int i => by rw [Ex.d]; rfl
  | .name x => by rw [Ex.d]; rfl
  | .bin o a b => by
    rw [Ex.d, tplD, tplDs, tplDs, tplDs, tplDs, Ex.tpl a, Ex.tpl b]
    rfl
theorem Ts.tpl : ∀ t : Ts, tplD t.d = true
  | .not t => by
    rw [Ts.d, tplD, tplDs, tplDs, tplDs, Ts.tpl t]
    rfl
  | .given x => by rw [Ts.d]; rfl
  | .rest a b r => by
    rw [Ts.d, tplD, tplDs, tplDs, tplDs, tplDs, tplDs, Ex.tpl a]
    rfl
  | .less a b => by
    rw [Ts.d, tplD, tplDs, tplDs, tplDs, tplDs, Ex.tpl a, Ex.tpl b]
    rfl
theorem Pl.tpl : ∀ p : Pl, tplD p.d = true
  | .set x e => by
    rw [Pl.d, tplD, tplDs, tplDs, tplDs, tplDs, Ex.tpl e]
    rfl
  | .unset x => by rw [Pl.d]; rfl
  | .tell e => by
    rw [Pl.d, tplD, tplDs, tplDs, tplDs, Ex.tpl e]
    rfl
  | .say x => by rw [Pl.d]; rfl
  | .stop x => by rw [Pl.d]; rfl
mutual
theorem Sm.tpl : ∀ s : Sm, tplD s.d = true
  | .pl p => by rw [Sm.d]; exact Pl.tpl p
  | .ifs t y z => by
    rw [Sm.d, tplD, tplDs, tplDs, tplDs, tplDs, tplDs, Ts.tpl t, tplD, tplD, Sm.tpls y, Sm.tpls z]
    rfl
  | .rep k b => by
    rw [Sm.d, tplD, tplDs, tplDs, tplDs, tplDs, tplD, Sm.tpls b]
    rfl
theorem Sm.tpls : ∀ b : List Sm, tplDs (Sm.ds b) = true
  | [] => by rw [Sm.ds, tplDs]
  | s :: r => by rw [Sm.ds, tplDs, Sm.tpl s, Sm.tpls r]; rfl
end
theorem Dw.prog {b : List Sm} (h : Dw M K H v (.tuple (Sm.ds b))) : Dt K H v (.tuple (Sm.ds b)) := h.dt (by rw [tplD]; exact Sm.tpls b)
theorem Dw.stm {s : Sm} (h : Dw M K H v s.d) : Dt K H v s.d := h.dt (Sm.tpl s)
theorem BSt.kpM {a : Addr} {b : List Sm} {fx : List Int} (h : BSt K H v a b fx) (k : Kp M H H1) : BSt K H1 v a b fx := ⟨h.vp, ((h.dw.prog).kp k).dw, sqT_kp k h.sq, h.lt, h.asc, h.len⟩
end
mutual
theorem Sm.rows_al (n : Nat) : ∀ s : Sm, (Sm.rows n s).map (·.2) = Sm.ds (Sm.al s)
  | .pl p => by rw [Sm.rows, Sm.al, Sm.ds, Sm.ds, Sm.d]; rfl
  | .ifs t y z => by rw [Sm.rows, Sm.al, Sm.ds, Sm.ds_app, List.map_cons, List.map_append, Sm.rowsL_als (n + 1) y, Sm.rowsL_als (n + 1) z, Sm.d]
  | .rep k b => by rw [Sm.rows, Sm.al, Sm.ds, List.map_cons, Sm.rowsL_als (n + 1) b, Sm.d]
theorem Sm.rowsL_als (n : Nat) : ∀ b : List Sm, (Sm.rowsL n b).map (·.2) = Sm.ds (Sm.als b)
  | [] => by rw [Sm.rowsL, Sm.als, Sm.ds]; rfl
  | s :: r => by rw [Sm.rowsL, Sm.als, Sm.ds_app, List.map_append, Sm.rows_al n s, Sm.rowsL_als n r]
end
/-- the places of readers -/
def rdP (b : List Sm) : List Int := ((List.range (Sm.sizes b)).filter fun j => RDS.contains (headS (stAt b j).d)).map Int.ofNat
theorem stAt_d {b : List Sm} {i : Nat} (h : i < Sm.sizes b) : (Sm.als b)[i]? = some (stAt b i) := by
  unfold stAt
  rw [List.getD_eq_getElem?_getD, List.getElem?_eq_getElem (by rw [Sm.als_len]; exact h)]
  rfl
theorem selP_rd (b : List Sm) : selP (Sm.rowsL 0 b) = rdP b := by
  unfold selP rdP
  rw [Sm.rowsL_len]
  congr 1
  refine List.filter_congr fun j hj => ?_
  have hj := List.mem_range.mp hj
  have q := congrArg (fun l => l[j]?) (Sm.rowsL_als 0 b)
  simp only [List.getElem?_map, Sm.ds_map, stAt_d hj] at q
  obtain ⟨e, he, h2⟩ := Option.map_eq_some_iff.mp q
  rw [List.getD_eq_getElem?_getD, he]
  show RDS.contains (headS e.2) = _
  rw [h2]
theorem rdP_mem {b : List Sm} {i : Nat} (h : i < Sm.sizes b) (hr : RDS.contains (headS (stAt b i).d) = true) : (i : Int) ∈ rdP b := List.mem_map.mpr ⟨i, List.mem_filter.mpr ⟨List.mem_range.mpr h, hr⟩, rfl⟩
end Aw
namespace Aw
open PySem PySem.Spec PyProof.Rows L2
mutual
/-- statements in the place of one -/
def Sm.rpS : Sm → Nat → List Sm → Sm
  | .pl p, _, _ => .pl p
  | .ifs t y z, i, ts => if i < Sm.sizes y then .ifs t (Sm.rpB y i ts) z else .ifs t y (Sm.rpB z (i - Sm.sizes y) ts)
  | .rep k b, i, ts => .rep k (Sm.rpB b i ts)
def Sm.rpB : List Sm → Nat → List Sm → List Sm
  | [], _, _ => []
  | s :: r, i, ts => if i = 0 then ts ++ r else if i < s.size then Sm.rpS s (i - 1) ts :: r else s :: Sm.rpB r (i - s.size) ts
end
mutual
theorem rpS_d : ∀ (s : Sm) (i : Nat) (ts : List Sm), (Sm.rpS s i ts).d = Sm.putS s i (Sm.ds ts)
  | .pl p, i, ts => by rw [Sm.rpS, Sm.putS, Sm.d]
  | .ifs t y z, i, ts => by
    rw [Sm.rpS, Sm.putS]
    split
    · rw [Sm.d, rpB_d y i ts]
    · rw [Sm.d, rpB_d z _ ts]
  | .rep k b, i, ts => by rw [Sm.rpS, Sm.putS, Sm.d, rpB_d b i ts]
theorem rpB_d : ∀ (b : List Sm) (i : Nat) (ts : List Sm), Sm.ds (Sm.rpB b i ts) = Sm.putB b i (Sm.ds ts)
  | [], i, ts => by rw [Sm.rpB, Sm.putB, Sm.ds]
  | s :: r, i, ts => by
    rw [Sm.rpB, Sm.putB]
    split
    · rw [Sm.ds_app]
    · split
      · rw [Sm.ds, rpS_d s (i - 1) ts]
      · rw [Sm.ds, rpB_d r _ ts]
end
theorem al_zero (s : Sm) : (Sm.al s)[0]? = some s := by cases s <;> (rw [Sm.al]; rfl)
mutual
theorem rpS_size : ∀ (s : Sm) (i : Nat) (ts : List Sm) (st : Sm), (Sm.al s)[i + 1]? = some st → (Sm.rpS s i ts).size + st.size = s.size + Sm.sizes ts
  | .pl p, i, ts, st, h => by
    rw [Sm.al] at h
    simp at h
  | .ifs t y z, i, ts, st, h => by
    rw [Sm.al, List.getElem?_cons_succ] at h
    rw [Sm.rpS]
    split
    · rename_i c
      rw [List.getElem?_append_left (by rw [Sm.als_len]; exact c)] at h
      have q := rpB_size y i ts st h
      rw [Sm.size, Sm.size]
      omega
    · rename_i c
      rw [List.getElem?_append_right (by rw [Sm.als_len]; omega), Sm.als_len] at h
      have q := rpB_size z _ ts st h
      rw [Sm.size, Sm.size]
      omega
  | .rep k b, i, ts, st, h => by
    rw [Sm.al, List.getElem?_cons_succ] at h
    have q := rpB_size b i ts st h
    rw [Sm.rpS, Sm.size, Sm.size]
    omega
theorem rpB_size : ∀ (b : List Sm) (i : Nat) (ts : List Sm) (st : Sm), (Sm.als b)[i]? = some st → Sm.sizes (Sm.rpB b i ts) + st.size = Sm.sizes b + Sm.sizes ts
  | [], i, ts, st, h => by
    rw [Sm.als] at h
    simp at h
  | s :: r, i, ts, st, h => by
    rw [Sm.als] at h
    have hp := Sm.size_pos s
    rw [Sm.rpB, Sm.sizes]
    by_cases c0 : i = 0
    · rw [if_pos c0]
      subst c0
      rw [List.getElem?_append_left (by rw [Sm.al_len]; exact hp), al_zero] at h
      cases h
      rw [Sm.sizes_app]
      omega
    · rw [if_neg c0]
      by_cases c1 : i < s.size
      · rw [if_pos c1]
        rw [List.getElem?_append_left (by rw [Sm.al_len]; exact c1)] at h
        obtain ⟨j, rfl⟩ : ∃ j, i = j + 1 := ⟨i - 1, by omega⟩
        have q := rpS_size s j ts st h
        rw [Sm.sizes, Nat.add_sub_cancel]
        omega
      · rw [if_neg c1]
        rw [List.getElem?_append_right (by rw [Sm.al_len]; omega), Sm.al_len] at h
        have q := rpB_size r _ ts st h
        rw [Sm.sizes]
        omega
end
mutual
theorem al_end : ∀ (s : Sm) (i : Nat) (st : Sm), (Sm.al s)[i]? = some st → i + st.size ≤ s.size
  | s, 0, st, h => by
    rw [al_zero] at h
    cases h
    omega
  | .pl p, i + 1, st, h => by
    rw [Sm.al] at h
    simp at h
  | .ifs t y z, i + 1, st, h => by
    rw [Sm.al, List.getElem?_cons_succ] at h
    rw [Sm.size]
    by_cases c : i < Sm.sizes y
    · rw [List.getElem?_append_left (by rw [Sm.als_len]; exact c)] at h
      have q := als_end y i st h
      omega
    · rw [List.getElem?_append_right (by rw [Sm.als_len]; omega), Sm.als_len] at h
      have q := als_end z _ st h
      omega
  | .rep k b, i + 1, st, h => by
    rw [Sm.al, List.getElem?_cons_succ] at h
    have q := als_end b i st h
    rw [Sm.size]
    omega
theorem als_end : ∀ (b : List Sm) (i : Nat) (st : Sm), (Sm.als b)[i]? = some st → i + st.size ≤ Sm.sizes b
  | [], i, st, h => by
    rw [Sm.als] at h
    simp at h
  | s :: r, i, st, h => by
    rw [Sm.als] at h
    rw [Sm.sizes]
    by_cases c : i < s.size
    · rw [List.getElem?_append_left (by rw [Sm.al_len]; exact c)] at h
      have q := al_end s i st h
      omega
    · rw [List.getElem?_append_right (by rw [Sm.al_len]; omega), Sm.al_len] at h
      have q := als_end r _ st h
      omega
end
theorem ds_inj : ∀ {a b : List Sm}, Sm.ds a = Sm.ds b → a = b
  | [], [], _ => rfl
  | [], s :: r, h => by rw [Sm.ds, Sm.ds] at h; cases h
  | s :: r, [], h => by rw [Sm.ds, Sm.ds] at h; cases h
  | s :: r, t :: q, h => by
    rw [Sm.ds, Sm.ds] at h
    obtain ⟨h1, h2⟩ := List.cons.inj h
    rw [Sm.d_inj h1, ds_inj h2]
/-- the held places are right -/
structure FxOk (b : List Sm) (fx : List Int) : Prop where
  lt : ∀ x ∈ fx, 0 ≤ x ∧ x < (Sm.sizes b : Int)
  asc : fx.Pairwise (· < ·)
theorem asc_len : ∀ (l : List Int) (lo hi : Int), l.Pairwise (· < ·) → (∀ x ∈ l, lo ≤ x ∧ x < hi) → lo ≤ hi → (l.length : Int) ≤ hi - lo
  | [], lo, hi, _, _, h => by simp; omega
  | x :: r, lo, hi, p, m, h => by
    rw [List.pairwise_cons] at p
    have hx := m x (List.mem_cons_self ..)
    have q := asc_len r (x + 1) hi p.2 (fun y hy => ⟨by have := p.1 y hy; omega, (m y (List.mem_cons_of_mem _ hy)).2⟩) (by omega)
    rw [List.length_cons]
    omega
theorem FxOk.len {b : List Sm} {fx : List Int} (h : FxOk b fx) (hz : Sm.sizes b ≤ 24) : fx.length ≤ 24 := by
  have := asc_len fx 0 (Sm.sizes b) h.asc h.lt (by omega)
  omega
theorem FxOk.pins {b c : List Sm} {fx : List Int} {i g k : Nat} (h : FxOk b fx) (hi : i + g ≤ Sm.sizes b) (hc : Sm.sizes c + g = Sm.sizes b + k) : FxOk c (pinsL fx i g k) := by
  unfold pinsL
  refine ⟨fun x hx => ?_, ?_⟩
  · rcases List.mem_append.mp hx with hx | hx
    · obtain ⟨m, q⟩ := List.mem_filter.mp hx
      have q := of_decide_eq_true q
      have := h.lt x m
      omega
    · obtain ⟨y, hy, rfl⟩ := List.mem_map.mp hx
      obtain ⟨m, q⟩ := List.mem_filter.mp hy
      have q := of_decide_eq_true q
      have := h.lt y m
      omega
  · rw [List.pairwise_append]
    refine ⟨h.asc.sublist List.filter_sublist, ?_, fun x hx y hy => ?_⟩
    · rw [List.pairwise_map]
      exact (h.asc.sublist List.filter_sublist).imp fun q => by omega
    · have q := of_decide_eq_true (List.mem_filter.mp hx).2
      obtain ⟨z, hz, rfl⟩ := List.mem_map.mp hy
      have q2 := of_decide_eq_true (List.mem_filter.mp hz).2
      omega
theorem FxOk.ins {b : List Sm} {fx : List Int} {i : Nat} (h : FxOk b fx) (hi : i < Sm.sizes b) : FxOk b (insS fx i) := by
  refine ⟨fun x hx => ?_, insS_asc h.asc⟩
  unfold insS at hx
  rcases List.mem_append.mp hx with hx | hx
  · exact h.lt x (List.mem_filter.mp hx).1
  · rcases List.mem_cons.mp hx with rfl | hx
    · omega
    · exact h.lt x (List.mem_filter.mp hx).1
theorem FxOk.fil {b : List Sm} {fx : List Int} {f : Int → Bool} (h : FxOk b fx) : FxOk b (fx.filter f) := ⟨fun x hx => h.lt x (List.mem_filter.mp hx).1, h.asc.sublist List.filter_sublist⟩
theorem need_ok {ds ds2 : List PyData} {fx fx2 : List Int} (h : needD ds fx = .ok ds2 fx2) : ds2 = ds ∧ fx2 = fx ∧ ∃ b, ds = Sm.ds b ∧ VP b := by
  by_cases c : perr (.tuple ds) = .none
  · rw [needD_ok c] at h
    cases h
    exact ⟨rfl, rfl, VP.of c⟩
  · rw [needD_bad c] at h
    cases h
theorem due_ok {b : List Sm} {fx : List Int} {x : EdD} {ds : List PyData} {fx2 : List Int} (hv : VP b) (hf : FxOk b fx) (h : dueE b fx x = .ok ds fx2) : ∃ c, ds = Sm.ds c ∧ VP c ∧ FxOk c fx2 := by
  cases x with
  | add d =>
    obtain ⟨rfl, rfl, c, e, hc⟩ := need_ok h
    refine ⟨c, e, hc, fun y hy => ?_, hf.asc⟩
    have q := hf.lt y hy
    have z : Sm.sizes b ≤ Sm.sizes c := by
      have l : b = c.take b.length := by
        refine ds_inj ?_
        have e2 : (Sm.ds b ++ [d]).take b.length = (Sm.ds c).take b.length := by rw [e]
        rw [List.take_append_of_le_length (by rw [Sm.ds_map, List.length_map]; omega), List.take_of_length_le (by rw [Sm.ds_map, List.length_map]; omega)] at e2
        rw [e2, Sm.ds_map, Sm.ds_map, List.map_take]
      have q := Sm.sizes_app (c.take b.length) (c.drop b.length)
      rw [List.take_append_drop, ← l] at q
      omega
    omega
  | drop p =>
    by_cases c : isWhole 0 ((Sm.sizes b : Int) - 1) p = true
    · obtain ⟨e, hl, hst⟩ := place_at c
      rw [show dueE b fx (.drop p) = _ from if_pos c] at h
      obtain ⟨rfl, rfl, c2, e2, hc⟩ := need_ok h
      rw [show ([] : List PyData) = Sm.ds [] by rw [Sm.ds], ← rpB_d] at e2
      have e3 := ds_inj e2
      have z := rpB_size b (plc p) [] _ hst
      rw [e3, Sm.sizes] at z
      refine ⟨c2, ?_, hc, hf.pins (k := 0) (als_end b _ _ hst) z⟩
      rw [← e3, rpB_d, Sm.ds]
    · rw [show dueE b fx (.drop p) = _ from if_neg c] at h
      cases h
  | change p d =>
    by_cases c : isWhole 0 ((Sm.sizes b : Int) - 1) p = true
    · obtain ⟨e, hl, hst⟩ := place_at c
      rw [show dueE b fx (.change p d) = _ from if_pos c] at h
      obtain ⟨rfl, rfl, c2, e2, hc⟩ := need_ok h
      obtain ⟨t, rfl, htm⟩ := putB_stmt b _ d c2 hl e2
      have e4 : [t.d] = Sm.ds [t] := by rw [Sm.ds, Sm.ds]
      rw [e4, ← rpB_d] at e2
      have e3 := ds_inj e2
      have z := rpB_size b (plc p) [t] _ hst
      rw [e3, Sm.sizes, Sm.sizes] at z
      rw [smOf_d]
      refine ⟨c2, ?_, hc, hf.pins (k := t.size) (als_end b _ _ hst) z⟩
      rw [← e3, rpB_d, e4]
    · rw [show dueE b fx (.change p d) = _ from if_neg c] at h
      cases h
  | hold p =>
    by_cases c : isWhole 0 ((Sm.sizes b : Int) - 1) p = true
    · obtain ⟨e, hl, hst⟩ := place_at c
      rw [show dueE b fx (.hold p) = _ from if_pos c] at h
      by_cases c1 : RDS.contains (headS (stAt b (plc p)).d) = true
      · rw [if_pos c1] at h
        by_cases c2 : (plc p : Int) ∈ fx
        · rw [if_pos c2] at h
          cases h
        · rw [if_neg c2] at h
          cases h
          exact ⟨b, rfl, hv, hf.ins hl⟩
      · rw [if_neg c1] at h
        cases h
    · rw [show dueE b fx (.hold p) = _ from if_neg c] at h
      cases h
  | free p =>
    by_cases c : isWhole 0 ((Sm.sizes b : Int) - 1) p = true
    · rw [show dueE b fx (.free p) = _ from if_pos c] at h
      by_cases c2 : (plc p : Int) ∈ fx
      · rw [if_pos c2] at h
        cases h
        exact ⟨b, rfl, hv, hf.fil⟩
      · rw [if_neg c2] at h
        cases h
    · rw [show dueE b fx (.free p) = _ from if_neg c] at h
      cases h
theorem due_tpl {b : List Sm} {fx : List Int} {x : EdD} {ds : List PyData} {fx2 : List Int} (h : dueE b fx x = .ok ds fx2) : tplD (edD x) = true := by
  cases x with
  | add d =>
    obtain ⟨rfl, rfl, c, e, hc⟩ := need_ok h
    have q : d ∈ Sm.ds c := by rw [← e]; simp
    rw [Sm.ds_map] at q
    obtain ⟨s, _, rfl⟩ := List.mem_map.mp q
    rw [edD, tplD, tplDs, tplDs, tplDs, Sm.tpl]
    rfl
  | drop p =>
    by_cases c : isWhole 0 ((Sm.sizes b : Int) - 1) p = true
    · rw [(place_at c).1]
      rfl
    · rw [show dueE b fx (.drop p) = _ from if_neg c] at h
      cases h
  | change p d =>
    by_cases c : isWhole 0 ((Sm.sizes b : Int) - 1) p = true
    · obtain ⟨e, hl, hst⟩ := place_at c
      rw [show dueE b fx (.change p d) = _ from if_pos c] at h
      obtain ⟨rfl, rfl, c2, e2, hc⟩ := need_ok h
      obtain ⟨t, rfl, htm⟩ := putB_stmt b _ d c2 hl e2
      rw [edD, e, tplD, tplDs, tplDs, tplDs, tplDs, Sm.tpl]
      rfl
    · rw [show dueE b fx (.change p d) = _ from if_neg c] at h
      cases h
  | hold p =>
    by_cases c : isWhole 0 ((Sm.sizes b : Int) - 1) p = true
    · rw [(place_at c).1]
      rfl
    · rw [show dueE b fx (.hold p) = _ from if_neg c] at h
      cases h
  | free p =>
    by_cases c : isWhole 0 ((Sm.sizes b : Int) - 1) p = true
    · rw [(place_at c).1]
      rfl
    · rw [show dueE b fx (.free p) = _ from if_neg c] at h
      cases h
theorem BSt.fx {K : PySem.W.Frag} {H : Hp} {v : V} {a : Addr} {b : List Sm} {fx : List Int} (h : BSt K H v a b fx) : FxOk b fx := ⟨h.lt, h.asc⟩
theorem BSt.due {K : PySem.W.Frag} {H H1 : Hp} {v w : V} {a f2 : Addr} {b : List Sm} {fx fx2 : List Int} {x : EdD} {ds : List PyData} (h : BSt K H v a b fx) (e : dueE b fx x = .ok ds fx2) (hw : Dw [] K H1 w (.tuple ds)) (hs : SqT K H1 f2 (fx2.map V.int)) :
    ∃ c, ds = Sm.ds c ∧ BSt K H1 w f2 c fx2 := by
  obtain ⟨c, rfl, hc, hf⟩ := due_ok h.vp h.fx e
  exact ⟨c, rfl, hc, hw, hs, hf.lt, hf.asc, hf.len hc.size⟩
end Aw
namespace Aw
open PySem PySem.Spec PyProof.Rows L2
def spRowsB (K : PySem.W.Frag) (n : Nat) : Sp := fun vs H Q _ => ∃ (v : V) (b : List Sm), vs = [v] ∧ Dw [] K H v (.tuple (Sm.ds b)) ∧ VdB n b ∧ Sm.sizes b < 1000 ∧
  ∀ (H' : Hp) (p : Addr) (xs : List V), H p = none → Kp [] H H' → H' p = some (.lst xs) → DwL [] K H' xs (Sm.ds (Sm.als b)) → Q (.ref p) H'
/-- a list that tells an error -/
def ErL (H : Hp) (Q : VK) (s : Str) (u : V) : Prop := ∀ (H' : Hp) (p : Addr), Kp [] H H' → H' p = some (.lst [.str s, u]) → Q (.ref p) H'
def ErBd (K : PySem.W.Frag) (H : Hp) (Q : VK) (e : PyData) : Prop := ∀ (H' : Hp) (p : Addr) (z : V), Kp [] H H' → H' p = some (.lst [.str "BadProgram", z]) → Dt K H' z e → Q (.ref p) H'
/-- what the law says an edit must lead to -/
def DueQ (K : PySem.W.Frag) (H : Hp) (Q : VK) (u : V) : EdR → Prop
  | .ok ds fx => ∀ (H' : Hp) (p a : Addr) (w : V), Kp [] H H' → H' p = some (.lst [.str "ok", w, .ref a]) → Dw [] K H' w (.tuple ds) → SqT K H' a (fx.map V.int) → Q (.ref p) H'
  | .noPlace => ErL H Q "NoPlace" u
  | .noReader => ErL H Q "NoReader" u
  | .isHeld => ErL H Q "IsHeld" u
  | .notHeld => ErL H Q "NotHeld" u
  | .bad e => ErBd K H Q e
section
variable {K : PySem.W.Frag} {H H1 : Hp} {Q : VK} {u : V} {r : EdR} {s : Str} {e : PyData}
theorem ErL.kp (h : ErL H Q s u) (k : Kp [] H H1) : ErL H1 Q s u := fun H' p k2 q => h H' p (k.trans k2) q
theorem ErBd.kp (h : ErBd K H Q e) (k : Kp [] H H1) : ErBd K H1 Q e := fun H' p z k2 q q2 => h H' p z (k.trans k2) q q2
theorem DueQ.kp (h : DueQ K H Q u r) (k : Kp [] H H1) : DueQ K H1 Q u r := by
  cases r with
  | ok ds fx => exact fun H' p a w k2 => h H' p a w (k.trans k2)
  | bad e => exact ErBd.kp h k
  | _ => exact ErL.kp h k
end
/-- an edit in the heap, apart from some lists -/
inductive EdM (M : List Addr) (K : PySem.W.Frag) (H : Hp) : Addr → V → EdD → Prop
  | add {e : Addr} {s : V} {d : PyData} (h : SqT K H e [.str "add", s]) (hs : Dw M K H s d) (hz : dsz d ≤ 40000) : EdM M K H e .non (.add d)
  | drop {e : Addr} {u : V} {p : PyData} (h : SqT K H e [.str "drop", u]) (hu : Dw M K H u p) : EdM M K H e u (.drop p)
  | change {e : Addr} {u s : V} {p d : PyData} (h : SqT K H e [.str "change", u, s]) (hu : Dw M K H u p) (hs : Dw M K H s d) (hz : dsz d ≤ 40000) : EdM M K H e u (.change p d)
  | hold {e : Addr} {u : V} {p : PyData} (h : SqT K H e [.str "hold", u]) (hu : Dw M K H u p) : EdM M K H e u (.hold p)
  | free {e : Addr} {u : V} {p : PyData} (h : SqT K H e [.str "free", u]) (hu : Dw M K H u p) : EdM M K H e u (.free p)
theorem EdM.kp {M : List Addr} {K : PySem.W.Frag} {H H1 : Hp} {e : Addr} {u : V} {x : EdD} (h : EdM M K H e u x) (k : Kp M H H1) : EdM M K H1 e u x := by
  cases h with
  | add h hs hz => exact .add (sqT_kp k h) (hs.kp k) hz
  | drop h hu => exact .drop (sqT_kp k h) (hu.kp k)
  | change h hu hs hz => exact .change (sqT_kp k h) (hu.kp k) (hs.kp k) hz
  | hold h hu => exact .hold (sqT_kp k h) (hu.kp k)
  | free h hu => exact .free (sqT_kp k h) (hu.kp k)
theorem DwL.stms {M N : List Addr} {K : PySem.W.Frag} {H H1 : Hp} {ws : List V} {b : List Sm} (h : DwL M K H ws (Sm.ds b)) (k : Kp N H H1) : DwL M K H1 ws (Sm.ds b) := by
  refine ⟨h.len, fun i v d e e' => ?_⟩
  have q := h.all i v d e e'
  rw [Sm.ds_map, List.getElem?_map] at e'
  obtain ⟨s, _, rfl⟩ := Option.map_eq_some_iff.mp e'
  exact (q.stm.kp k).dw
theorem pl_two (p : Pl) : ∃ u d0 es, p.d = .tuple (.str u :: d0 :: es) ∧ (["if", "repeat"] : List Str).contains u = false ∧ es.length < 10 := by
  cases p <;> exact ⟨_, _, _, rfl, by decide +kernel, by simp⟩
/-- a statement as it stands -/
theorem stm_view {M : List Addr} {K : PySem.W.Frag} {H : Hp} {v : V} {sm : Sm} (h : Dw M K H v sm.d) : ∃ (ax : Addr) (u : Str) (y0 : V) (d0 : PyData) (ys : List V) (es : List PyData), v = .ref ax ∧ sm.d = .tuple (.str u :: d0 :: es) ∧
    SqT K H ax (.str u :: y0 :: ys) ∧ Dw M K H y0 d0 ∧ ys.length < 10 ∧ DwL M K H ys es ∧ (["if", "repeat"] : List Str).contains u = !sm.parts.isEmpty ∧ (sm.parts.isEmpty = false → es = sm.parts.map fun b => .tuple (Sm.ds b)) := by
  have go : ∀ (u : Str) (d0 : PyData) (es : List PyData), sm.d = .tuple (.str u :: d0 :: es) → es.length < 10 → (["if", "repeat"] : List Str).contains u = !sm.parts.isEmpty → (sm.parts.isEmpty = false → es = sm.parts.map fun b => .tuple (Sm.ds b)) → ∃ (ax : Addr) (u : Str) (y0 : V) (d0 : PyData) (ys : List V) (es : List PyData), v = .ref ax ∧ sm.d = .tuple (.str u :: d0 :: es) ∧
      SqT K H ax (.str u :: y0 :: ys) ∧ Dw M K H y0 d0 ∧ ys.length < 10 ∧ DwL M K H ys es ∧ (["if", "repeat"] : List Str).contains u = !sm.parts.isEmpty ∧ (sm.parts.isEmpty = false → es = sm.parts.map fun b => .tuple (Sm.ds b)) := by
    intro u d0 es e l c1 c2
    rw [e] at h
    obtain ⟨ax, zs, rfl, hT, hL⟩ := h.items
    obtain ⟨x0, zs, rfl, h0, hL2⟩ := hL.inv
    obtain rfl := h0.isStr
    obtain ⟨y0, ys, rfl, h1, hL3⟩ := hL2.inv
    exact ⟨ax, u, y0, d0, ys, es, rfl, e, hT, h1, by rw [hL3.len]; exact l, hL3, c1, c2⟩
  cases sm with
  | pl p =>
    obtain ⟨u, d0, es, e, c, l⟩ := pl_two p
    exact go u d0 es (by rw [Sm.d]; exact e) l c fun z => by cases z
  | ifs t y z => exact go "if" t.d [.tuple (Sm.ds y), .tuple (Sm.ds z)] (by rw [Sm.d]) (by simp) (by rw [Sm.parts]; show (["if", "repeat"] : List Str).contains "if" = true; decide +kernel) fun _ => by rw [Sm.parts]; rfl
  | rep k b => exact go "repeat" (.int k) [.tuple (Sm.ds b)] (by rw [Sm.d]) (by simp) (by rw [Sm.parts]; show (["if", "repeat"] : List Str).contains "repeat" = true; decide +kernel) fun _ => by rw [Sm.parts]; rfl
/-- t[2:] -/
theorem r_slF2 {K : PySem.W.Frag} {H : Hp} {Q : VK} {e : Addr} {x y : V} {r : List V} (h : SqT K H e (x :: y :: r)) (q : ∀ (H' : Hp) (c : Addr), Kp [] H H' → SqT K H' c r → Q (.ref c) H') : rSlA K (.ref e) (some ((2 : Nat) : Int)) none H Q := by
  have e2 : cutV (x :: y :: r) (some ((2 : Nat) : Int)) none = r := by
    unfold cutV
    rw [HT.sIx_none, HT.sIx_nat]
    simp
  refine ⟨e, _, rfl, h, fun hw => ?_, fun _ p hp => ?_⟩
  · exfalso
    have h2 := hw.1
    rw [HT.sIx_nat] at h2
    simp only [List.length_cons] at h2
    omega
  · rw [e2]
    exact q _ p (Kp.nil.new hp) (SqT.of upd_same)
theorem VdB.up {n : Nat} {b : List Sm} (h : VdB n b) : VdB (n + 1) b := by
  cases n with
  | zero =>
    rw [show b = [] from h]
    exact fun s hs => by cases hs
  | succ n => exact fun s hs => Sm.vd.upB n s (h s hs)
end Aw
namespace Aw
open PySem PySem.Spec PyProof.Rows L2
theorem Oc.nil0 {H : Hp} : Oc [] H := fun a m => by cases m
/-- one of the items of a tuple -/
def spOneT (K : PySem.W.Frag) : Sp := fun vs H Q _ => ∃ (d c a : Addr) (n : Int) (xs : List V), vs = [.ref d, .ref a] ∧ Deck H d c n ∧ n < 10 ^ 12 ∧ SqT K H a xs ∧
  1 ≤ xs.length ∧ xs.length < 2 ^ 30 ∧ ∀ (H' : Hp) (i : Nat) (x : V), xs[i]? = some x → Deck H' d c (n + 1) → Kp [d, c] H H' → Q x H'
def spOneW (K : PySem.W.Frag) : Sp := fun vs H Q E => ∃ b : Bool, (if b then spOne K else spOneT K) vs H Q E
theorem spOneW.list {K : PySem.W.Frag} {H : Hp} {Q : VK} {E : XK} {vs : List V} (h : spOne K vs H Q E) : spOneW K vs H Q E := ⟨true, by rw [if_pos rfl]; exact h⟩
theorem spOneW.tup {K : PySem.W.Frag} {H : Hp} {Q : VK} {E : XK} {vs : List V} (h : spOneT K vs H Q E) : spOneW K vs H Q E := ⟨false, by rw [if_neg (by decide)]; exact h⟩
/-- [at for at in range(len(rows)) if rows[at] reads] -/
theorem lc_readers {tt : TT} {te : TE} {ws : List Nat} {σ : L2.St} {H : Hp} {Q : VK} {j n : Nat} (f : Nat → Bool) (hz : n ≤ 1000)
    (ht : ∀ (i : Nat) (H' : Hp) (R : Bool → Hp → Prop), i < n → Kp [] H H' → (∀ H'', Kp [] H' H'' → R (f i) H'') → tt ((wipe σ ws).set j (some (.int (i : Nat)))) H' R)
    (he : ∀ (i : Nat) (H' : Hp) (R : VK), R (.int (i : Nat)) H' → te ((wipe σ ws).set j (some (.int (i : Nat)))) H' R)
    (hw : ∀ v : V, wipe ((wipe σ ws).set j (some v)) ws = wipe σ ws)
    (h : ∀ (q : Addr) (H' : Hp), H q = none → Kp [] H H' → H' q = some (.lst ((((List.range n).filter f).map Int.ofNat).map V.int)) → Q (.ref q) H') : LcR (gName j) tt te ws σ Q [.int (n : Nat)] H := by
  refine r_LcR (by omega) (by omega) fun q hq => ⟨fun i H' => Kp [] H H' ∧ H' q = some (.lst ((((List.range i).filter f).map Int.ofNat).map V.int)), ⟨Kp.nil.new hq, upd_same⟩, ?_, ?_⟩
  · rintro i H' hi ⟨k1, hq1⟩
    rw [Int.toNat_natCast] at hi
    have hr : List.range (i + 1) = List.range i ++ [i] := List.range_succ
    refine r_name (r_LcTurn (hw _) (ht i H' _ hi k1 fun H'' k2 => ?_))
    have hq2 := k2.get hq1 (by simp)
    have k12 := k1.trans k2
    cases hf : f i with
    | true =>
      rw [if_pos rfl]
      refine he i H'' _ (r_LcEnd hq2 ?_ ⟨k12.own hq, ?_⟩)
      · have q1 := List.length_filter_le f (List.range i)
        rw [List.length_range] at q1
        rw [List.length_map, List.length_map, sizeLine_eq]
        omega
      · rw [upd_same, hr, List.filter_append, List.filter_cons_of_pos (by exact hf), List.map_append, List.map_append]
        rfl
    | false =>
      rw [if_neg (by decide)]
      refine ⟨k12, ?_⟩
      rw [hr, List.filter_append, List.filter_cons_of_neg (by rw [hf]; decide), List.filter_nil, List.append_nil]
      exact hq2
  · rintro H' ⟨k1, hq1⟩
    rw [Int.toNat_natCast] at hq1
    exact h q H' hq k1 hq1
theorem DwL.ints {M : List Addr} {K : PySem.W.Frag} {H : Hp} (l : List Int) : DwL M K H (l.map V.int) (l.map PyData.int) := by
  refine ⟨by rw [List.length_map, List.length_map], fun i v d e e' => ?_⟩
  rw [List.getElem?_map] at e e'
  obtain ⟨x, hx, rfl⟩ := Option.map_eq_some_iff.mp e
  rw [hx] at e'
  cases e'
  exact .int x
theorem VP.made {b : List Sm} (h : ∀ s ∈ b, Sm.vd 3 s) (hs : Sm.sizes b ≤ 24) (h1 : Sm.cnts "weight" b ≤ 30) (h2 : Sm.cnts "rest" b ≤ 2) (h3 : Sm.cnts "less" b ≤ 2) : VP b := by
  refine ⟨h, hs, ?_⟩
  rw [perr_vd h, lim, if_neg (by omega), if_neg (by omega), if_neg (by omega), if_neg (by omega)]
theorem BnS.kpM {K : PySem.W.Frag} {H H1 : Hp} {M : List Addr} {v : V} {C a dx f g l un : Addr} {xs : List V} {b : List Sm} {fx : List Int} (h : BnS K H C a dx v f g l un xs b fx) (k : Kp M H H1) (n1 : a ∉ M) (n2 : l ∉ M) : BnS K H1 C a dx v f g l un xs b fx :=
  ⟨k.get h.ins n1, k.get h.lst n2, h.st.kpM k⟩
theorem BnS.nin {K : PySem.W.Frag} {H : Hp} {v : V} {C a dx f g l un d c : Addr} {xs : List V} {b : List Sm} {fx : List Int} {n : Int} (h : BnS K H C a dx v f g l un xs b fx) (D : Deck H d c n) : a ∉ [d, c] ∧ d ∉ [a] ∧ c ∉ [a] := by
  obtain ⟨cs, hc, _⟩ := D.hc
  have h1 : a ≠ d := fun e => by
    have q := h.ins
    rw [e, D.hd] at q
    cases q
  have h2 : a ≠ c := fun e => by
    have q := h.ins
    rw [e, hc] at q
    cases q
  exact ⟨by simp [h1, h2], by simp [Ne.symm h1], by simp [Ne.symm h2]⟩
theorem Deck.nin {H : Hp} {d c p : Addr} {n : Int} (D : Deck H d c n) (h : H p = none) : p ∉ [d, c] := by
  have f := D.fresh h
  simp [f.1, f.2]
theorem lst_ne {H : Hp} {p a C dx : Addr} {xs : List V} {fs : List (Str × V)} (h : H p = some (.lst xs)) (hI : H a = some (.ins C dx fs)) : p ∉ [a] := fun m => by
  rw [List.mem_singleton.mp m, hI] at h
  cases h
theorem spItemsX.old {K : PySem.W.Frag} {vs : List V} {H : Hp} {Q : VK} {E : XK} (h : spItems K vs H Q E) : spItemsX K vs H Q E := by
  obtain ⟨M, v, d, n, rfl, hd, hs, hz, k⟩ := h
  obtain ⟨bs, hb⟩ := InV.ex hd hs
  have hfl := hb.flat.2
  refine ⟨_, v, d, n, bs, rfl, hb, hz, fun H' p xs h1 h2 h3 h4 => k H' p xs h1 h2 h3 ⟨by rw [h4.len, List.length_reverse, List.length_reverse, List.length_map, List.length_map, hfl.len], fun i u q e e' => ?_⟩⟩
  have hi : i < (inner d).length := by
    have := (List.getElem?_eq_some_iff.mp e').1
    rwa [List.length_reverse, List.length_map] at this
  rw [List.getElem?_reverse (by rw [List.length_map]; exact hi), List.length_map, List.getElem?_map] at e'
  obtain ⟨dd, hdd, rfl⟩ := Option.map_eq_some_iff.mp e'
  have hlt : (inner d).length - 1 - i < bs.flatten.length := by rw [hfl.len]; omega
  obtain ⟨y, hy⟩ : ∃ y, bs.flatten[(inner d).length - 1 - i]? = some y := ⟨_, List.getElem?_eq_getElem hlt⟩
  obtain ⟨b, rfl, hb2⟩ := h4.all i u (n + 1, y) e (by
    rw [List.getElem?_reverse (by rw [List.length_map, hfl.len]; exact hi), List.length_map, hfl.len, List.getElem?_map, hy]
    rfl)
  exact ⟨b, y, rfl, hb2, (hfl.all _ y dd hy hdd).kp0 h2⟩
theorem rdP_lt {b : List Sm} : ∀ x ∈ rdP b, 0 ≤ x ∧ x < (Sm.sizes b : Int) := by
  intro x hx
  obtain ⟨i, hi, rfl⟩ := List.mem_map.mp hx
  have q := List.mem_range.mp (List.mem_filter.mp hi).1
  exact ⟨Int.natCast_nonneg i, Int.ofNat_lt.mpr q⟩
end Aw
namespace Aw
open PySem PySem.Spec PyProof.Rows L2
/-- a method that has defaults stands in the top -/
def DfMD (K : PySem.W.Frag) (C : Addr) (m q : Str) (st : Stmt) (ps : List Str) : Prop :=
  ∃ (f : Addr) (fd : FuncData), (∃ (oc : Value) (od : Option Addr) (dV kV doc pm : Value) (an : Option Addr) (cdv ct : Value) (osl : Array (Option Value)), fd = PySem.W.fnOf m q (defArgs st) (defBody st) (defScope st) dV kV doc pm an cdv ct ∧
    K.lookup f = some ⟨oc, od, .func fd, osl⟩ ∧ PySem.W.codeIn K cdv q = true) ∧ Meth K C m f ∧ Binds K fd ps []
section
variable {P : Program} {w : World} {K : PySem.W.Frag} {mg : Str → Option Value} {base : Heap} {C : Addr} {m q : Str} {st : Stmt} {ps N : List Str} {k : Nat} {sp : Sp}
theorem DfMD.has (d : DfMD K C m q st ps) (S : FnScope N ps (defScope st)) (len : ∀ vs H Q E, sp vs H Q E → vs.length = ps.length)
    (hb : ∀ (f : Addr) (cdv : Value) (A : Around) (outer : List Env) (s : Shared) (H : Hp) (vs : List V) (Q : VK) (E : XK),
      RoomG k (A.deeper (PyProof.Rows.envOfC q (defScope st) s.heap.objs.size f cdv)) → sp vs H Q E →
      ∃ t, PSs (cxOf CX0 P w K mg base N q (defScope st) f cdv A outer s H E).nox (defBody st) t ∧
        t { nx := fun _ H' => Q .non H', rt := Q } (start N vs) H) : HasM P w K mg base CX0 C m ps (k + 1) sp := by
  obtain ⟨f, fd, ⟨oc, od, dV, kV, doc, pm, an, cdv, ct, osl, rfl, lk, hcd⟩, mm, b⟩ := d
  refine ⟨f, _, ⟨oc, od, osl, lk⟩, mm, b, fnG_of lk hcd S len fun A outer s H vs Q E hr hsp => ?_⟩
  obtain ⟨t, h, q⟩ := hb f cdv A outer s H vs Q E hr hsp
  exact ⟨t, h.nox, q⟩
theorem dfmD_hd {x : Str} {fd : FuncData} {dv : V} (F : FunD K m q (defArgs st) (defBody st) (defScope st) [dv] [] (He.ma K (He.ga K x) m) fd) (a : (He.Fa.meth x m).ok K = true)
    (h : ∀ (T : Addr) (kV doc pm : Value) (an : Option Addr) (cdv ct : Value) (us : List Value) (it : Value), us.length = ps.length →
      ∃ k, bindArgs (PySem.W.fnOf m q (defArgs st) (defBody st) (defScope st) (.ref T) kV doc pm an cdv ct) ⟨us, []⟩ = seqItems? (.ref T) >>= k ∧ k (some [it].toArray) = pure (ps.zip us)) : DfMD K (He.ga K x) m q st ps := by
  obtain ⟨ds, hv, hb⟩ := F.binds1 (ps := ps) ps.length 1 (by simp) (by simp) fun T kV doc pm an cdv ct us its h1 h2 => by
    obtain ⟨it, rfl⟩ : ∃ it, its = [it] := by
      match its, h2 with
      | [it], _ => exact ⟨it, rfl⟩
    obtain ⟨k, e1, e2⟩ := h T kV doc pm an cdv ct us it h1
    exact ⟨k, e1, by rw [e2, List.drop_of_length_le (by simp), List.append_nil]⟩
  rw [List.drop_of_length_le (by simp)] at hv
  cases hv
  obtain ⟨oc, od, dV, kV, doc, pm, an, cdv, ct, osl, e, lk, hcd, _, _⟩ := F.ex
  exact ⟨_, fd, ⟨oc, od, dV, kV, doc, pm, an, cdv, ct, osl, e, lk, hcd⟩, He.meth_ok a, hb⟩
theorem HasC.of8 {CX : CXT} {x : Str} (h : HasM P w K mg base CX C "__init__" ps k sp)
    (m1 : PySem.W.makesIn K C = true) (kc : PySem.W.keepIn K (.ref C) = true) (m : mg x = some (.ref C)) : HasC P w K mg base CX x C ps k sp := by
  obtain ⟨f, fd, _, M, b, F⟩ := h
  exact ⟨f, fd, ⟨m1, M.at_, M.fn, kc⟩, m, b, F⟩
end
end Aw
namespace Aw
open PySem PySem.Spec PyProof.Rows L2
/-- what stands of an error's class without an own __init__ -/
structure Er0 (K : PySem.W.Frag) (mg : Str → Option Value) (x : Str) (C : Addr) : Prop where
  at_ : mg x = some (.ref C)
  q : PySem.W.excIn K C veT "ValueError.__new__" = true
  kC : PySem.W.keepIn K (.ref C) = true
  sub : PySem.W.subIn K (.ref C) (.type "BaseException") = some true
  ty : PySem.W.typeIn K (.ref C) = some (.type "type")
theorem pmk_er0 {X : Cx} {C : Addr} {x : Str} {p pos : Pos} (e : Er0 X.K X.mg x C) (hg : Gl X x) (hdb : (x == ("__debug__" : Str)) = false := by decide) : PMk X (.Call (.Name x p) [] [] pos) (fun _ H Q => Q (.ref C) none H) := by
  intro pins s σ H Q I h
  refine wpAny_Call_Name_kw (ld_glob I hg e.at_ ?_ hdb)
  refine PySem.W.callWith_K0 (first := []) I.kIn e.kC ?_
  show wpAny _ _ (call (.ref C) []) _ _ _
  obtain ⟨bm, N, nm, qn, bs, hdct, sn, sub, ab, col, dd, k0, k1, k2, k3, k5, mN, hC, hN, hni, T⟩ := exc_obj I.kIn e.q
  refine wpAny_call_exc_subT PySem.F.excBase_ValueError T hC hN hni (fun h' a hm => ?_) (Nat.zero_le _)
  exact mk_of I hm (raises_own e.sub e.ty) h (I.hok.gone hm.new)
def HasMK (P : Program) (w : World) (K : PySem.W.Frag) (mg : Str → Option Value) (base : Heap) (CX : CXT) (C : Addr) (m : Str) (ps : List Str) (dvs : List V) (k : Nat) (sp : Sp) : Prop :=
  ∃ (f : Addr) (fd : FuncData), (∃ oc od osl, K.lookup f = some ⟨oc, od, .func fd, osl⟩) ∧ Meth K C m f ∧ (∃ ds, Vals dvs ds ∧ Binds K fd ps ds) ∧ FnG P w K mg base CX k f fd ps sp
def DfMK (K : PySem.W.Frag) (C : Addr) (m q : Str) (st : Stmt) (ps : List Str) (dvs : List V) : Prop :=
  ∃ (f : Addr) (fd : FuncData), (∃ (oc : Value) (od : Option Addr) (dV kV doc pm : Value) (an : Option Addr) (cdv ct : Value) (osl : Array (Option Value)), fd = PySem.W.fnOf m q (defArgs st) (defBody st) (defScope st) dV kV doc pm an cdv ct ∧
    K.lookup f = some ⟨oc, od, .func fd, osl⟩ ∧ PySem.W.codeIn K cdv q = true) ∧ Meth K C m f ∧ ∃ ds, Vals dvs ds ∧ Binds K fd ps ds
section
variable {P : Program} {w : World} {K : PySem.W.Frag} {mg : Str → Option Value} {base : Heap} {C : Addr} {m q : Str} {st : Stmt} {ps N : List Str} {dvs : List V} {k : Nat} {sp : Sp}
theorem DfMK.has (d : DfMK K C m q st ps dvs) (S : FnScope N ps (defScope st)) (len : ∀ vs H Q E, sp vs H Q E → vs.length = ps.length)
    (hb : ∀ (f : Addr) (cdv : Value) (A : Around) (outer : List Env) (s : Shared) (H : Hp) (vs : List V) (Q : VK) (E : XK),
      RoomG k (A.deeper (PyProof.Rows.envOfC q (defScope st) s.heap.objs.size f cdv)) → sp vs H Q E →
      ∃ t, PSs (cxOf CX0 P w K mg base N q (defScope st) f cdv A outer s H E).nox (defBody st) t ∧
        t { nx := fun _ H' => Q .non H', rt := Q } (start N vs) H) : HasMK P w K mg base CX0 C m ps dvs (k + 1) sp := by
  obtain ⟨f, fd, ⟨oc, od, dV, kV, doc, pm, an, cdv, ct, osl, rfl, lk, hcd⟩, mm, b⟩ := d
  refine ⟨f, _, ⟨oc, od, osl, lk⟩, mm, b, fnG_of lk hcd S len fun A outer s H vs Q E hr hsp => ?_⟩
  obtain ⟨t, h, q⟩ := hb f cdv A outer s H vs Q E hr hsp
  exact ⟨t, h.nox, q⟩
theorem dfmK_hd {x y : Str} {fd : FuncData} {dv : V} (F : FunD K m q (defArgs st) (defBody st) (defScope st) [] [(y, dv)] (He.ma K (He.ga K x) m) fd) (a : (He.Fa.meth x m).ok K = true) (hl : 1 ≤ ps.length)
    (h : ∀ (D : Addr) (doc pm : Value) (an : Option Addr) (cdv ct : Value) (us : List Value) (k0 : Value), us.length + 1 = ps.length →
      KwChain D [(y, k0)] (bindArgs (PySem.W.fnOf m q (defArgs st) (defBody st) (defScope st) .none (.ref D) doc pm an cdv ct) ⟨us, []⟩) (ps.zip (us ++ [k0]))) : DfMK K (He.ga K x) m q st ps [dv] := by
  have hb := F.binds0 (ps := ps) (ps.length - 1) (by simp) (by simp; omega) fun D doc pm an cdv ct us ks h1 h2 => by
    match ks, h2 with
    | [k0], _ => exact h D doc pm an cdv ct us k0 (by omega)
  obtain ⟨oc, od, dV, kV, doc, pm, an, cdv, ct, osl, e, lk, hcd, _, _⟩ := F.ex
  exact ⟨_, fd, ⟨oc, od, dV, kV, doc, pm, an, cdv, ct, osl, e, lk, hcd⟩, He.meth_ok a, hb⟩
end
section
variable {X : Cx} {CX : CXT} {k : Nat} {C : Addr} {ps : List Str} {sp : Sp} {E : XK} {m : Str} {pos apos : Pos} {o : Expr} {ta : TE} {dvs : List V}
/-- o.m(), the rest are defaults -/
theorem pe_m0K {pl : Sem Bool} (F : HasMK X.prog X.w X.K X.mg X.base CX C m ps dvs k sp) (c : Cls X.K C) (hr : RoomG k X.A) (hx : Passes CX X E) (he : PE X o ta)
    (ht : eval (.Call (.Attribute o m apos) [] [] pos) X.env = (do
      let ov ← eval o X.env
      standAt apos.atName
      let (f, first) ← holding [ov] (getMethod ov m pl)
      callWith pos f first (backTo pos (starEach [] X.env)) (backToKw pos (keywordEach [] X.env))) := by rfl) :
    PE X (.Call (.Attribute o m apos) [] [] pos) (tMeth C m sp dvs E ta tNil) := by
  obtain ⟨f, fd, _, hm, ⟨ds, hv, hb⟩, F⟩ := F
  refine ⟨fun pins s σ H Q I h => ?_⟩
  refine PySem.W.methodCall_KW (pl := pl) (thn (he.run pins s σ H _ I h) fun u s1 ⟨x, H1, I1, rx, a, dx, fs, ex, ea, l, q⟩ => ?_) ht
  subst ex
  obtain rfl : u = Value.ref a := rx
  refine getmeth_ok I1 ea c hm l ?_
  refine PySem.W.callWith_K0 (first := [.ref a]) I1.kIn hm.kp ?_
  have q : sp (V.ref a :: ([] ++ dvs)) H1 Q E := q
  have rv : Vals (V.ref a :: dvs) (Value.ref a :: ds) := .cons rfl hv
  have hl : ([Value.ref a] ++ ds).length = ps.length := by
    have e := F.len _ _ _ _ q
    have e2 := rv.length
    simp only [List.nil_append] at e
    rw [← e, e2]
    rfl
  have bb := hb s1 [Value.ref a] I1.kIn hl
  refine wpAny_call (codeAny_mono (F.run X.A X.stack s1 H1 ⟨[.ref a], []⟩ ([.ref a] ++ ds) (V.ref a :: dvs) Q E hr I1.env0 bb rv q) fun r s' hq => ?_)
  match r, hq with
  | .error e, hq => exact hx pins σ H1 s1 e s' I1 hq
  | .ok (.ret w), hq => exact I1.after hq
end
end Aw
namespace Aw
open PySem PySem.Spec PyProof.Rows L2
/-- an edit that stands: its data, the program and the fix behind it -/
structure HsT where
  d : PyData
  b : List Sm
  fx : List Int
/-- as it stands in a bench -/
def StE (K : PySem.W.Frag) (H : Hp) (v : V) (x : HsT) : Prop := ∃ (e p f : Addr) (ed w : V), v = .ref e ∧ SqT K H e [ed, .ref p] ∧ Dt K H ed x.d ∧ SqT K H p [w, .ref f] ∧ BSt K H w f x.b x.fx
/-- as it stands in the law's list -/
def LsE (K : PySem.W.Frag) (H : Hp) (v : V) (x : HsT) : Prop := ∃ (e f : Addr) (ed w : V), v = .ref e ∧ SqT K H e [ed, w, .ref f] ∧ Dt K H ed x.d ∧ BSt K H w f x.b x.fx
/-- one behind another -/
structure Row2 (R : V → HsT → Prop) (ys : List V) (xs : List HsT) : Prop where
  len : ys.length = xs.length
  all : ∀ (i : Nat) (v : V) (x : HsT), ys[i]? = some v → xs[i]? = some x → R v x
theorem Row2.nil {R : V → HsT → Prop} : Row2 R [] [] := ⟨rfl, fun i v x e => by simp at e⟩
theorem Row2.imp {R S : V → HsT → Prop} {ys : List V} {xs : List HsT} (h : Row2 R ys xs) (f : ∀ v x, R v x → S v x) : Row2 S ys xs := ⟨h.len, fun i v x e e' => f v x (h.all i v x e e')⟩
theorem Row2.snoc {R : V → HsT → Prop} {ys : List V} {xs : List HsT} {v : V} {x : HsT} (h : Row2 R ys xs) (r : R v x) : Row2 R (ys ++ [v]) (xs ++ [x]) := by
  refine ⟨by simp [h.len], fun i u y e e' => ?_⟩
  by_cases hi : i < ys.length
  · rw [List.getElem?_append_left hi] at e
    rw [List.getElem?_append_left (by rw [← h.len]; exact hi)] at e'
    exact h.all i u y e e'
  · rw [List.getElem?_append_right (by omega)] at e
    rw [List.getElem?_append_right (by rw [← h.len]; omega), ← h.len] at e'
    match q : i - ys.length, e, e' with
    | 0, e, e' => cases e; cases e'; exact r
theorem Row2.last {R : V → HsT → Prop} {ys : List V} {xs : List HsT} {x : HsT} (h : Row2 R ys (xs ++ [x])) : ∃ (zs : List V) (v : V), ys = zs ++ [v] ∧ Row2 R zs xs ∧ R v x := by
  have hl := h.len
  rw [List.length_append, List.length_singleton] at hl
  have hlt : xs.length < ys.length := by omega
  refine ⟨ys.take xs.length, ys[xs.length], ?_, ⟨by rw [List.length_take]; omega, fun i u y e e' => ?_⟩, h.all xs.length _ x (List.getElem?_eq_getElem hlt) (by simp)⟩
  · have q := List.take_append_drop xs.length ys
    rw [List.drop_eq_getElem_cons hlt, List.drop_eq_nil_of_le (by omega)] at q
    exact q.symm
  · have hi : i < xs.length := (List.getElem?_eq_some_iff.mp e').1
    rw [List.getElem?_take, if_pos hi] at e
    exact h.all i u y e (by rw [List.getElem?_append_left hi]; exact e')
section
variable {K : PySem.W.Frag} {H H1 : Hp} {M : List Addr} {v : V} {x : HsT} {ys : List V} {xs : List HsT}
theorem StE.kp (h : StE K H v x) (k : Kp M H H1) : StE K H1 v x := by
  obtain ⟨e, p, f, ed, w, rfl, h1, h2, h3, h4⟩ := h
  exact ⟨e, p, f, ed, w, rfl, sqT_kp k h1, h2.kp k, sqT_kp k h3, h4.kpM k⟩
theorem LsE.kp (h : LsE K H v x) (k : Kp M H H1) : LsE K H1 v x := by
  obtain ⟨e, f, ed, w, rfl, h1, h2, h4⟩ := h
  exact ⟨e, f, ed, w, rfl, sqT_kp k h1, h2.kp k, h4.kpM k⟩
end
/-- what stands at last -/
def curX (x0 : HsT) (xs : List HsT) : HsT := xs.getLast?.getD x0
theorem curX_snoc {x0 x : HsT} {xs : List HsT} : curX x0 (xs ++ [x]) = x := by
  unfold curX
  rw [List.getLast?_concat]
  rfl
/-- a bench with its past -/
structure BnH (K : PySem.W.Frag) (H : Hp) (C a dx l un : Addr) (x0 : HsT) (xs us : List HsT) : Prop where
  ex : ∃ (v w0 : V) (f g f0 : Addr) (ys zs : List V), H a = some (.ins C dx (bnF v f g l un)) ∧ H l = some (.lst ys) ∧ H un = some (.lst zs) ∧ Row2 (StE K H) ys xs ∧ Row2 (StE K H) zs us ∧
    SqT K H g [w0, .ref f0] ∧ BSt K H w0 f0 x0.b x0.fx ∧ BSt K H v f (curX x0 xs).b (curX x0 xs).fx
theorem BnH.kp {K : PySem.W.Frag} {H H1 : Hp} {M : List Addr} {C a dx l un : Addr} {x0 : HsT} {xs us : List HsT} (h : BnH K H C a dx l un x0 xs us) (k : Kp M H H1) (n1 : a ∉ M) (n2 : l ∉ M) (n3 : un ∉ M) : BnH K H1 C a dx l un x0 xs us := by
  obtain ⟨v, w0, f, g, f0, ys, zs, h1, h2, h3, h4, h5, h6, h7, h8⟩ := h.ex
  exact ⟨v, w0, f, g, f0, ys, zs, k.get h1 n1, k.get h2 n2, k.get h3 n3, h4.imp fun _ _ q => q.kp k, h5.imp fun _ _ q => q.kp k, sqT_kp k h6, h7.kpM k, h8.kpM k⟩
theorem BnH.new {K : PySem.W.Frag} {H : Hp} {C a dx l un p : Addr} {o : HO} {x0 : HsT} {xs us : List HsT} (h : BnH K H C a dx l un x0 xs us) (n : H p = none) : BnH K (upd H p o) C a dx l un x0 xs us := h.kp (Kp.nil.new n : Kp [] H (upd H p o)) (by simp) (by simp) (by simp)
theorem BnH.ins {K : PySem.W.Frag} {H : Hp} {C a dx l un : Addr} {x0 : HsT} {xs us : List HsT} (h : BnH K H C a dx l un x0 xs us) : ∃ fs, H a = some (.ins C dx fs) := by
  obtain ⟨v, w0, f, g, f0, ys, zs, h1, _⟩ := h.ex
  exact ⟨_, h1⟩
theorem cur_pair {K : PySem.W.Frag} {H : Hp} {g f0 : Addr} {w0 : V} {x0 : HsT} {ys : List V} {xs : List HsT} (hR : Row2 (StE K H) ys xs) (hg : SqT K H g [w0, .ref f0]) (hS : BSt K H w0 f0 x0.b x0.fx) :
    ∃ (p f : Addr) (w : V), ((ys = [] ∧ p = g) ∨ ∃ (zs : List V) (e : Addr) (ed : V), ys = zs ++ [.ref e] ∧ SqT K H e [ed, .ref p]) ∧ SqT K H p [w, .ref f] ∧ BSt K H w f (curX x0 xs).b (curX x0 xs).fx := by
  rcases List.eq_nil_or_concat xs with rfl | ⟨xs', x, rfl⟩
  · obtain rfl : ys = [] := List.length_eq_zero_iff.mp hR.len
    exact ⟨g, f0, w0, .inl ⟨rfl, rfl⟩, hg, hS⟩
  · rw [List.concat_eq_append] at hR ⊢
    obtain ⟨zs, v, rfl, _, e, p, f, ed, w, rfl, h1, h2, h3, h4⟩ := hR.last
    rw [curX_snoc]
    exact ⟨p, f, w, .inr ⟨zs, e, ed, rfl, h1⟩, h3, h4⟩
theorem cutV_last (ys : List V) (y : V) : cutV (ys ++ [y]) (some (-1)) none = [y] := by
  have e1 : HT.sIx (ys ++ [y]).length 0 (some (-1)) = ys.length := by
    show (if (-1 : Int) < 0 then ((-1 : Int) + ((ys ++ [y]).length : Int)).toNat else min (-1 : Int).toNat (ys ++ [y]).length) = ys.length
    rw [if_pos (by decide), List.length_append, List.length_singleton]
    omega
  unfold cutV
  rw [HT.sIx_none, e1]
  simp
theorem cutV_init (ys : List V) (y : V) : cutV (ys ++ [y]) none (some (-1)) = ys := by
  have e1 : HT.sIx (ys ++ [y]).length (ys ++ [y]).length (some (-1)) = ys.length := by
    show (if (-1 : Int) < 0 then ((-1 : Int) + ((ys ++ [y]).length : Int)).toNat else min (-1 : Int).toNat (ys ++ [y]).length) = ys.length
    rw [if_pos (by decide), List.length_append, List.length_singleton]
    omega
  unfold cutV
  rw [HT.sIx_none, e1]
  simp
theorem spEdM.imp {K : PySem.W.Frag} {A : ErA} {C : Addr} {nm : Str} {vs : List V} {H : Hp} {Q Q' : VK} {E : XK} (h : spEdM K A C nm vs H Q E) (q : ∀ v H', Q v H' → Q' v H') : spEdM K A C nm vs H Q' E := by
  obtain ⟨a, dx, f, g, l, un, v, u, us, xs, b, fx, x, rfl, hB, hx, hV, k⟩ := h
  refine ⟨a, dx, f, g, l, un, v, u, us, xs, b, fx, x, rfl, hB, hx, hV, ?_⟩
  cases hr : dueE b fx x with
  | ok ds fx2 =>
    rw [hr] at k
    exact fun H' w ev f2 l2 u2 e p h1 h2 h3 h4 h5 h6 h7 h8 h9 h10 h11 => q _ _ (k H' w ev f2 l2 u2 e p h1 h2 h3 h4 h5 h6 h7 h8 h9 h10 h11)
  | _ =>
    rw [hr] at k
    exact k
def spUndo (K : PySem.W.Frag) (C U : Addr) : Sp := fun vs H Q E => ∃ (a dx l un : Addr) (x0 : HsT) (xs us : List HsT), vs = [.ref a] ∧ BnH K H C a dx l un x0 xs us ∧ xs.length < 1000 ∧ us.length < 1000 ∧
  (xs = [] → ∀ H', Kp [] H H' → E (.ref U) none H') ∧
  ∀ (zs : List HsT) (x : HsT), xs = zs ++ [x] → ∀ (H' : Hp) (l2 un2 : Addr), H l2 = none → H un2 = none → Kp [a] H H' → BnH K H' C a dx l2 un2 x0 zs (us ++ [x]) → Q (.int ((zs.length : Nat) : Int)) H'
def spState0 (K : PySem.W.Frag) (C : Addr) : Sp := fun vs H Q _ => ∃ (a dx l un : Addr) (x0 : HsT) (xs us : List HsT), vs = [.ref a, .non] ∧ BnH K H C a dx l un x0 xs us ∧
  ∀ (H' : Hp) (p f : Addr) (w : V), Kp [] H H' → SqT K H' p [w, .ref f] → BSt K H' w f (curX x0 xs).b (curX x0 xs).fx → Q (.ref p) H'
end Aw
namespace Aw
open PySem PySem.Spec PyProof.Rows L2
/-- an edit by an item or an operator -/
def isIt : EdD → Bool
  | .add _ => true
  | .drop _ => true
  | .change _ _ => true
  | _ => false
/-- the law's two lists -/
structure LsS (K : PySem.W.Frag) (H : Hp) (S : Addr) (xs : List HsT) : Prop where
  ex : ∃ ys : List V, H S = some (.lst ys) ∧ Row2 (LsE K H) ys xs
theorem LsS.kp {K : PySem.W.Frag} {H H1 : Hp} {M : List Addr} {S : Addr} {xs : List HsT} (h : LsS K H S xs) (k : Kp M H H1) (n : S ∉ M) : LsS K H1 S xs := by
  obtain ⟨ys, h1, h2⟩ := h.ex
  exact ⟨ys, k.get h1 n, h2.imp fun _ _ q => q.kp k⟩
end Aw
namespace Aw
open PySem PySem.Spec PyProof.Rows L2
theorem BnH.edit {K : PySem.W.Frag} {H : Hp} {C a dx l un : Addr} {x0 : HsT} {xs us : List HsT} (h : BnH K H C a dx l un x0 xs us) : ∃ (v : V) (f g : Addr) (ys : List V), BnS K H C a dx v f g l un ys (curX x0 xs).b (curX x0 xs).fx ∧ ys.length = xs.length ∧
    ∀ (x : EdD) (ds : List PyData) (fx2 : List Int) (H' : Hp) (w ev : V) (f2 l2 u2 e p : Addr), dueE (curX x0 xs).b (curX x0 xs).fx x = .ok ds fx2 → Kp [a] H H' → H' a = some (.ins C dx (bnF w f2 g l2 u2)) → H' l2 = some (.lst (ys ++ [.ref e])) → H' u2 = some (.lst []) →
      SqT K H' e [ev, .ref p] → SqT K H' p [w, .ref f2] → Dw [] K H' ev (edD x) → Dw [] K H' w (.tuple ds) → SqT K H' f2 (fx2.map V.int) → ∃ c, ds = Sm.ds c ∧ BnH K H' C a dx l2 u2 x0 (xs ++ [⟨edD x, c, fx2⟩]) [] := by
  obtain ⟨v, w0, f, g, f0, ys, zs, h1, h2, h3, h4, h5, h6, h7, h8⟩ := h.ex
  refine ⟨v, f, g, ys, ⟨h1, h2, h8⟩, h4.len, fun x ds fx2 H' w ev f2 l2 u2 e p hd k hI hL hU he hp hev hw hs => ?_⟩
  obtain ⟨c, rfl, hS⟩ := h8.due hd hw hs
  exact ⟨c, rfl, w, w0, f2, g, f0, _, [], hI, hL, hU, (h4.imp fun _ _ q => q.kp k).snoc ⟨e, p, f2, ev, w, rfl, he, hev.dt (due_tpl hd), hp, hS⟩, .nil, sqT_kp k h6, h7.kpM k, by rw [curX_snoc]; exact hS⟩
end Aw
namespace Aw
open PySem PySem.Spec PyProof.Rows L2
def EdOk (x : HsT) : Prop := Dok x.d 4820 15 ∧ tplD x.d = true
/-- the last row of the law's list -/
theorem LsS.last {K : PySem.W.Frag} {H : Hp} {S : Addr} {x0 : HsT} {xs : List HsT} (h : LsS K H S (x0 :: xs)) : ∃ (zs : List V) (e f : Addr) (ed w : V), H S = some (.lst (zs ++ [.ref e])) ∧ zs.length = xs.length ∧ Row2 (LsE K H) (zs ++ [.ref e]) (x0 :: xs) ∧ SqT K H e [ed, w, .ref f] ∧ Dt K H ed (curX x0 xs).d ∧ BSt K H w f (curX x0 xs).b (curX x0 xs).fx := by
  obtain ⟨ys, h1, h2⟩ := h.ex
  rcases List.eq_nil_or_concat xs with rfl | ⟨xs', x, rfl⟩
  · have h3 : Row2 (LsE K H) ys ([] ++ [x0]) := h2
    obtain ⟨zs, v, rfl, h4, e, f, ed, w, rfl, a, b, c⟩ := h3.last
    exact ⟨zs, e, f, ed, w, h1, h4.len, h2, a, b, c⟩
  · rw [List.concat_eq_append] at h2 ⊢
    have h3 : Row2 (LsE K H) ys ((x0 :: xs') ++ [x]) := h2
    obtain ⟨zs, v, rfl, h4, e, f, ed, w, rfl, a, b, c⟩ := h3.last
    rw [curX_snoc]
    refine ⟨zs, e, f, ed, w, h1, ?_, h2, a, b, c⟩
    have := h4.len
    rw [List.length_cons] at this
    rw [List.length_append, List.length_singleton]
    exact this
end Aw
namespace Aw
open PySem PySem.Spec PyProof.Rows L2
structure LwS (K : PySem.W.Frag) (C d c nm S bo dx : Addr) (nms : List Str) (x0 : HsT) (U l un : Addr) (n : Int) (xs us : List HsT) (H : Hp) : Prop where
  D : Deck H d c n
  N : NmsW H nm nms
  LS : LsS K H S (x0 :: xs)
  LU : LsS K H U us
  B : BnH K H C bo dx l un x0 xs us
  ex : ∀ x ∈ xs, EdOk x
  eu : ∀ x ∈ us, EdOk x
  nS : S ∉ [d, c, nm]
  nU : U ∉ [d, c, nm, S]
  nl : l ∉ [d, c, S, U]
  nu : un ∉ [d, c, S, U]
  nn : nm ∉ [d, c]
section
variable {K : PySem.W.Frag} {C d c nm S bo dx U l un : Addr} {nms : List Str} {x0 : HsT} {n n' : Int} {xs us : List HsT} {H H1 : Hp}
theorem LsS.lst {S : Addr} {xs : List HsT} (h : LsS K H S xs) : ∃ ys, H S = some (.lst ys) := by
  obtain ⟨ys, h1, _⟩ := h.ex
  exact ⟨ys, h1⟩
theorem LwS.bn (h : LwS K C d c nm S bo dx nms x0 U l un n xs us H) : bo ∉ [d, c, nm, S, U] ∧ d ∉ [bo] ∧ c ∉ [bo] ∧ nm ∉ [bo] ∧ S ∉ [bo] ∧ U ∉ [bo] := by
  obtain ⟨fs, hI⟩ := h.B.ins
  obtain ⟨ys, hS⟩ := h.LS.lst
  obtain ⟨zs, hU⟩ := h.LU.lst
  obtain ⟨cs, hc, _⟩ := h.D.hc
  have e1 := lst_ne h.D.hd hI
  have e2 := lst_ne hc hI
  have e3 := lst_ne h.N.h hI
  have e4 := lst_ne hS hI
  have e5 := lst_ne hU hI
  simp only [List.mem_singleton] at e1 e2 e3 e4 e5
  refine ⟨by simp [Ne.symm e1, Ne.symm e2, Ne.symm e3, Ne.symm e4, Ne.symm e5], ?_, ?_, ?_, ?_, ?_⟩ <;> (rw [List.mem_singleton]; assumption)
theorem LwS.kp (h : LwS K C d c nm S bo dx nms x0 U l un n xs us H) (k : Kp [] H H1) : LwS K C d c nm S bo dx nms x0 U l un n xs us H1 :=
  ⟨h.D.kp k (by simp) (by simp), h.N.kp k (by simp), h.LS.kp k (by simp), h.LU.kp k (by simp), h.B.kp k (by simp) (by simp) (by simp), h.ex, h.eu, h.nS, h.nU, h.nl, h.nu, h.nn⟩
theorem LwS.deck (h : LwS K C d c nm S bo dx nms x0 U l un n xs us H) (k : Kp [d, c] H H1) (D : Deck H1 d c n') : LwS K C d c nm S bo dx nms x0 U l un n' xs us H1 := by
  have b := h.bn.1
  have q1 := h.nS
  have q2 := h.nU
  have q3 := h.nl
  have q4 := h.nu
  simp only [List.mem_cons, List.not_mem_nil, or_false, not_or] at b q1 q2 q3 q4
  exact ⟨D, h.N.kp k h.nn, h.LS.kp k (by simp [q1]), h.LU.kp k (by simp [q2]), h.B.kp k (by simp [b]) (by simp [q3]) (by simp [q4]), h.ex, h.eu, h.nS, h.nU, h.nl, h.nu, h.nn⟩
/-- what is fresh is none of the lists -/
theorem LwS.nin (h : LwS K C d c nm S bo dx nms x0 U l un n xs us H) {p : Addr} (e : H p = none) : p ∉ [d, c, nm, S, U] := by
  obtain ⟨ys, hS⟩ := h.LS.lst
  obtain ⟨zs, hU⟩ := h.LU.lst
  obtain ⟨cs, hc, _⟩ := h.D.hc
  simp [Ne.symm (ne_of_none h.D.hd e), Ne.symm (ne_of_none hc e), Ne.symm (ne_of_none h.N.h e), Ne.symm (ne_of_none hS e), Ne.symm (ne_of_none hU e)]
/-- the bench over the law's lists -/
theorem LwS.over (h : LwS K C d c nm S bo dx nms x0 U l un n xs us H) (k1 : Kp [S, U] H H1) : BnH K H1 C bo dx l un x0 xs us := by
  have b := h.bn.1
  have q3 := h.nl
  have q4 := h.nu
  simp only [List.mem_cons, List.not_mem_nil, or_false, not_or] at b q3 q4
  exact h.B.kp k1 (by simp [b]) (by simp [q3]) (by simp [q4])
/-- an edit: the law's list grows, what was undone is forgotten -/
theorem LwS.edit (h : LwS K C d c nm S bo dx nms x0 U l un n xs us H) {H2 : Hp} {l2 un2 U2 : Addr} {x : HsT} (k1 : Kp [bo] H H1) (hB : BnH K H1 C bo dx l2 un2 x0 (xs ++ [x]) []) (nl2 : H l2 = none) (nu2 : H un2 = none) (k2 : Kp [S] H1 H2) (hS : LsS K H2 S (x0 :: (xs ++ [x]))) (hU : H2 U2 = some (.lst [])) (nU2 : H1 U2 = none) (hx : EdOk x) :
    LwS K C d c nm S bo dx nms x0 U2 l2 un2 n (xs ++ [x]) [] H2 := by
  have b := h.bn
  have q1 := h.nS
  simp only [List.mem_cons, List.not_mem_nil, or_false, not_or] at q1
  have D1 := h.D.kp k1 h.bn.2.1 h.bn.2.2.1
  have N1 := h.N.kp k1 h.bn.2.2.2.1
  have S1 := h.LS.kp k1 h.bn.2.2.2.2.1
  obtain ⟨ys, hS'⟩ := S1.lst
  obtain ⟨v9, w9, f9, g9, h9, ys9, zs9, hI1, hL1, hUn1, _⟩ := id hB.ex
  have f1 := D1.fresh nU2
  have n2 := h.nin nl2
  have n3 := h.nin nu2
  have b1 := b.1
  simp only [List.mem_cons, List.not_mem_nil, or_false, not_or] at n2 n3 b1
  refine ⟨D1.kp k2 (by simp [Ne.symm q1.1]) (by simp [Ne.symm q1.2.1]), N1.kp k2 (by simp [Ne.symm q1.2.2]), hS, ⟨[], hU, .nil⟩, hB.kp k2 (by simp [b1]) (by simp [n2]) (by simp [n3]), ?_, (fun x hx => by cases hx), h.nS, ?_, ?_, ?_, h.nn⟩
  · intro z hz
    rcases List.mem_append.mp hz with hz | hz
    · exact h.ex z hz
    · rw [List.mem_singleton.mp hz]
      exact hx
  · simp [f1.1, f1.2, Ne.symm (ne_of_none N1.h nU2), Ne.symm (ne_of_none hS' nU2)]
  · simp [n2, ne_of_none hL1 nU2]
  · simp [n3, ne_of_none hUn1 nU2]
end
theorem EdV.hd {K : PySem.W.Frag} {H : Hp} {e : Addr} {u : V} {x : EdD} (h : EdV K H e u x) : ∃ (wd : Str) (r : List V), SqT K H e (.str wd :: r) ∧ (["add", "drop", "change"] : List Str).contains wd = isIt x := by
  cases h with
  | add h _ _ => exact ⟨_, _, h, show (["add", "drop", "change"] : List Str).contains "add" = true from by decide +kernel⟩
  | drop h _ => exact ⟨_, _, h, show (["add", "drop", "change"] : List Str).contains "drop" = true from by decide +kernel⟩
  | change h _ _ _ => exact ⟨_, _, h, show (["add", "drop", "change"] : List Str).contains "change" = true from by decide +kernel⟩
  | hold h _ => exact ⟨_, _, h, show (["add", "drop", "change"] : List Str).contains "hold" = false from by decide +kernel⟩
  | free h _ => exact ⟨_, _, h, show (["add", "drop", "change"] : List Str).contains "free" = false from by decide +kernel⟩
theorem ShwD.mono {d : PyData} {k n k' n' : Nat} (h : ShwD d k n) (hk : k ≤ k') (hn : n ≤ n') : ShwD d k' n' := ⟨h.sh, Nat.le_trans h.dep hk, Nat.le_trans h.len hn⟩
theorem LsS.tail {K : PySem.W.Frag} {H : Hp} {S : Addr} {x0 : HsT} {xs : List HsT} (h : LsS K H S (x0 :: xs)) : ∃ (y0 : V) (ys : List V), H S = some (.lst (y0 :: ys)) ∧ Row2 (LsE K H) ys xs := by
  obtain ⟨ys, h1, h2⟩ := h.ex
  cases ys with
  | nil => have := h2.len; simp at this
  | cons y0 ys =>
    refine ⟨y0, ys, h1, by have := h2.len; simpa using this, fun i v x e e' => h2.all (i + 1) v x (by simpa using e) (by simpa using e')⟩
theorem r_methD {C : Addr} {m : Str} {sp : Sp} {dvs : List V} {E : XK} {ta : TE} {ts : TA} {σ : L2.St} {H : Hp} {Q : VK} (h : ta σ H fun x H1 => ∃ (a dx : Addr) (fs : List (Str × V)), x = .ref a ∧ H1 a = some (.ins C dx fs) ∧ fs.lookup m = none ∧ ts σ H1 fun vs H2 => sp (x :: (vs ++ dvs)) H2 Q E) : tMeth C m sp dvs E ta ts σ H Q := h
theorem whole_nat {n i : Nat} (h : i < n) : isWhole 0 ((n : Int) - 1) (.int (i : Nat)) = true := by
  unfold isWhole
  simp
  omega
end Aw
namespace Aw
open PySem PySem.Spec PyProof.Rows L2
def labS : Sm → Option Str
  | .pl (.set x _) => some x
  | _ => none
def labs (b : List Sm) : List (Option Str) := (Sm.als b).map labS
theorem labs_len (b : List Sm) : (labs b).length = Sm.sizes b := by unfold labs; rw [List.length_map, Sm.als_len]
theorem als_app : ∀ a b : List Sm, Sm.als (a ++ b) = Sm.als a ++ Sm.als b
  | [], b => by rw [Sm.als]; rfl
  | s :: r, b => by rw [List.cons_append, Sm.als, Sm.als, als_app r b, List.append_assoc]
theorem labs_app (a b : List Sm) : labs (a ++ b) = labs a ++ labs b := by unfold labs; rw [als_app, List.map_append]
theorem labs_cons (s : Sm) (r : List Sm) : labs (s :: r) = (Sm.al s).map labS ++ labs r := by unfold labs; rw [Sm.als, List.map_append]
/-- a list with a part of it exchanged -/
def cutL {α : Type} (l : List α) (i k : Nat) (m : List α) : List α := l.take i ++ m ++ l.drop (i + k)
theorem cut_left {α : Type} {a b m : List α} {i k : Nat} (h : i + k ≤ a.length) : cutL (a ++ b) i k m = cutL a i k m ++ b := by
  unfold cutL
  rw [List.take_append_of_le_length (by omega), List.drop_append_of_le_length h, ← List.append_assoc]
theorem cut_right {α : Type} {a b m : List α} {i k : Nat} (h : a.length ≤ i) : cutL (a ++ b) i k m = a ++ cutL b (i - a.length) k m := by
  unfold cutL
  rw [List.take_append, List.drop_append, List.take_of_length_le h, List.drop_eq_nil_of_le (by omega), show i + k - a.length = i - a.length + k by omega]
  simp only [List.nil_append, List.append_assoc]
theorem cut_cons {α : Type} {x : α} {b m : List α} {i k : Nat} : cutL (x :: b) (i + 1) k m = x :: cutL b i k m := by
  unfold cutL
  rw [List.take_succ_cons, show i + 1 + k = (i + k) + 1 by omega, List.drop_succ_cons]
  rfl
mutual
theorem lab_rpS : ∀ (s : Sm) (i : Nat) (ts : List Sm) (st : Sm), (Sm.al s)[i + 1]? = some st → (Sm.al (Sm.rpS s i ts)).map labS = cutL ((Sm.al s).map labS) (i + 1) st.size (labs ts)
  | .pl p, i, ts, st, h => by
    rw [Sm.al] at h
    simp at h
  | .ifs t y z, i, ts, st, h => by
    rw [Sm.al, List.getElem?_cons_succ] at h
    rw [Sm.rpS]
    split
    · rename_i c
      rw [List.getElem?_append_left (by rw [Sm.als_len]; exact c)] at h
      have q := lab_rpB y i ts st h
      have e := als_end y i st h
      rw [Sm.al, Sm.al, List.map_cons, List.map_cons, cut_cons, List.map_append, List.map_append]
      show labS _ :: (labs (Sm.rpB y i ts) ++ labs z) = labS _ :: cutL (labs y ++ labs z) i st.size (labs ts)
      rw [q, cut_left (by rw [labs_len]; exact e)]
      rfl
    · rename_i c
      rw [List.getElem?_append_right (by rw [Sm.als_len]; omega), Sm.als_len] at h
      have q := lab_rpB z _ ts st h
      rw [Sm.al, Sm.al, List.map_cons, List.map_cons, cut_cons, List.map_append, List.map_append]
      show labS _ :: (labs y ++ labs (Sm.rpB z _ ts)) = labS _ :: cutL (labs y ++ labs z) i st.size (labs ts)
      rw [q, cut_right (by rw [labs_len]; omega), labs_len]
      rfl
  | .rep k b, i, ts, st, h => by
    rw [Sm.al, List.getElem?_cons_succ] at h
    have q := lab_rpB b i ts st h
    rw [Sm.rpS, Sm.al, Sm.al, List.map_cons, List.map_cons, cut_cons]
    show labS _ :: labs (Sm.rpB b i ts) = labS _ :: cutL (labs b) i st.size (labs ts)
    rw [q]
    rfl
theorem lab_rpB : ∀ (b : List Sm) (i : Nat) (ts : List Sm) (st : Sm), (Sm.als b)[i]? = some st → labs (Sm.rpB b i ts) = cutL (labs b) i st.size (labs ts)
  | [], i, ts, st, h => by
    rw [Sm.als] at h
    simp at h
  | s :: r, i, ts, st, h => by
    rw [Sm.als] at h
    have hp := Sm.size_pos s
    rw [Sm.rpB, labs_cons]
    by_cases c0 : i = 0
    · rw [if_pos c0]
      subst c0
      rw [List.getElem?_append_left (by rw [Sm.al_len]; exact hp), al_zero] at h
      cases h
      rw [labs_app, cut_left (by rw [List.length_map, Sm.al_len]; omega)]
      unfold cutL
      rw [List.take_zero, List.drop_eq_nil_of_le (by rw [List.length_map, Sm.al_len]; omega), List.nil_append, List.append_nil]
    · rw [if_neg c0]
      by_cases c1 : i < s.size
      · rw [if_pos c1]
        rw [List.getElem?_append_left (by rw [Sm.al_len]; exact c1)] at h
        obtain ⟨j, rfl⟩ : ∃ j, i = j + 1 := ⟨i - 1, by omega⟩
        have q := lab_rpS s j ts st h
        have e := al_end s (j + 1) st h
        rw [labs_cons, Nat.add_sub_cancel, q, cut_left (by rw [List.length_map, Sm.al_len]; exact e)]
      · rw [if_neg c1]
        rw [List.getElem?_append_right (by rw [Sm.al_len]; omega), Sm.al_len] at h
        have q := lab_rpB r _ ts st h
        rw [labs_cons, q, cut_right (by rw [List.length_map, Sm.al_len]; omega), List.length_map, Sm.al_len]
end
/-- some small statements, well made -/
def PlL (ts : List Sm) : Prop := ∀ t ∈ ts, ∃ p : Pl, t = .pl p ∧ p.vd
theorem PlL.vd {ts : List Sm} (h : PlL ts) (n : Nat) : ∀ t ∈ ts, Sm.vd n t := fun t ht => by
  obtain ⟨p, rfl, hp⟩ := h t ht
  cases n <;> exact hp
theorem VdB.mem {n : Nat} {b : List Sm} (h : VdB n b) {s : Sm} (m : s ∈ b) : ∃ k, n = k + 1 ∧ Sm.vd k s := by
  cases n with
  | zero =>
    rw [show b = [] from h] at m
    cases m
  | succ k => exact ⟨k, rfl, h s m⟩
mutual
theorem rpS_vd : ∀ (s : Sm) (n i : Nat) (ts : List Sm), PlL ts → Sm.vd n s → Sm.vd n (Sm.rpS s i ts)
  | .pl p, n, i, ts, _, h => h
  | .ifs t y z, n, i, ts, ht, h => by
    have h' : t.vd 2 ∧ VdB n y ∧ VdB n z := by cases n <;> exact h
    have mk : ∀ y' z', VdB n y' → VdB n z' → Sm.vd n (.ifs t y' z') := fun y' z' a b => by
      cases n with
      | zero => exact ⟨h'.1, a, b⟩
      | succ n => exact ⟨h'.1, a, b⟩
    rw [Sm.rpS]
    split
    · exact mk _ _ (rpB_vd y n i ts ht h'.2.1) h'.2.2
    · exact mk _ _ h'.2.1 (rpB_vd z n _ ts ht h'.2.2)
  | .rep k b, n, i, ts, ht, h => by
    have h' : 0 ≤ k ∧ k ≤ 8 ∧ VdB n b := by cases n <;> exact h
    have q := rpB_vd b n i ts ht h'.2.2
    rw [Sm.rpS]
    cases n with
    | zero => exact ⟨h'.1, h'.2.1, q⟩
    | succ n => exact ⟨h'.1, h'.2.1, q⟩
theorem rpB_vd : ∀ (b : List Sm) (n i : Nat) (ts : List Sm), PlL ts → VdB n b → VdB n (Sm.rpB b i ts)
  | [], n, i, ts, _, h => by
    rw [Sm.rpB]
    exact h
  | s :: r, n, i, ts, ht, h => by
    obtain ⟨k, rfl, hs⟩ := VdB.mem h (List.mem_cons_self ..)
    have hr : VdB (k + 1) r := fun u hu => h u (List.mem_cons_of_mem _ hu)
    rw [Sm.rpB]
    split
    · intro u hu
      rcases List.mem_append.mp hu with hu | hu
      · exact ht.vd k u hu
      · exact hr u hu
    · split
      · have q := rpS_vd s k (i - 1) ts ht hs
        intro u hu
        rcases List.mem_cons.mp hu with rfl | hu
        · exact q
        · exact hr u hu
      · have q := rpB_vd r (k + 1) (i - s.size) ts ht hr
        intro u hu
        rcases List.mem_cons.mp hu with rfl | hu
        · exact hs
        · exact q u hu
end
theorem cnts_app (so : Str) : ∀ a b : List Sm, Sm.cnts so (a ++ b) = Sm.cnts so a + Sm.cnts so b
  | [], b => by rw [List.nil_append, Sm.cnts]; omega
  | s :: r, b => by rw [List.cons_append, Sm.cnts, Sm.cnts, cnts_app so r b]; omega
mutual
theorem rpS_cnt : ∀ (s : Sm) (n i : Nat) (ts : List Sm) (st : Sm) (so : Str), Sm.vd n s → (Sm.al s)[i + 1]? = some st → Sm.cnts so ts ≤ Sm.cnt so st → Sm.cnt so (Sm.rpS s i ts) ≤ Sm.cnt so s
  | .pl p, n, i, ts, st, so, _, h, _ => by
    rw [Sm.al] at h
    simp at h
  | .ifs t y z, n, i, ts, st, so, hv, h, hc => by
    have h' : VdB n y ∧ VdB n z := by cases n <;> exact hv.2
    rw [Sm.al, List.getElem?_cons_succ] at h
    rw [Sm.rpS]
    split
    · rename_i c
      rw [List.getElem?_append_left (by rw [Sm.als_len]; exact c)] at h
      have q := rpB_cnts y n i ts st so h'.1 h hc
      rw [Sm.cnt, Sm.cnt]
      have e : Sm.own so (.ifs t (Sm.rpB y i ts) z) = Sm.own so (.ifs t y z) := rfl
      rw [e]
      omega
    · rename_i c
      rw [List.getElem?_append_right (by rw [Sm.als_len]; omega), Sm.als_len] at h
      have q := rpB_cnts z n _ ts st so h'.2 h hc
      rw [Sm.cnt, Sm.cnt]
      have e : Sm.own so (.ifs t y (Sm.rpB z (i - Sm.sizes y) ts)) = Sm.own so (.ifs t y z) := rfl
      rw [e]
      omega
  | .rep k b, n, i, ts, st, so, hv, h, hc => by
    have h' : 0 ≤ k ∧ k ≤ 8 ∧ VdB n b := by cases n <;> exact hv
    rw [Sm.al, List.getElem?_cons_succ] at h
    have q := rpB_cnts b n i ts st so h'.2.2 h hc
    rw [Sm.rpS, Sm.cnt, Sm.cnt]
    have e : Sm.own so (.rep k (Sm.rpB b i ts)) = Sm.own so (.rep k b) := rfl
    have q2 := Int.mul_le_mul_of_nonneg_right q h'.1
    rw [e]
    omega
theorem rpB_cnts : ∀ (b : List Sm) (n i : Nat) (ts : List Sm) (st : Sm) (so : Str), VdB n b → (Sm.als b)[i]? = some st → Sm.cnts so ts ≤ Sm.cnt so st → Sm.cnts so (Sm.rpB b i ts) ≤ Sm.cnts so b
  | [], n, i, ts, st, so, _, h, _ => by
    rw [Sm.als] at h
    simp at h
  | s :: r, n, i, ts, st, so, hv, h, hc => by
    obtain ⟨k, rfl, hs⟩ := VdB.mem hv (List.mem_cons_self ..)
    have hr : VdB (k + 1) r := fun u hu => hv u (List.mem_cons_of_mem _ hu)
    rw [Sm.als] at h
    have hp := Sm.size_pos s
    rw [Sm.rpB]
    by_cases c0 : i = 0
    · rw [if_pos c0]
      subst c0
      rw [List.getElem?_append_left (by rw [Sm.al_len]; exact hp), al_zero] at h
      cases h
      rw [cnts_app, Sm.cnts]
      omega
    · rw [if_neg c0]
      by_cases c1 : i < s.size
      · rw [if_pos c1]
        rw [List.getElem?_append_left (by rw [Sm.al_len]; exact c1)] at h
        obtain ⟨j, rfl⟩ : ∃ j, i = j + 1 := ⟨i - 1, by omega⟩
        have q := rpS_cnt s k j ts st so hs h hc
        rw [Sm.cnts, Sm.cnts, Nat.add_sub_cancel]
        omega
      · rw [if_neg c1]
        rw [List.getElem?_append_right (by rw [Sm.al_len]; omega), Sm.al_len] at h
        have q := rpB_cnts r (k + 1) _ ts st so hr h hc
        rw [Sm.cnts, Sm.cnts]
        omega
end
theorem VP.lims {b : List Sm} (h : VP b) : Sm.cnts "weight" b ≤ 30 ∧ Sm.cnts "rest" b ≤ 2 ∧ Sm.cnts "less" b ≤ 2 := by
  have q := h.ok
  rw [perr_vd h.vd, lim] at q
  by_cases c0 : Sm.sizes b > 24
  · have := h.size
    omega
  rw [if_neg c0] at q
  by_cases c1 : Sm.cnts "weight" b > 30
  · rw [if_pos c1] at q
    exact absurd q errD_ne
  rw [if_neg c1] at q
  by_cases c2 : Sm.cnts "rest" b > 2
  · rw [if_pos c2] at q
    exact absurd q errD_ne
  rw [if_neg c2] at q
  by_cases c3 : Sm.cnts "less" b > 2
  · rw [if_pos c3] at q
    exact absurd q errD_ne
  exact ⟨by omega, by omega, by omega⟩
theorem Sm.cnt_nn {n : Nat} {s : Sm} (h : Sm.vd n s) (so : Str) : 0 ≤ Sm.cnt so s := by
  have q := Sm.cnts_nonneg (n := n + 1) (so := so) (b := [s]) fun u hu => by rw [List.mem_singleton.mp hu]; exact h
  rw [Sm.cnts, Sm.cnts] at q
  omega
/-- a statement is dropped -/
theorem VP.drops {b : List Sm} {i : Nat} {st : Sm} (h : VP b) (hs : (Sm.als b)[i]? = some st) : VP (Sm.rpB b i []) := by
  have hv := als_vd b 4 h.b4 (Nat.le_refl 4) st (List.mem_of_getElem? hs)
  have hz := rpB_size b i [] st hs
  have l := h.lims
  have sz := h.size
  have c : ∀ so, Sm.cnts so (Sm.rpB b i []) ≤ Sm.cnts so b := fun so => rpB_cnts b 4 i [] st so h.b4 hs (by rw [Sm.cnts]; exact Sm.cnt_nn hv so)
  have d : VdB 4 (Sm.rpB b i []) := rpB_vd b 4 i [] (fun t ht => by cases ht) h.b4
  rw [Sm.sizes] at hz
  exact VP.made d (by omega) (Int.le_trans (c _) l.1) (Int.le_trans (c _) l.2.1) (Int.le_trans (c _) l.2.2)
/-- a small statement is put in the place of a small one -/
theorem VP.puts {b : List Sm} {i : Nat} {p t : Pl} (h : VP b) (hs : (Sm.als b)[i]? = some (.pl p)) (ht : t.vd) : VP (Sm.rpB b i [.pl t]) := by
  have hz := rpB_size b i [.pl t] (.pl p) hs
  have l := h.lims
  have sz := h.size
  have e1 : ∀ q : Pl, (Sm.pl q).size = 1 := fun q => by rw [Sm.size]
  have e2 : Sm.sizes [.pl t] = 1 := by rw [Sm.sizes, Sm.sizes, e1]
  have c : ∀ so, Sm.cnts so (Sm.rpB b i [.pl t]) ≤ Sm.cnts so b := fun so => rpB_cnts b 4 i [.pl t] (.pl p) so h.b4 hs (by
    rw [Sm.cnts, Sm.cnts, Sm.cnt, Sm.cnt]
    show Sm.own so (.pl t) + 0 ≤ Sm.own so (.pl p)
    rw [show Sm.own so (.pl t) = Sm.own so (.pl p) from rfl]
    omega)
  have d : VdB 4 (Sm.rpB b i [.pl t]) := rpB_vd b 4 i [.pl t] (fun u hu => ⟨t, List.mem_singleton.mp hu, ht⟩) h.b4
  rw [e1, e2] at hz
  exact VP.made d (by omega) (Int.le_trans (c _) l.1) (Int.le_trans (c _) l.2.1) (Int.le_trans (c _) l.2.2)
end Aw
namespace Aw
open PySem PySem.Spec PyProof.Rows L2
def leS (a b : Str) : Prop := ltCps b.cps.toList a.cps.toList = false
theorem leS_iff {a b : Str} : leS a b ↔ a.cps.toList ≤ b.cps.toList := by
  unfold leS
  rw [ltCps_eq, decide_eq_false_iff_not]
  exact Iff.rfl
theorem leS_trans {a b c : Str} (h : leS a b) (g : leS b c) : leS a c := by
  rw [leS_iff] at h g ⊢
  exact List.le_trans h g
theorem leS_anti {a b : Str} (h : leS a b) (g : leS b a) : a = b := by
  rw [leS_iff] at h g
  have q := List.le_antisymm h g
  cases a
  cases b
  simp only at q
  rw [Array.toList_inj.mp q]
theorem rising_pw : ∀ (p : Str) (l : List Str), risingS p l = true → (p :: l).Pairwise leS
  | p, [], _ => by simp
  | p, x :: r, h => by
    have h : (!ltCps x.cps.toList p.cps.toList && risingS x r) = true := h
    rw [Bool.and_eq_true, Bool.not_eq_true'] at h
    have q := rising_pw x r h.2
    rw [List.pairwise_cons]
    refine ⟨fun y hy => ?_, q⟩
    rcases List.mem_cons.mp hy with rfl | hy
    · exact h.1
    · exact leS_trans h.1 ((List.pairwise_cons.mp q).1 y hy)
theorem sorted_pw {l : List Str} (h : sortedS l = true) : l.Pairwise leS := by
  cases l with
  | nil => simp
  | cons x r => exact rising_pw x r h
theorem sortedS_eq {a b : List Str} (h : a.Perm b) (ha : sortedS a = true) (hb : sortedS b = true) : a = b :=
  List.Perm.eq_of_pairwise (fun x y _ _ h1 h2 => leS_anti h1 h2) (sorted_pw ha) (sorted_pw hb) h
def mkN (j : Nat) : Str := "h" ++ Str.ofString (toString (j : Int))
def decN (x : Str) : Nat := (x.cps.toList.drop 1).foldl (fun a c => a * 10 + (c - 48)) 0
theorem mkN_dec {j : Nat} (h : j < 200) : decN (mkN j) = j := by
  have q : ((List.range 200).all fun j => decide (decN (mkN j) = j)) = true := by decide +kernel
  exact of_decide_eq_true (List.all_eq_true.mp q j (List.mem_range.mpr h))
theorem mkN_inj {i j : Nat} (hi : i < 200) (hj : j < 200) (h : mkN i = mkN j) : i = j := by
  rw [← mkN_dec hi, ← mkN_dec hj, h]
theorem mkN_name {j : Nat} (h : j < 200) : isNameS (mkN j) = true := by
  have q : ((List.range 200).all fun j => isNameS (mkN j)) = true := by decide +kernel
  exact List.all_eq_true.mp q j (List.mem_range.mpr h)
def nmI (L : List (Option Str)) (i : Int) : Str := (L[i.toNat]?.join).getD ""
def nmsL (L : List (Option Str)) (fx : List Int) : List Str := fx.map (nmI L)
def setAt (L : List (Option Str)) (i : Int) : Prop := 0 ≤ i ∧ ∃ x, L[i.toNat]? = some (some x)
theorem nm_at {L : List (Option Str)} {i : Int} {x : Str} (h : L[i.toNat]? = some (some x)) : nmI L i = x := by
  unfold nmI
  rw [h]
  rfl
theorem fm_mem {L : List (Option Str)} {i : Nat} {x : Str} (h : L[i]? = some (some x)) : x ∈ L.filterMap id := List.mem_filterMap.mpr ⟨some x, List.mem_of_getElem? h, rfl⟩
theorem fm_inj : ∀ {L : List (Option Str)} {i j : Nat} {x : Str}, (L.filterMap id).Nodup → L[i]? = some (some x) → L[j]? = some (some x) → i = j
  | [], i, j, x, _, h, _ => by simp at h
  | o :: L, 0, 0, x, _, _, _ => rfl
  | o :: L, 0, j + 1, x, n, h, g => by
    cases h
    have n : (x :: L.filterMap id).Nodup := n
    rw [List.nodup_cons] at n
    exact absurd (fm_mem (by simpa using g)) n.1
  | o :: L, i + 1, 0, x, n, h, g => by
    cases g
    have n : (x :: L.filterMap id).Nodup := n
    rw [List.nodup_cons] at n
    exact absurd (fm_mem (by simpa using h)) n.1
  | o :: L, i + 1, j + 1, x, n, h, g => by
    have n2 : (L.filterMap id).Nodup := by
      cases o with
      | none => exact n
      | some y =>
        have n : (y :: L.filterMap id).Nodup := n
        rw [List.nodup_cons] at n
        exact n.2
    have q := fm_inj n2 (by simpa using h : L[i]? = some (some x)) (by simpa using g)
    omega
/-- a program's labels with a fix: unlike names, the first m marks -/
structure OkL (m : Nat) (L : List (Option Str)) (fx : List Int) : Prop where
  nd : (L.filterMap id).Nodup
  mr : ∀ x ∈ L.filterMap id, ∃ j, j < m ∧ x = mkN j
  st : ∀ i ∈ fx, setAt L i
  asc : fx.Pairwise (· < ·)
/-- new labels -/
structure NwL (m m' : Nat) (M : List (Option Str)) : Prop where
  le : m ≤ m'
  nd : (M.filterMap id).Nodup
  mr : ∀ x ∈ M.filterMap id, ∃ j, m ≤ j ∧ j < m' ∧ x = mkN j
theorem OkL.mono {m m' : Nat} {L : List (Option Str)} {fx : List Int} (h : OkL m L fx) (l : m ≤ m') : OkL m' L fx :=
  ⟨h.nd, fun x hx => by obtain ⟨j, a, b⟩ := h.mr x hx; exact ⟨j, by omega, b⟩, h.st, h.asc⟩
theorem setAt_app {L M : List (Option Str)} {i : Int} (h : setAt L i) : setAt (L ++ M) i ∧ nmI (L ++ M) i = nmI L i := by
  obtain ⟨h0, x, hx⟩ := h
  have hl := (List.getElem?_eq_some_iff.mp hx).1
  have q : (L ++ M)[i.toNat]? = some (some x) := by rw [List.getElem?_append_left hl]; exact hx
  exact ⟨⟨h0, x, q⟩, by rw [nm_at q, nm_at hx]⟩
theorem OkL.add {m m' : Nat} {L M : List (Option Str)} {fx : List Int} (h : OkL m L fx) (g : NwL m m' M) (hm : m' ≤ 200) : OkL m' (L ++ M) fx ∧ nmsL (L ++ M) fx = nmsL L fx := by
  refine ⟨⟨?_, fun x hx => ?_, fun i hi => (setAt_app (h.st i hi)).1, h.asc⟩, ?_⟩
  · rw [List.filterMap_append, List.nodup_append]
    refine ⟨h.nd, g.nd, fun a ha b hb e => ?_⟩
    obtain ⟨i, hi, rfl⟩ := h.mr a ha
    obtain ⟨j, hj1, hj2, rfl⟩ := g.mr b hb
    have := g.le
    have := mkN_inj (by omega) (by omega) e
    omega
  · rw [List.filterMap_append] at hx
    rcases List.mem_append.mp hx with hx | hx
    · obtain ⟨j, a, b⟩ := h.mr x hx
      exact ⟨j, by have := g.le; omega, b⟩
    · obtain ⟨j, _, a, b⟩ := g.mr x hx
      exact ⟨j, a, b⟩
  · unfold nmsL
    exact List.map_congr_left fun i hi => (setAt_app (h.st i hi)).2
theorem cut_lo {α : Type} {L M : List α} {p k i : Nat} (h : i < p) (hp : p ≤ L.length) : (cutL L p k M)[i]? = L[i]? := by
  unfold cutL
  rw [List.append_assoc, List.getElem?_append_left (by rw [List.length_take]; omega), List.getElem?_take, if_pos h]
theorem cut_hi {α : Type} {L M : List α} {p k i : Nat} (h : p + k ≤ i) (hp : p + k ≤ L.length) : (cutL L p k M)[i + M.length - k]? = L[i]? := by
  unfold cutL
  have e1 : (L.take p ++ M).length = p + M.length := by rw [List.length_append, List.length_take]; omega
  rw [List.getElem?_append_right (by rw [e1]; omega), e1, List.getElem?_drop]
  congr 1
  omega
theorem filter_asc {fx : List Int} (h : fx.Pairwise (· < ·)) {a b : Int} (hab : a ≤ b) : (fx.filter fun i => decide (i < a)) ++ (fx.filter fun i => decide (b ≤ i)) = fx.filter fun i => decide (i < a) || decide (b ≤ i) := by
  induction fx with
  | nil => rfl
  | cons x r ih =>
    rw [List.pairwise_cons] at h
    have q := ih h.2
    by_cases c : x < a
    · rw [List.filter_cons_of_pos (by simpa using c), List.filter_cons_of_neg (by simp; omega), List.filter_cons_of_pos (by simp [c]), List.cons_append, q]
    · have e : (r.filter fun i => decide (i < a)) = [] := List.filter_eq_nil_iff.mpr fun y hy => by
        have := h.1 y hy
        simp
        omega
      rw [e, List.nil_append] at q
      rw [List.filter_cons_of_neg (by simpa using c), e, List.nil_append]
      by_cases d : b ≤ x
      · rw [List.filter_cons_of_pos (by simpa using d), List.filter_cons_of_pos (by simp [d]), q]
      · rw [List.filter_cons_of_neg (by simpa using d), List.filter_cons_of_neg (by simp [c, d]), q]
/-- the names in a part of the labels -/
def segN (L : List (Option Str)) (p k : Nat) : List Str := ((L.drop p).take k).filterMap id
theorem seg_iff {m : Nat} {L : List (Option Str)} {fx : List Int} (h : OkL m L fx) {p k : Nat} {i : Int} (hi : i ∈ fx) : nmI L i ∈ segN L p k ↔ (p : Int) ≤ i ∧ i < (p : Int) + k := by
  obtain ⟨h0, x, hx⟩ := h.st i hi
  rw [nm_at hx]
  constructor
  · intro hm
    obtain ⟨o, ho, e⟩ := List.mem_filterMap.mp hm
    obtain ⟨j, hj⟩ := List.mem_iff_getElem?.mp ho
    have e : o = some x := e
    subst e
    rw [List.getElem?_take] at hj
    by_cases c : j < k
    · rw [if_pos c, List.getElem?_drop] at hj
      have := fm_inj h.nd hx hj
      omega
    · rw [if_neg c] at hj
      cases hj
  · rintro ⟨a, b⟩
    refine List.mem_filterMap.mpr ⟨some x, List.mem_of_getElem? (i := i.toNat - p) ?_, rfl⟩
    rw [List.getElem?_take, if_pos (by omega), List.getElem?_drop, show p + (i.toNat - p) = i.toNat by omega]
    exact hx
theorem OkL.cut {m m' : Nat} {L M : List (Option Str)} {fx : List Int} {p k : Nat} (h : OkL m L fx) (g : NwL m m' M) (hm : m' ≤ 200) (hp : p + k ≤ L.length) :
    OkL m' (cutL L p k M) (pinsL fx p k M.length) ∧ nmsL (cutL L p k M) (pinsL fx p k M.length) = (nmsL L fx).filter fun x => !(segN L p k).contains x := by
  have lo : ∀ i ∈ fx, i < (p : Int) → setAt (cutL L p k M) i ∧ nmI (cutL L p k M) i = nmI L i := fun i hi hl => by
    obtain ⟨h0, x, hx⟩ := h.st i hi
    have q : (cutL L p k M)[i.toNat]? = some (some x) := by rw [cut_lo (by omega) (by omega)]; exact hx
    exact ⟨⟨h0, x, q⟩, by rw [nm_at q, nm_at hx]⟩
  have hi' : ∀ i ∈ fx, (p : Int) + k ≤ i → setAt (cutL L p k M) (i + M.length - k) ∧ nmI (cutL L p k M) (i + M.length - k) = nmI L i := fun i hi hl => by
    obtain ⟨h0, x, hx⟩ := h.st i hi
    have q : (cutL L p k M)[(i + M.length - k).toNat]? = some (some x) := by
      rw [show (i + M.length - k).toNat = i.toNat + M.length - k by omega, cut_hi (by omega) hp]
      exact hx
    exact ⟨⟨by omega, x, q⟩, by rw [nm_at q, nm_at hx]⟩
  have sub : ∀ x ∈ (L.take p).filterMap id ++ (L.drop (p + k)).filterMap id, x ∈ L.filterMap id := fun x hx => by
    rcases List.mem_append.mp hx with hx | hx
    · exact (List.Sublist.filterMap id (List.take_sublist p L)).subset hx
    · exact (List.Sublist.filterMap id (List.drop_sublist (p + k) L)).subset hx
  have nd2 : ((L.take p).filterMap id ++ (L.drop (p + k)).filterMap id).Nodup := by
    rw [← List.filterMap_append]
    refine List.Nodup.sublist (List.Sublist.filterMap id ?_) h.nd
    have q : (L.take p ++ L.drop (p + k)).Sublist (L.take p ++ L.drop p) := by
      refine List.Sublist.append (List.Sublist.refl _) ?_
      rw [← List.drop_drop]
      exact List.drop_sublist _ _
    rwa [List.take_append_drop] at q
  refine ⟨⟨?_, fun x hx => ?_, fun i hi => ?_, ?_⟩, ?_⟩
  · unfold cutL
    rw [List.filterMap_append, List.filterMap_append]
    have q := (List.nodup_append.mp nd2)
    rw [List.append_assoc]
    refine List.nodup_append.mpr ⟨q.1, List.nodup_append.mpr ⟨g.nd, q.2.1, fun a ha b hb e => ?_⟩, fun a ha b hb e => ?_⟩
    · obtain ⟨j, hj1, hj2, rfl⟩ := g.mr a ha
      obtain ⟨i, hi, rfl⟩ := h.mr b (sub b (List.mem_append_right _ hb))
      have := mkN_inj (by omega) (by omega) e
      omega
    · rcases List.mem_append.mp hb with hb | hb
      · obtain ⟨i, hi, rfl⟩ := h.mr a (sub a (List.mem_append_left _ ha))
        obtain ⟨j, hj1, hj2, rfl⟩ := g.mr b hb
        have := g.le
        have := mkN_inj (by omega) (by omega) e
        omega
      · exact q.2.2 a ha b hb e
  · unfold cutL at hx
    rw [List.filterMap_append, List.filterMap_append] at hx
    rcases List.mem_append.mp hx with hx | hx
    · rcases List.mem_append.mp hx with hx | hx
      · obtain ⟨j, a, b⟩ := h.mr x (sub x (List.mem_append_left _ hx))
        exact ⟨j, by have := g.le; omega, b⟩
      · obtain ⟨j, _, a, b⟩ := g.mr x hx
        exact ⟨j, a, b⟩
    · obtain ⟨j, a, b⟩ := h.mr x (sub x (List.mem_append_right _ hx))
      exact ⟨j, by have := g.le; omega, b⟩
  · unfold pinsL at hi
    rcases List.mem_append.mp hi with hi | hi
    · obtain ⟨a, b⟩ := List.mem_filter.mp hi
      exact (lo i a (of_decide_eq_true b)).1
    · obtain ⟨j, hj, rfl⟩ := List.mem_map.mp hi
      obtain ⟨a, b⟩ := List.mem_filter.mp hj
      exact (hi' j a (of_decide_eq_true b)).1
  · unfold pinsL
    rw [List.pairwise_append]
    refine ⟨h.asc.filter _, List.pairwise_map.mpr ((h.asc.filter _).imp fun z => by omega), fun a ha b hb => ?_⟩
    obtain ⟨a1, a2⟩ := List.mem_filter.mp ha
    obtain ⟨j, hj, rfl⟩ := List.mem_map.mp hb
    obtain ⟨b1, b2⟩ := List.mem_filter.mp hj
    have a2 := of_decide_eq_true a2
    have b2 := of_decide_eq_true b2
    omega
  · have e1 : nmsL (cutL L p k M) (pinsL fx p k M.length) = ((fx.filter fun i => decide (i < (p : Int))) ++ (fx.filter fun i => decide ((p : Int) + k ≤ i))).map (nmI L) := by
      unfold nmsL pinsL
      rw [List.map_append, List.map_append, List.map_map]
      congr 1
      · exact List.map_congr_left fun i hi => by
          obtain ⟨a, b⟩ := List.mem_filter.mp hi
          exact (lo i a (of_decide_eq_true b)).2
      · exact List.map_congr_left fun i hi => by
          obtain ⟨a, b⟩ := List.mem_filter.mp hi
          exact (hi' i a (of_decide_eq_true b)).2
    rw [e1, filter_asc h.asc (by omega)]
    unfold nmsL
    rw [List.filter_map]
    congr 1
    refine List.filter_congr fun i hi => ?_
    have q := seg_iff (p := p) (k := k) h hi
    show (decide (i < (p : Int)) || decide ((p : Int) + k ≤ i)) = !(segN L p k).contains (nmI L i)
    by_cases c : nmI L i ∈ segN L p k
    · have := q.mp c
      rw [List.contains_iff_mem.mpr c, decide_eq_false (by omega), decide_eq_false (by omega)]
      rfl
    · have c2 : (segN L p k).contains (nmI L i) = false := by
        cases hc : (segN L p k).contains (nmI L i) with
        | false => rfl
        | true => exact absurd (List.contains_iff_mem.mp hc) c
      rw [c2]
      by_cases d : i < (p : Int)
      · rw [decide_eq_true d]; rfl
      · rw [decide_eq_false d, decide_eq_true (by
          by_cases d2 : (p : Int) + k ≤ i
          · exact d2
          · exact absurd (q.mpr ⟨by omega, by omega⟩) c)]
        rfl
theorem OkL.hold {m : Nat} {L : List (Option Str)} {fx : List Int} {p : Int} (h : OkL m L fx) (hp : setAt L p) (hn : p ∉ fx) : OkL m L (insS fx p) ∧ (nmsL L (insS fx p)).Perm (nmsL L fx ++ [nmI L p]) := by
  have pm : (insS fx p).Perm (fx ++ [p]) := by
    unfold insS
    have e := filter_asc h.asc (a := p) (b := p + 1) (by omega)
    have e2 : (fx.filter fun x => decide (p < x)) = fx.filter fun i => decide (p + 1 ≤ i) := List.filter_congr fun i _ => decide_eq_decide.mpr (by omega)
    have e3 : (fx.filter fun i => decide (i < p) || decide (p + 1 ≤ i)) = fx := List.filter_eq_self.mpr fun i hi => by
      have : i ≠ p := fun z => hn (z ▸ hi)
      simp
      omega
    rw [e3] at e
    rw [e2]
    refine List.perm_middle.trans ?_
    rw [e]
    exact (List.perm_append_singleton p fx).symm
  refine ⟨⟨h.nd, h.mr, fun i hi => ?_, ?_⟩, ?_⟩
  · rcases List.mem_append.mp (pm.mem_iff.mp hi) with hi | hi
    · exact h.st i hi
    · rw [List.mem_singleton.mp hi]
      exact hp
  · unfold insS
    rw [List.pairwise_append]
    refine ⟨h.asc.filter _, List.pairwise_cons.mpr ⟨fun a ha => of_decide_eq_true (List.mem_filter.mp ha).2, h.asc.filter _⟩, fun a ha b hb => ?_⟩
    have a2 := of_decide_eq_true (List.mem_filter.mp ha).2
    rcases List.mem_cons.mp hb with rfl | hb
    · exact a2
    · have b2 := of_decide_eq_true (List.mem_filter.mp hb).2
      omega
  · have q := pm.map (nmI L)
    rw [List.map_append] at q
    exact q
theorem OkL.free {m : Nat} {L : List (Option Str)} {fx : List Int} {p : Int} (h : OkL m L fx) (hp : setAt L p) : OkL m L (fx.filter fun x => decide (x ≠ p)) ∧ nmsL L (fx.filter fun x => decide (x ≠ p)) = (nmsL L fx).filter fun x => !decide (x = nmI L p) := by
  refine ⟨⟨h.nd, h.mr, fun i hi => h.st i (List.mem_filter.mp hi).1, h.asc.filter _⟩, ?_⟩
  unfold nmsL
  rw [List.filter_map]
  congr 1
  refine List.filter_congr fun i hi => ?_
  obtain ⟨h0, x, hx⟩ := h.st i hi
  obtain ⟨g0, y, hy⟩ := hp
  show decide (i ≠ p) = !decide (nmI L i = nmI L p)
  rw [nm_at hx, nm_at hy]
  by_cases c : x = y
  · subst c
    have := fm_inj h.nd hx hy
    have e : i = p := by omega
    simp [e]
  · have e : i ≠ p := fun z => c (by
      rw [z, hy] at hx
      cases hx
      rfl)
    simp [c, e]
end Aw
namespace Aw
open PySem PySem.Spec PyProof.Rows L2
/-- the marks that were made -/
def mksV (m : Nat) : List V := (List.range m).map fun j => V.str (mkN j)
theorem mksV_succ (m : Nat) : mksV (m + 1) = mksV m ++ [.str (mkN m)] := by
  unfold mksV
  rw [List.range_succ, List.map_append]
  rfl
theorem mksV_len (m : Nat) : (mksV m).length = m := by unfold mksV; rw [List.length_map, List.length_range]
def MkS (H : Hp) (mk : Addr) (m : Nat) : Prop := H mk = some (.lst (mksV m))
theorem MkS.kp {M : List Addr} {H H1 : Hp} {mk : Addr} {m : Nat} (h : MkS H mk m) (k : Kp M H H1) (n : mk ∉ M) : MkS H1 mk m := k.get h n
/-- a set statement with a new mark -/
def spMkSet (K : PySem.W.Frag) : Sp := fun vs H Q _ => ∃ (d c mk : Addr) (n : Int) (m : Nat), vs = [.ref d, .ref mk] ∧ Deck H d c n ∧ n + 10 < 10 ^ 12 ∧ MkS H mk m ∧ m < 190 ∧ mk ≠ d ∧ mk ≠ c ∧
  ∀ (H' : Hp) (v : V) (e : Ex) (n' : Int), Deck H' d c n' → n ≤ n' → n' ≤ n + 5 → Kp [d, c, mk] H H' → MkS H' mk (m + 1) → Dt K H' v (Sm.pl (.set (mkN m) e)).d → (Pl.set (mkN m) e).vd → Q v H'
theorem mk_log {m : Nat} (h : m < 190) : ((m : Nat) : Int).natAbs.log2 < 1920 := by
  rw [Int.natAbs_natCast]
  by_cases c : m = 0
  · rw [c]
    decide
  · have q := (Nat.log2_lt c (k := 8)).mpr (by omega)
    omega
theorem mk_len {m : Nat} (h : m < 190) : ("h" : Str).length + (Str.ofString (toString ((m : Nat) : Int))).length ≤ 20 := by
  have q : ((List.range 190).all fun j => decide (("h" : Str).length + (Str.ofString (toString ((j : Nat) : Int))).length ≤ 20)) = true := by decide +kernel
  exact of_decide_eq_true (List.all_eq_true.mp q m (List.mem_range.mpr h))
/-- what a mark is set to -/
def MKE : List PyData := [.str "n", .str "b", .int 7, .tuple [.str "plus", .str "n", .int 1]]
theorem mke_ex {d : PyData} (h : d ∈ MKE) : ∃ e : Ex, d = e.d ∧ e.vd 3 := by
  unfold MKE at h
  simp only [List.mem_cons, List.not_mem_nil, or_false] at h
  rcases h with rfl | rfl | rfl | rfl
  · exact ⟨.name "n", by rw [Ex.d], show isNameS "n" = true by decide +kernel⟩
  · exact ⟨.name "b", by rw [Ex.d], show isNameS "b" = true by decide +kernel⟩
  · exact ⟨.int 7, by rw [Ex.d], show -99 ≤ (7 : Int) ∧ (7 : Int) ≤ 99 by decide⟩
  · exact ⟨.bin "plus" (.name "n") (.int 1), by rw [Ex.d, Ex.d, Ex.d], ⟨show -99 ≤ (1 : Int) ∧ (1 : Int) ≤ 99 by decide, .inr ⟨.inl rfl, show isNameS "n" = true by decide +kernel⟩⟩⟩
theorem mke_tpl {d : PyData} (h : d ∈ MKE) : tplD d = true := by
  unfold MKE at h
  simp only [List.mem_cons, List.not_mem_nil, or_false] at h
  rcases h with rfl | rfl | rfl | rfl <;> rfl
def trC : Nat → Int
  | 0 => 25
  | k + 1 => 6 * trC k + 20
def trZ : Nat → Nat
  | 0 => 350
  | k + 1 => 6 * trZ k + 350
def prC : Nat → Int
  | 0 => 0
  | k + 1 => trC k
def prZ : Nat → Nat
  | 0 => 0
  | k + 1 => trZ k
theorem prC_nn : ∀ k : Nat, 0 ≤ prC k ∧ 6 * prC k + 20 ≤ trC k
  | 0 => ⟨Int.le_refl 0, by decide⟩
  | 1 => ⟨by decide, by decide⟩
  | k + 2 => by
    have q := prC_nn (k + 1)
    have q2 : trC (k + 1) = prC (k + 2) := rfl
    have q3 : trC (k + 2) = 6 * trC (k + 1) + 20 := rfl
    omega
theorem prZ_le : ∀ k : Nat, 6 * prZ k + 350 ≤ trZ k
  | 0 => by decide
  | k + 1 => Nat.le_refl _
theorem trC_le : ∀ k : Nat, k ≤ 3 → trC k ≤ 7000
  | 0, _ => by decide
  | 1, _ => by decide
  | 2, _ => by decide
  | 3, _ => by decide
/-- a tree of statements -/
def spTree (K : PySem.W.Frag) (k : Nat) : Sp := fun vs H Q _ => ∃ (d c mk : Addr) (n dp : Int) (m : Nat), vs = [.ref d, .ref mk, .int dp] ∧ dp + k = 3 ∧ Deck H d c n ∧ n + trC k + 10 < 10 ^ 12 ∧ MkS H mk m ∧ m ≤ 120 ∧ mk ≠ d ∧ mk ≠ c ∧
  ∀ (H' : Hp) (v : V) (b : List Sm) (m' : Nat) (n' : Int), Deck H' d c n' → n ≤ n' → n' ≤ n + trC k → Kp [d, c, mk] H H' → MkS H' mk m' → (m' = m ∨ m' ≤ 90) → NwL m m' (labs b) → Dt K H' v (.tuple (Sm.ds b)) → b ≠ [] → dszs (Sm.ds b) ≤ trZ k → Q v H'
def isSetS (s : Sm) : Bool := decide (headS s.d = "set")
def setP (b : List Sm) : List Int := ((List.range (Sm.sizes b)).filter fun j => isSetS (stAt b j)).map Int.ofNat
theorem set_lab (s : Sm) : isSetS s = (labS s).isSome := by
  cases s with
  | pl p =>
    cases p with
    | set x e => unfold isSetS; rw [Sm.d]; exact decide_eq_true rfl
    | unset x => unfold isSetS; rw [Sm.d]; exact decide_eq_false (show ¬ (("unset" : Str) = "set") by decide +kernel)
    | tell e => unfold isSetS; rw [Sm.d]; exact decide_eq_false (show ¬ (("tell" : Str) = "set") by decide +kernel)
    | say x => unfold isSetS; rw [Sm.d]; exact decide_eq_false (show ¬ (("say" : Str) = "set") by decide +kernel)
    | stop x => unfold isSetS; rw [Sm.d]; exact decide_eq_false (show ¬ (("stop" : Str) = "set") by decide +kernel)
  | ifs t y z => unfold isSetS; rw [Sm.d]; exact decide_eq_false (show ¬ (("if" : Str) = "set") by decide +kernel)
  | rep k b => unfold isSetS; rw [Sm.d]; exact decide_eq_false (show ¬ (("repeat" : Str) = "set") by decide +kernel)
theorem lab_set {s : Sm} {x : Str} (h : labS s = some x) : ∃ e, s = .pl (.set x e) := by
  cases s with
  | pl p =>
    cases p with
    | set y e => cases h; exact ⟨e, rfl⟩
    | unset x => cases h
    | tell e => cases h
    | say x => cases h
    | stop x => cases h
  | ifs t y z => cases h
  | rep k b => cases h
theorem labs_at {b : List Sm} {i : Nat} (h : i < Sm.sizes b) : (labs b)[i]? = some (labS (stAt b i)) := by
  unfold labs
  rw [List.getElem?_map, stAt_d h]
  rfl
theorem setP_at {b : List Sm} {i : Int} (h : i ∈ setP b) : setAt (labs b) i ∧ i.toNat < Sm.sizes b := by
  obtain ⟨j, hj, rfl⟩ := List.mem_map.mp h
  obtain ⟨h1, h2⟩ := List.mem_filter.mp hj
  have hl := List.mem_range.mp h1
  rw [set_lab] at h2
  obtain ⟨x, hx⟩ := Option.isSome_iff_exists.mp h2
  refine ⟨⟨Int.natCast_nonneg j, x, ?_⟩, hl⟩
  rw [show (Int.ofNat j).toNat = j from rfl, labs_at hl, hx]
theorem setP_asc (b : List Sm) : (setP b).Pairwise (· < ·) := by
  unfold setP
  refine List.pairwise_map.mpr ((List.pairwise_lt_range.filter _).imp fun {a b} h => ?_)
  show (a : Int) < (b : Int)
  omega
theorem setP_len (b : List Sm) : (setP b).length ≤ Sm.sizes b := by
  unfold setP
  rw [List.length_map]
  exact Nat.le_trans (List.length_filter_le _ _) (by rw [List.length_range]; exact Nat.le_refl _)
def spSetters (K : PySem.W.Frag) : Sp := fun vs H Q _ => ∃ (v : V) (b : List Sm), vs = [v] ∧ Dw [] K H v (.tuple (Sm.ds b)) ∧ VdB 4 b ∧ Sm.sizes b ≤ 24 ∧ ∀ (H' : Hp) (a : Addr), H a = none → Kp [] H H' → H' a = some (.lst ((setP b).map V.int)) → Q (.ref a) H'
/-- a statement at a place -/
def spStAt (K : PySem.W.Frag) : Sp := fun vs H Q _ => ∃ (v : V) (b : List Sm) (i : Nat), vs = [v, .int (i : Nat)] ∧ Dw [] K H v (.tuple (Sm.ds b)) ∧ VdB 4 b ∧ Sm.sizes b ≤ 24 ∧ i < Sm.sizes b ∧ ∀ (H' : Hp) (r : V), Kp [] H H' → Dw [] K H' r (stAt b i).d → Q r H'
/-- the marks of the held statements, sorted -/
def spMarked (K : PySem.W.Frag) : Sp := fun vs H Q _ => ∃ (t f : Addr) (w : V) (b : List Sm) (fx : List Int) (m : Nat), vs = [.ref t] ∧ SqT K H t [w, .ref f] ∧ BSt K H w f b fx ∧ OkL m (labs b) fx ∧
  ∀ (H' : Hp) (a : Addr) (ss : List Str), H a = none → Kp [] H H' → H' a = some (.lst (ss.map V.str)) → ss.Perm (nmsL (labs b) fx) → sortedS ss = true → Q (.ref a) H'
/-- the marks in a statement -/
def spMarks (K : PySem.W.Frag) : Sp := fun vs H Q _ => ∃ (u : V) (s : Sm), vs = [u] ∧ Dw [] K H u s.d ∧ Sm.vd 3 s ∧ s.size ≤ 24 ∧ ∀ (H' : Hp) (a : Addr), H a = none → Kp [] H H' → H' a = some (.lst ((((Sm.al s).map labS).filterMap id).map V.str)) → Q (.ref a) H'
/-- what a step leads to -/
def StpR (K : PySem.W.Frag) (C bo dx : Addr) (x0 : HsT) (xs us : List HsT) (l un : Addr) (H : Hp) (m' : Nat) (ss : List Str) (H' : Hp) : Prop :=
  BnH K H' C bo dx l un x0 xs us ∨ ∃ (l2 un2 : Addr) (x : HsT), H l2 = none ∧ H un2 = none ∧ BnH K H' C bo dx l2 un2 x0 (xs ++ [x]) [] ∧ OkL m' (labs x.b) x.fx ∧ ss.Perm (nmsL (labs x.b) x.fx)
def spStep (K : PySem.W.Frag) (C : Addr) : Sp := fun vs H Q _ => ∃ (d c mk pn bo dx l un : Addr) (n : Int) (m : Nat) (x0 : HsT) (xs us : List HsT) (ss : List Str), vs = [.ref d, .ref bo, .ref mk, .ref pn] ∧ Deck H d c n ∧ n + 20000 < 10 ^ 12 ∧ MkS H mk m ∧ m ≤ 110 ∧ mk ≠ d ∧ mk ≠ c ∧
  BnH K H C bo dx l un x0 xs us ∧ xs.length < 60 ∧ l ∉ [d, c, mk] ∧ un ∉ [d, c, mk] ∧ H pn = some (.lst (ss.map V.str)) ∧ pn ∉ [d, c, mk] ∧ OkL m (labs (curX x0 xs).b) (curX x0 xs).fx ∧ ss.Perm (nmsL (labs (curX x0 xs).b) (curX x0 xs).fx) ∧
  ∀ (H' : Hp) (a : Addr) (ss' : List Str) (m' : Nat) (n' : Int), Deck H' d c n' → n ≤ n' → n' ≤ n + 2000 → Kp [d, c, mk, bo] H H' → MkS H' mk m' → m ≤ m' → (m' ≤ m + 1 ∨ m' ≤ 91) → H a = none → H' a = some (.lst (ss'.map V.str)) → sortedS ss' = true → StpR K C bo dx x0 xs us l un H m' ss' H' → Q (.ref a) H'
end Aw
namespace Aw
open PySem PySem.Spec PyProof.Rows L2
theorem NwL.app {m m1 m2 : Nat} {A B : List (Option Str)} (a : NwL m m1 A) (b : NwL m1 m2 B) (h : m2 ≤ 200) : NwL m m2 (A ++ B) := by
  refine ⟨Nat.le_trans a.le b.le, ?_, fun x hx => ?_⟩
  · rw [List.filterMap_append, List.nodup_append]
    refine ⟨a.nd, b.nd, fun x hx y hy e => ?_⟩
    obtain ⟨i, i1, i2, rfl⟩ := a.mr x hx
    obtain ⟨j, j1, j2, rfl⟩ := b.mr y hy
    have := b.le
    have := mkN_inj (by omega) (by omega) e
    omega
  · rw [List.filterMap_append] at hx
    rcases List.mem_append.mp hx with hx | hx
    · obtain ⟨i, i1, i2, i3⟩ := a.mr x hx
      exact ⟨i, i1, by have := b.le; omega, i3⟩
    · obtain ⟨i, i1, i2, i3⟩ := b.mr x hx
      exact ⟨i, by have := a.le; omega, i2, i3⟩
theorem NwL.nil {m m' : Nat} (h : m ≤ m') : NwL m m' [] := ⟨h, by simp, fun x hx => by cases hx⟩
theorem NwL.none {m m' : Nat} {A : List (Option Str)} (a : NwL m m' A) : NwL m m' (none :: A) := ⟨a.le, a.nd, a.mr⟩
theorem NwL.up {m m' m2 : Nat} {A : List (Option Str)} (a : NwL m m' A) (h : m' ≤ m2) : NwL m m2 A := ⟨Nat.le_trans a.le h, a.nd, fun x hx => by obtain ⟨i, i1, i2, i3⟩ := a.mr x hx; exact ⟨i, i1, by omega, i3⟩⟩
theorem NwL.one {m : Nat} : NwL m (m + 1) [some (mkN m)] := ⟨by omega, by simp, fun x hx => by
  rw [List.mem_singleton.mp (show x ∈ [mkN m] from hx)]
  exact ⟨m, by omega, by omega, rfl⟩⟩
/-- the first one of some -/
theorem NwL.head {m m' : Nat} {s : Sm} {r : List Sm} (a : NwL m m' (labs (s :: r))) : NwL m m' (labs [s]) := by
  have e : labs (s :: r) = labs [s] ++ labs r := labs_app [s] r
  rw [e] at a
  refine ⟨a.le, ?_, fun x hx => a.mr x (by rw [List.filterMap_append]; exact List.mem_append_left _ hx)⟩
  have q := a.nd
  rw [List.filterMap_append] at q
  exact (List.nodup_append.mp q).1
theorem labs_one (s : Sm) : labs [s] = (Sm.al s).map labS := by
  unfold labs
  rw [Sm.als, Sm.als, List.append_nil]
theorem labs_if (t : Ts) (y z : List Sm) : labs [.ifs t y z] = none :: (labs y ++ labs z) := by
  rw [labs_one, Sm.al, List.map_cons, List.map_append]
  rfl
theorem labs_rep (k : Int) (y : List Sm) : labs [.rep k y] = none :: labs y := by
  rw [labs_one, Sm.al, List.map_cons]
  rfl
theorem labs_pl (p : Pl) : labs [.pl p] = [labS (.pl p)] := by
  rw [labs_one, Sm.al, List.map_cons]
  rfl
theorem labs_nil : labs [] = [] := by
  unfold labs
  rw [Sm.als]
  rfl
/-- tests of trees, small statements -/
def TTE : List PyData := [.tuple [.str "given", .str "n"], .tuple [.str "given", .str "x"], .tuple [.str "less", .str "n", .int 0]]
theorem tte_ts {d : PyData} (h : d ∈ TTE) : ∃ t : Ts, d = t.d ∧ dsz d ≤ 20 ∧ tplD d = true := by
  unfold TTE at h
  simp only [List.mem_cons, List.not_mem_nil, or_false] at h
  rcases h with rfl | rfl | rfl
  · exact ⟨.given "n", by rw [Ts.d], by decide +kernel, rfl⟩
  · exact ⟨.given "x", by rw [Ts.d], by decide +kernel, rfl⟩
  · exact ⟨.less (.name "n") (.int 0), by rw [Ts.d, Ex.d, Ex.d], by decide +kernel, rfl⟩
def TPE : List PyData := [.tuple [.str "say", .str "on"], .tuple [.str "tell", .str "n"], .tuple [.str "unset", .str "x"]]
theorem tpe_pl {d : PyData} (h : d ∈ TPE) : ∃ p : Pl, d = (Sm.pl p).d ∧ dsz d ≤ 20 ∧ tplD d = true ∧ labS (.pl p) = none := by
  unfold TPE at h
  simp only [List.mem_cons, List.not_mem_nil, or_false] at h
  rcases h with rfl | rfl | rfl
  · exact ⟨.say "on", by rw [Sm.d, Pl.d], by decide +kernel, rfl, rfl⟩
  · exact ⟨.tell (.name "n"), by rw [Sm.d, Pl.d, Ex.d], by decide +kernel, rfl, rfl⟩
  · exact ⟨.unset "x", by rw [Sm.d, Pl.d], by decide +kernel, rfl, rfl⟩
end Aw
namespace Aw
open PySem PySem.Spec PyProof.Rows L2
mutual
theorem seg_al : ∀ (s : Sm) (i : Nat) (st : Sm), (Sm.al s)[i]? = some st → (((Sm.al s).map labS).drop i).take st.size = (Sm.al st).map labS
  | s, 0, st, h => by
    rw [al_zero] at h
    cases h
    rw [List.drop_zero, List.take_of_length_le (by rw [List.length_map, Sm.al_len]; omega)]
  | .pl p, i + 1, st, h => by
    rw [Sm.al] at h
    simp at h
  | .ifs t y z, i + 1, st, h => by
    rw [Sm.al, List.getElem?_cons_succ] at h
    rw [Sm.al, List.map_cons, List.drop_succ_cons, List.map_append]
    by_cases c : i < Sm.sizes y
    · rw [List.getElem?_append_left (by rw [Sm.als_len]; exact c)] at h
      have q := seg_als y i st h
      have e := als_end y i st h
      show ((labs y ++ labs z).drop i).take st.size = _
      rw [List.drop_append_of_le_length (by rw [labs_len]; omega), List.take_append_of_le_length (by rw [List.length_drop, labs_len]; omega)]
      exact q
    · rw [List.getElem?_append_right (by rw [Sm.als_len]; omega), Sm.als_len] at h
      have q := seg_als z _ st h
      show ((labs y ++ labs z).drop i).take st.size = _
      rw [List.drop_append, List.drop_eq_nil_of_le (by rw [labs_len]; omega), List.nil_append, labs_len]
      exact q
  | .rep k b, i + 1, st, h => by
    rw [Sm.al, List.getElem?_cons_succ] at h
    rw [Sm.al, List.map_cons, List.drop_succ_cons]
    exact seg_als b i st h
theorem seg_als : ∀ (b : List Sm) (i : Nat) (st : Sm), (Sm.als b)[i]? = some st → ((labs b).drop i).take st.size = (Sm.al st).map labS
  | [], i, st, h => by
    rw [Sm.als] at h
    simp at h
  | s :: r, i, st, h => by
    rw [Sm.als] at h
    rw [labs_cons]
    by_cases c : i < s.size
    · rw [List.getElem?_append_left (by rw [Sm.al_len]; exact c)] at h
      have q := seg_al s i st h
      have e := al_end s i st h
      rw [List.drop_append_of_le_length (by rw [List.length_map, Sm.al_len]; omega), List.take_append_of_le_length (by rw [List.length_drop, List.length_map, Sm.al_len]; omega)]
      exact q
    · rw [List.getElem?_append_right (by rw [Sm.al_len]; omega), Sm.al_len] at h
      have q := seg_als r _ st h
      rw [List.drop_append, List.drop_eq_nil_of_le (by rw [List.length_map, Sm.al_len]; omega), List.nil_append, List.length_map, Sm.al_len]
      exact q
end
theorem segN_eq {b : List Sm} {i : Nat} {st : Sm} (h : (Sm.als b)[i]? = some st) : segN (labs b) i st.size = ((Sm.al st).map labS).filterMap id := by
  unfold segN
  rw [seg_als b i st h]
theorem due_drop {b : List Sm} {fx : List Int} {i : Nat} {st : Sm} (hv : VP b) (h : (Sm.als b)[i]? = some st) : dueE b fx (.drop (.int (i : Nat))) = .ok (Sm.ds (Sm.rpB b i [])) (pinsL fx i st.size 0) := by
  have e : Sm.putB b i [] = Sm.ds (Sm.rpB b i []) := by rw [rpB_d, Sm.ds]
  rw [(due_at h).1, e]
  exact needD_ok (hv.drops h).ok
theorem due_put {b : List Sm} {fx : List Int} {i : Nat} {p t : Pl} (hv : VP b) (h : (Sm.als b)[i]? = some (.pl p)) (ht : t.vd) : dueE b fx (.change (.int (i : Nat)) (Sm.pl t).d) = .ok (Sm.ds (Sm.rpB b i [.pl t])) (pinsL fx i 1 1) := by
  have e : Sm.putB b i [(Sm.pl t).d] = Sm.ds (Sm.rpB b i [.pl t]) := by rw [rpB_d, Sm.ds, Sm.ds]
  rw [(due_at h).2.1, e, smOf_d, Sm.size, Sm.size]
  exact needD_ok (hv.puts h ht).ok
theorem due_hold {b : List Sm} {fx : List Int} {i : Nat} {x : Str} {e : Ex} (h : (Sm.als b)[i]? = some (.pl (.set x e))) (n : (i : Int) ∉ fx) : dueE b fx (.hold (.int (i : Nat))) = .ok (Sm.ds b) (insS fx i) := by
  rw [(due_at h).2.2.1, if_pos (by rw [Sm.d]; show RDS.contains "set" = true; decide +kernel), if_neg n]
theorem due_free {b : List Sm} {fx : List Int} {i : Nat} {st : Sm} (h : (Sm.als b)[i]? = some st) (n : (i : Int) ∈ fx) : dueE b fx (.free (.int (i : Nat))) = .ok (Sm.ds b) (fx.filter fun x => decide (x ≠ (i : Int))) := by
  rw [(due_at h).2.2.2, if_pos n]
theorem ok_drop {m : Nat} {b : List Sm} {fx : List Int} {i : Nat} {st : Sm} {ss : List Str} (h : OkL m (labs b) fx) (hm : m ≤ 200) (hs : (Sm.als b)[i]? = some st) (p : ss.Perm (nmsL (labs b) fx)) :
    OkL m (labs (Sm.rpB b i [])) (pinsL fx i st.size 0) ∧ (ss.filter fun x => !(((Sm.al st).map labS).filterMap id).contains x).Perm (nmsL (labs (Sm.rpB b i [])) (pinsL fx i st.size 0)) := by
  have q := h.cut (p := i) (k := st.size) (NwL.nil (Nat.le_refl m)) hm (by rw [labs_len]; exact als_end b i st hs)
  rw [lab_rpB b i [] st hs, labs_nil]
  refine ⟨q.1, ?_⟩
  have q2 : nmsL (cutL (labs b) i st.size []) (pinsL fx i st.size 0) = _ := q.2
  rw [q2, segN_eq hs]
  exact p.filter _
theorem ok_put {m m' : Nat} {b : List Sm} {fx : List Int} {i : Nat} {q t : Pl} {ss : List Str} (h : OkL m (labs b) fx) (hm : m' ≤ 200) (g : NwL m m' (labs [.pl t])) (hs : (Sm.als b)[i]? = some (.pl q)) (p : ss.Perm (nmsL (labs b) fx)) :
    OkL m' (labs (Sm.rpB b i [.pl t])) (pinsL fx i 1 1) ∧ (ss.filter fun x => !(((Sm.al (.pl q)).map labS).filterMap id).contains x).Perm (nmsL (labs (Sm.rpB b i [.pl t])) (pinsL fx i 1 1)) := by
  have e1 : (Sm.pl q).size = 1 := by rw [Sm.size]
  have q := h.cut (p := i) (k := 1) g hm (by rw [labs_len]; have := als_end b i _ hs; omega)
  have e2 : (labs [.pl t]).length = 1 := by rw [labs_pl]; rfl
  rw [lab_rpB b i [.pl t] _ hs, e1]
  rw [e2] at q
  refine ⟨q.1, ?_⟩
  have q2 : nmsL (cutL (labs b) i 1 (labs [.pl t])) (pinsL fx i 1 1) = _ := q.2
  rw [q2, ← segN_eq hs, e1]
  exact p.filter _
/-- a list without what others have -/
theorem r_notinS {K : PySem.W.Frag} {H : Hp} {Q : VK} {a : Addr} {x : Str} {l : List Str} (h : SqL K H a (l.map V.str)) (q : Q (.bl (!l.contains x)) H) : rIn K true (.str x) (.ref a) H Q :=
  r_ninB (.inl h) rfl (flat_strs l) (by rw [inV_strs]; exact q)
/-- an edit that is done -/
theorem ed_use {K : PySem.W.Frag} {A : ErA} {H : Hp} {Q : VK} {E : XK} {C bo dx l un : Addr} {x0 : HsT} {xs us : List HsT} {nm : Str} {as : List V} {u : V} {x : EdD} {c : List Sm} {fx2 : List Int} (hB : BnH K H C bo dx l un x0 xs us) (hx : xs.length < 60) (hV : ArgV K H nm as u x)
    (hd : dueE (curX x0 xs).b (curX x0 xs).fx x = .ok (Sm.ds c) fx2) (k : ∀ (H' : Hp) (l2 u2 : Addr), H l2 = none → H u2 = none → Kp [bo] H H' → BnH K H' C bo dx l2 u2 x0 (xs ++ [⟨edD x, c, fx2⟩]) [] → Q (.int ((xs.length + 1 : Nat) : Int)) H') : spEdM K A C nm (.ref bo :: as) H Q E := by
  obtain ⟨v, f1, g, ys, hS, hyl, hed⟩ := hB.edit
  refine ⟨bo, dx, f1, g, l, un, v, u, as, ys, _, _, x, rfl, hS, by omega, hV, ?_⟩
  rw [hd]
  intro H' w ev f2 l2 u2 e p hn2 hnu k1 hI1 hL1 hU1 hE1 hP1 hev hw1 ha1
  obtain ⟨c', hc, hB2⟩ := hed x (Sm.ds c) fx2 H' w ev f2 l2 u2 e p hd k1 hI1 hL1 hU1 hE1 hP1 hev hw1 ha1
  obtain rfl := ds_inj hc
  rw [hyl]
  exact k H' l2 u2 hn2 hnu k1 hB2
theorem ms4 {H : Hp} {d c mk bo C dx : Addr} {n : Int} {m : Nat} {fs : List (Str × V)} (D : Deck H d c n) (M : MkS H mk m) (I : H bo = some (.ins C dx fs)) : Ms [d, c, mk, bo] H := by
  obtain ⟨cs, hc, _⟩ := D.hc
  exact Ms.cons D.hd trivial (Ms.cons hc trivial (Ms.cons M trivial (Ms.cons I trivial Ms.nil)))
theorem ms3 {H : Hp} {d c mk : Addr} {n : Int} {m : Nat} (D : Deck H d c n) (M : MkS H mk m) : Ms [d, c, mk] H := by
  obtain ⟨cs, hc, _⟩ := D.hc
  exact Ms.cons D.hd trivial (Ms.cons hc trivial (Ms.cons M trivial Ms.nil))
/-- [x for x in ss if f x] -/
theorem lc_filS {K : PySem.W.Frag} {tt : TT} {te : TE} {ws : List Nat} {σ : L2.St} {H : Hp} {Q : VK} {j : Nat} {a : Addr} {ss : List Str} (f : Str → Bool) (h : H a = some (.lst (ss.map V.str))) (hz : ss.length ≤ 1000)
    (ht : ∀ (x : Str) (H' : Hp) (R : Bool → Hp → Prop), Kp [] H H' → (∀ H'', Kp [] H' H'' → R (f x) H'') → tt ((wipe σ ws).set j (some (.str x))) H' R)
    (he : ∀ (x : Str) (H' : Hp) (R : VK), R (.str x) H' → te ((wipe σ ws).set j (some (.str x))) H' R)
    (hw : ∀ v : V, wipe ((wipe σ ws).set j (some v)) ws = wipe σ ws)
    (k : ∀ (q : Addr) (H' : Hp), H q = none → Kp [] H H' → H' q = some (.lst ((ss.filter f).map V.str)) → Q (.ref q) H') : LcL K (gName j) tt te ws σ Q (.ref a) H := by
  refine r_LcL (SqL.of h) fun q hq => ⟨fun i H' => Kp [] H H' ∧ H' q = some (.lst (((ss.take i).filter f).map V.str)), ⟨Kp.nil.new hq, upd_same⟩, fun i H' ⟨z, _⟩ => SqL.of (z.get h (by simp)), ?_, ?_⟩
  · rintro i x H' hx ⟨k1, hq1⟩
    rw [List.getElem?_map] at hx
    obtain ⟨z, hz1, rfl⟩ := Option.map_eq_some_iff.mp hx
    have htk : ss.take (i + 1) = ss.take i ++ [z] := by rw [List.take_add_one, hz1]; rfl
    refine r_name (r_LcTurn (hw _) (ht z H' _ k1 fun H'' k2 => ?_))
    have hq2 := k2.get hq1 (by simp)
    have k12 := k1.trans k2
    cases hf : f z with
    | true =>
      rw [if_pos rfl]
      refine he z H'' _ (r_LcEnd hq2 ?_ ⟨k12.own hq, ?_⟩)
      · have q1 := List.length_filter_le f (ss.take i)
        rw [List.length_take] at q1
        rw [List.length_map, sizeLine_eq]
        omega
      · rw [upd_same, htk, List.filter_append, List.filter_cons_of_pos (by exact hf), List.map_append]
        rfl
    | false =>
      rw [if_neg (by decide)]
      refine ⟨k12, ?_⟩
      rw [htk, List.filter_append, List.filter_cons_of_neg (by rw [hf]; decide), List.filter_nil, List.append_nil]
      exact hq2
  · rintro H' ⟨k1, hq1⟩
    rw [List.length_map, List.take_length] at hq1
    exact k q H' hq k1 hq1
end Aw
namespace Aw
open PySem PySem.Spec PyProof.Rows L2
theorem mkN_ok {j : Nat} (h : j < 200) : PyData.strOk (mkN j) = true ∧ (mkN j).length ≤ 20 := by
  have q : ((List.range 200).all fun j => PyData.strOk (mkN j) && decide ((mkN j).length ≤ 20)) = true := by decide +kernel
  have q2 := List.all_eq_true.mp q j (List.mem_range.mpr h)
  rw [Bool.and_eq_true, decide_eq_true_eq] at q2
  exact q2
theorem shw_marks {ss : List Str} (h : ∀ x ∈ ss, ∃ j, j < 200 ∧ x = mkN j) (hl : ss.length ≤ 30) : ShwD (.list (ss.map PyData.str)) 5 200000 := by
  have go : ∀ l : List Str, (∀ x ∈ l, ∃ j, j < 200 ∧ x = mkN j) → Doks (l.map PyData.str) (21 * l.length) 1 := by
    intro l
    induction l with
    | nil => exact fun _ => Doks.nil
    | cons x r ih =>
      intro hx
      obtain ⟨j, hj, e⟩ := hx x (List.mem_cons_self ..)
      have q := Doks.cons (Dok.str (x := x) (n := 20) (by rw [e]; exact mkN_ok hj)) (ih fun y hy => hx y (List.mem_cons_of_mem _ hy)) (Nat.zero_le 1)
      refine ⟨?_, q.sh, q.dp⟩
      have := q.sz
      rw [List.length_cons, List.map_cons]
      omega
  have q := ((go ss h).lst9.mono (z' := 631) (k' := 5) (by omega) (by omega)).shw
  exact ⟨q.sh, q.dep, by have := q.len; omega⟩
theorem OkL.names {m : Nat} {L : List (Option Str)} {fx : List Int} (h : OkL m L fx) (hm : m ≤ 200) : ∀ x ∈ nmsL L fx, ∃ j, j < 200 ∧ x = mkN j := fun x hx => by
  obtain ⟨i, hi, rfl⟩ := List.mem_map.mp hx
  obtain ⟨_, y, hy⟩ := h.st i hi
  rw [nm_at hy]
  obtain ⟨j, hj, e⟩ := h.mr y (fm_mem hy)
  exact ⟨j, by omega, e⟩
theorem dw_strs {K : PySem.W.Frag} {H : Hp} {p : Addr} {ss : List Str} (h : H p = some (.lst (ss.map V.str))) (hl : ss.length ≤ 1000) : Dw [] K H (.ref p) (.list (ss.map PyData.str)) :=
  DwL.lst ⟨by rw [List.length_map, List.length_map], fun i v d e e' => by
    rw [List.getElem?_map] at e e'
    obtain ⟨x, hx, rfl⟩ := Option.map_eq_some_iff.mp e
    rw [hx] at e'
    cases e'
    exact .str x⟩ h (by simp)
/-- the names of a step, sorted -/
structure PnE (H : Hp) (M : List Addr) (m : Nat) (v : V) (x : HsT) : Prop where
  ex : ∃ (q : Addr) (ss : List Str), v = .ref q ∧ q ∉ M ∧ H q = some (.lst (ss.map V.str)) ∧ sortedS ss = true ∧ ss.Perm (nmsL (labs x.b) x.fx) ∧ OkL m (labs x.b) x.fx
theorem PnE.kp {H H1 : Hp} {M N : List Addr} {m m1 : Nat} {v : V} {x : HsT} (h : PnE H M m v x) (k : Kp N H H1) (hm : m ≤ m1) (hs : ∀ b ∈ N, b ∈ M ∨ ∃ C dx fs, H b = some (.ins C dx fs)) : PnE H1 M m1 v x := by
  obtain ⟨q, ss, rfl, h1, h2, h3, h4, h5⟩ := h.ex
  refine ⟨q, ss, rfl, h1, k.get h2 fun hb => ?_, h3, h4, h5.mono hm⟩
  rcases hs q hb with z | ⟨_, _, _, z⟩
  · exact h1 z
  · rw [h2] at z
    cases z
structure LyS (K : PySem.W.Frag) (C d c mk pa bo dx : Addr) (x0 : HsT) (l un : Addr) (n : Int) (m : Nat) (xs us : List HsT) (H : Hp) : Prop where
  D : Deck H d c n
  M : MkS H mk m
  B : BnH K H C bo dx l un x0 xs us
  P : ∃ ys : List V, H pa = some (.lst ys) ∧ Row2 (PnE H [d, c, mk, pa] m) ys (x0 :: xs)
  nl : l ∉ [d, c, mk, pa]
  nu : un ∉ [d, c, mk, pa]
  np : pa ∉ [d, c, mk]
  n1 : mk ≠ d
  n2 : mk ≠ c
section
variable {K : PySem.W.Frag} {C d c mk pa bo dx l un l2 un2 a : Addr} {x0 z : HsT} {n n1 : Int} {m m1 : Nat} {xs us us2 : List HsT} {H H1 : Hp} {ss : List Str} {ys : List V}
theorem LyS.bn (h : LyS K C d c mk pa bo dx x0 l un n m xs us H) : bo ∉ [d, c, mk, pa] ∧ d ∉ [bo] ∧ c ∉ [bo] ∧ mk ∉ [bo] ∧ pa ∉ [bo] := by
  obtain ⟨fs, hI⟩ := h.B.ins
  obtain ⟨ys, hP, _⟩ := h.P
  obtain ⟨cs, hc, _⟩ := h.D.hc
  have e1 := lst_ne h.D.hd hI
  have e2 := lst_ne hc hI
  have e3 := lst_ne h.M hI
  have e4 := lst_ne hP hI
  refine ⟨?_, e1, e2, e3, e4⟩
  simp only [List.mem_singleton] at e1 e2 e3 e4
  simp [Ne.symm e1, Ne.symm e2, Ne.symm e3, Ne.symm e4]
theorem LyS.fresh (h : LyS K C d c mk pa bo dx x0 l un n m xs us H) (e : H a = none) : a ∉ [d, c, mk, pa] := by
  obtain ⟨ys, hP, _⟩ := h.P
  obtain ⟨cs, hc, _⟩ := h.D.hc
  simp [Ne.symm (ne_of_none h.D.hd e), Ne.symm (ne_of_none hc e), Ne.symm (ne_of_none h.M e), Ne.symm (ne_of_none hP e)]
theorem LyS.kp (h : LyS K C d c mk pa bo dx x0 l un n m xs us H) (k : Kp [] H H1) : LyS K C d c mk pa bo dx x0 l un n m xs us H1 := by
  obtain ⟨ys, hP, hR⟩ := h.P
  exact ⟨h.D.kp k (by simp) (by simp), h.M.kp k (by simp), h.B.kp k (by simp) (by simp) (by simp), ⟨ys, k.get hP (by simp), hR.imp fun _ _ q => q.kp k (Nat.le_refl _) fun b hb => by cases hb⟩, h.nl, h.nu, h.np, h.n1, h.n2⟩
theorem LyS.same (h : LyS K C d c mk pa bo dx x0 l un n m xs us H) (k : Kp [d, c, mk, bo] H H1) (D1 : Deck H1 d c n1) (M1 : MkS H1 mk m1) (hm : m ≤ m1) (B1 : BnH K H1 C bo dx l un x0 xs us) : LyS K C d c mk pa bo dx x0 l un n1 m1 xs us H1 := by
  obtain ⟨ys, hP, hR⟩ := h.P
  obtain ⟨fs, hI⟩ := h.B.ins
  have np := h.np
  have b4 := h.bn.2.2.2.2
  simp only [List.mem_cons, List.not_mem_nil, or_false, not_or] at np b4
  refine ⟨D1, M1, B1, ⟨ys, k.get hP (by simp [np, b4]), hR.imp fun _ _ q => q.kp k hm fun b hb => ?_⟩, h.nl, h.nu, h.np, h.n1, h.n2⟩
  simp only [List.mem_cons, List.not_mem_nil, or_false] at hb
  rcases hb with rfl | rfl | rfl | rfl
  · exact .inl (by simp)
  · exact .inl (by simp)
  · exact .inl (by simp)
  · exact .inr ⟨C, dx, fs, hI⟩
theorem LyS.deck (h : LyS K C d c mk pa bo dx x0 l un n m xs us H) (k : Kp [d, c] H H1) (D1 : Deck H1 d c n1) : LyS K C d c mk pa bo dx x0 l un n1 m xs us H1 := by
  obtain ⟨fs, hI⟩ := h.B.ins
  have b := h.bn.1
  have q1 := h.nl
  have q2 := h.nu
  simp only [List.mem_cons, List.not_mem_nil, or_false, not_or] at b q1 q2
  exact h.same (k.subM (ms4 h.D h.M hI) (by simp)) D1 (h.M.kp k (by simp [h.n1, h.n2])) (Nat.le_refl _) (h.B.kp k (by simp [b]) (by simp [q1]) (by simp [q2]))
theorem LyS.grown (h : LyS K C d c mk pa bo dx x0 l un n m xs us H) (k : Kp [d, c, mk, bo] H H1) (D1 : Deck H1 d c n1) (M1 : MkS H1 mk m1) (hm : m ≤ m1) (B1 : BnH K H1 C bo dx l2 un2 x0 (xs ++ [z]) []) (hl2 : H l2 = none) (hu2 : H un2 = none) (ha : H a = none) (ha1 : H1 a = some (.lst (ss.map V.str))) (hso : sortedS ss = true)
    (hpm : ss.Perm (nmsL (labs z.b) z.fx)) (hok : OkL m1 (labs z.b) z.fx) (hys : H1 pa = some (.lst ys)) : LyS K C d c mk pa bo dx x0 l2 un2 n1 m1 (xs ++ [z]) [] (upd H1 pa (.lst (ys ++ [.ref a]))) := by
  obtain ⟨ys', hP, hR⟩ := h.P
  obtain ⟨fs, hI⟩ := h.B.ins
  have np := h.np
  have b4 := h.bn.2.2.2.2
  have b1 := h.bn.1
  have fl := h.fresh hl2
  have fu := h.fresh hu2
  have fa := h.fresh ha
  have npp := h.np
  simp only [List.mem_cons, List.not_mem_nil, or_false, not_or] at np b4 b1
  have hP1 := k.get hP (by simp [np, b4])
  obtain rfl : ys = ys' := by
    rw [hys] at hP1
    injection hP1 with q
    injection q
  have kp : Kp [pa] H1 (upd H1 pa (.lst (ys ++ [.ref a]))) := kpW hys
  have fl2 := fl
  have fu2 := fu
  have fa2 := fa
  simp only [List.mem_cons, List.not_mem_nil, or_false, not_or] at fl2 fu2 fa2
  refine ⟨D1.kp kp (by simp [Ne.symm np.1]) (by simp [Ne.symm np.2.1]), M1.kp kp (by simp [Ne.symm np.2.2]), B1.kp kp (by simp [b1]) (by simp [fl2]) (by simp [fu2]), ⟨_, upd_same, ?_⟩, fl, fu, npp, h.n1, h.n2⟩
  have e : x0 :: (xs ++ [z]) = (x0 :: xs) ++ [z] := rfl
  rw [e]
  refine Row2.snoc (hR.imp fun _ _ q => (q.kp k hm fun b hb => ?_).kp kp (Nat.le_refl _) fun b hb => ?_) ⟨a, ss, rfl, fa, kp.get ha1 (by simp [fa2]), hso, hpm, hok⟩
  · simp only [List.mem_cons, List.not_mem_nil, or_false] at hb
    rcases hb with rfl | rfl | rfl | rfl
    · exact .inl (by simp)
    · exact .inl (by simp)
    · exact .inl (by simp)
    · exact .inr ⟨C, dx, fs, hI⟩
  · rw [List.mem_singleton.mp hb]
    exact .inl (by simp)
theorem LyS.popped (h : LyS K C d c mk pa bo dx x0 l un n m (xs ++ [z]) us H) (k : Kp [bo] H H1) (B1 : BnH K H1 C bo dx l2 un2 x0 xs us2) (hl2 : H l2 = none) (hu2 : H un2 = none) : ∃ (ys : List V) (y : V), H1 pa = some (.lst (ys ++ [y])) ∧ LyS K C d c mk pa bo dx x0 l2 un2 n m xs us2 (upd H1 pa (.lst ys)) := by
  obtain ⟨ys', hP, hR⟩ := h.P
  obtain ⟨fs, hI⟩ := h.B.ins
  have np := h.np
  have b := h.bn
  have fl := h.fresh hl2
  have fu := h.fresh hu2
  have npp := h.np
  have e : x0 :: (xs ++ [z]) = (x0 :: xs) ++ [z] := rfl
  rw [e] at hR
  obtain ⟨ys, y, rfl, hR2, _⟩ := hR.last
  have hP1 := k.get hP b.2.2.2.2
  have kp : Kp [pa] H1 (upd H1 pa (.lst ys)) := kpW hP1
  have b1 := b.1
  have fl2 := fl
  have fu2 := fu
  simp only [List.mem_cons, List.not_mem_nil, or_false, not_or] at np b1 fl2 fu2
  refine ⟨ys, y, hP1, (h.D.kp k b.2.1 b.2.2.1).kp kp (by simp [Ne.symm np.1]) (by simp [Ne.symm np.2.1]), (h.M.kp k b.2.2.2.1).kp kp (by simp [Ne.symm np.2.2]), B1.kp kp (by simp [b1]) (by simp [fl2]) (by simp [fu2]), ⟨_, upd_same, ?_⟩, fl, fu, npp, h.n1, h.n2⟩
  refine hR2.imp fun _ _ q => (q.kp k (Nat.le_refl _) fun b hb => ?_).kp kp (Nat.le_refl _) fun b hb => ?_
  · rw [List.mem_singleton.mp hb]
    exact .inr ⟨C, dx, fs, hI⟩
  · rw [List.mem_singleton.mp hb]
    exact .inl (by simp)
theorem LyS.cur (h : LyS K C d c mk pa bo dx x0 l un n m xs us H) : ∃ (ys : List V) (q : Addr) (ss : List Str), H pa = some (.lst (ys ++ [.ref q])) ∧ ys.length = xs.length ∧ q ∉ [d, c, mk, pa] ∧ H q = some (.lst (ss.map V.str)) ∧ sortedS ss = true ∧ ss.Perm (nmsL (labs (curX x0 xs).b) (curX x0 xs).fx) ∧ OkL m (labs (curX x0 xs).b) (curX x0 xs).fx := by
  obtain ⟨ys, h1, h2⟩ := h.P
  rcases List.eq_nil_or_concat xs with rfl | ⟨xs', x, rfl⟩
  · have h3 : Row2 (PnE H [d, c, mk, pa] m) ys ([] ++ [x0]) := h2
    obtain ⟨zs, v, rfl, h4, h5⟩ := h3.last
    obtain ⟨q, ss, rfl, a1, a2, a3, a4, a5⟩ := h5.ex
    exact ⟨zs, q, ss, h1, h4.len, a1, a2, a3, a4, a5⟩
  · rw [List.concat_eq_append] at h2 ⊢
    have h3 : Row2 (PnE H [d, c, mk, pa] m) ys ((x0 :: xs') ++ [x]) := h2
    obtain ⟨zs, v, rfl, h4, h5⟩ := h3.last
    obtain ⟨q, ss, rfl, a1, a2, a3, a4, a5⟩ := h5.ex
    rw [curX_snoc]
    refine ⟨zs, q, ss, h1, ?_, a1, a2, a3, a4, a5⟩
    have := h4.len
    rw [List.length_cons] at this
    rw [List.length_append, List.length_singleton]
    exact this
end
theorem VP.nil : VP [] := VP.made (fun s hs => by cases hs) (by rw [Sm.sizes]; omega) (by rw [Sm.cnts]; decide) (by rw [Sm.cnts]; decide) (by rw [Sm.cnts]; decide)
/-- a program of two statements -/
theorem two_vp {m : Nat} {e : Ex} (h : (Pl.set (mkN m) e).vd) : VP [.pl (.set (mkN m) e), .pl (.tell (.name "n"))] := by
  refine VP.made (fun s hs => ?_) ?_ ?_ ?_ ?_
  · rcases List.mem_cons.mp hs with rfl | hs
    · exact h
    · rw [List.mem_singleton.mp hs]
      exact (show isNameS "n" = true by decide +kernel)
  · rw [Sm.sizes, Sm.sizes, Sm.sizes, Sm.size, Sm.size]
    decide
  · rw [Sm.cnts, Sm.cnts, Sm.cnts, Sm.cnt, Sm.cnt]
    show (1 : Int) + (1 + 0) ≤ 30
    decide
  · rw [Sm.cnts, Sm.cnts, Sm.cnts, Sm.cnt, Sm.cnt]
    show (0 : Int) + (0 + 0) ≤ 2
    decide
  · rw [Sm.cnts, Sm.cnts, Sm.cnts, Sm.cnt, Sm.cnt]
    show (0 : Int) + (0 + 0) ≤ 2
    decide
theorem setP_rd {b : List Sm} {i : Int} (h : i ∈ setP b) : i ∈ rdP b := by
  obtain ⟨j, hj, rfl⟩ := List.mem_map.mp h
  obtain ⟨h1, h2⟩ := List.mem_filter.mp hj
  have hl := List.mem_range.mp h1
  rw [set_lab] at h2
  obtain ⟨x, hx⟩ := Option.isSome_iff_exists.mp h2
  obtain ⟨e, he⟩ := lab_set hx
  refine rdP_mem hl ?_
  rw [he, Sm.d, Pl.d]
  show RDS.contains "set" = true
  decide +kernel
theorem okL_nil {m : Nat} : OkL m (labs []) [] := by
  rw [labs_nil]
  exact ⟨by simp, (fun x hx => by cases hx), (fun i (hi : i ∈ ([] : List Int)) => by cases hi), List.Pairwise.nil⟩
theorem OkL.fixed {m : Nat} {b : List Sm} {fs fx : List Int} (h : OkL m (labs b) fs) (hs : fx.Pairwise (· < ·)) (hm : ∀ x ∈ fx, x ∈ setP b) : OkL m (labs b) fx := ⟨h.nd, h.mr, fun i hi => (setP_at (hm i hi)).1, hs⟩
theorem VP.joined {b t : List Sm} (h : perr (.tuple (Sm.ds b ++ Sm.ds t)) = .none) : VP (b ++ t) := by
  obtain ⟨c, hc, hv⟩ := VP.of h
  rw [← Sm.ds_app] at hc
  rw [ds_inj hc]
  exact hv
end Aw
namespace Aw
open PySem L2
local macro_rules | `(tactic| walk_at "isa") => `(tactic| (focus (simp [isaD, tyD]; done)))
local macro_rules | `(tactic| walk_at "isa") => `(tactic| assumption)
local macro_rules | `(tactic| walk_at "hd") => `(tactic| assumption)
local macro_rules | `(tactic| walk_at "hd") => `(tactic| exact Dt.dp (by assumption))
local macro_rules | `(tactic| walk_at "hd") => `(tactic| exact Dp.non)
local macro_rules | `(tactic| walk_at "hd") => `(tactic| exact Dp.bl _)
local macro_rules | `(tactic| walk_at "hd") => `(tactic| exact Dp.str _)
local macro_rules | `(tactic| walk_at "hd") => `(tactic| exact Dp.int _)
local macro_rules | `(tactic| walk_at "ne") => `(tactic| exact Ne.symm (ne_of_none (by assumption) (by assumption)))
local macro_rules | `(tactic| walk_at "ne") => `(tactic| exact ne_of_none (by assumption) (by assumption))
local macro_rules | `(tactic| walk_at "ne") => `(tactic| exact Ne.symm (by assumption))
local macro_rules | `(tactic| walk_at "ne") => `(tactic| assumption)
local macro_rules | `(tactic| walk_at "hp") => `(tactic| ((refine Eq.trans (upd_ne ?_) ?_); (walk_at "ne"); (walk_at "hp")))
local macro_rules | `(tactic| walk_at "hp") => `(tactic| exact upd_same)
local macro_rules | `(tactic| walk_at "hp") => `(tactic| assumption)
local macro_rules | `(tactic| walk_at "hs") => `(tactic| ((with_reducible apply SqT.of); (walk_at "hp")))
local macro_rules | `(tactic| walk_at "hs") => `(tactic| ((with_reducible apply SqL.of); (walk_at "hp")))
local macro_rules | `(tactic| walk_at "hs") => `(tactic| assumption)
local macro_rules | `(tactic| walk_at "hw") => `(tactic| exact Dw.non)
local macro_rules | `(tactic| walk_at "hw") => `(tactic| exact Dw.bl _)
local macro_rules | `(tactic| walk_at "hw") => `(tactic| exact Dw.str _)
local macro_rules | `(tactic| walk_at "hw") => `(tactic| exact Dw.int _)
local macro_rules | `(tactic| walk_at "hw") => `(tactic| assumption)
local macro_rules | `(tactic| walk_at "cd") => `(tactic| repeat (first | with_reducible exact cd_str | with_reducible exact cd_int | with_reducible exact cd_non | with_reducible exact cds_nil | with_reducible refine cds_cons ?_ ?_ | with_reducible refine cd_tup ?_ (by simp) | ((with_reducible apply cd_var); (exact rfl); assumption)))
local macro_rules | `(tactic| walk_at "cw") => `(tactic| repeat (first | with_reducible exact cw_str | with_reducible exact cw_int | with_reducible exact cw_bl | with_reducible exact cw_non | with_reducible exact cw_neg | with_reducible exact cws_nil | with_reducible exact cw_pow (c_pow (by decide) (by decide) (by decide)) | with_reducible exact cw_d0 (by assumption) | with_reducible exact cw_d1 (by assumption) | with_reducible refine cws_cons ?_ ?_ | with_reducible refine cw_tup ?_ (by simp) | with_reducible refine cw_lst (by assumption) ?_ (by simp) | ((with_reducible apply cw_var); (exact rfl); assumption)))
local macro_rules | `(tactic| walk_at "sc") => `(tactic| first
  | omega | decide
  | exact c_pow (by first | decide | omega) (by decide) (by decide)
  | exact c_div (by omega) (by omega)
  | exact c_mulL (by first | decide | omega) (by first | decide | omega)
  | exact c_mulR (by first | decide | omega) (by first | decide | omega))
local macro_rules | `(tactic| walk_at "sl") => `(tactic| ((try simp only [Str.length_append]); rw [sizeLine_eq]; omega))
local macro_rules | `(tactic| walk_at "sz") => `(tactic| ((try simp only [sizeLine_eq, List.length_append, List.length_map, List.length_cons, List.length_nil, Str.length_append]); omega))
local macro_rules | `(tactic| walk_at "rds") => `(tactic| repeat (walk_at "rd1"))
local macro_rules | `(tactic| walk_at "rd") => `(tactic| repeat (walk_at "rdA"))
local macro_rules | `(tactic| walk_at "rdj") => `(tactic| repeat (walk_at "rdB"))
local macro_rules | `(tactic| walk_at "rd1") => `(tactic| ((with_reducible apply r_wF); assumption))
local macro_rules | `(tactic| walk_at "rd1") => `(tactic| ((with_reducible apply r_wR); assumption))
local macro_rules | `(tactic| walk_at "rd1") => `(tactic| ((with_reducible apply r_wS); assumption))
local macro_rules | `(tactic| walk_at "rd1") => `(tactic| ((with_reducible apply r_wN); assumption))
local macro_rules | `(tactic| walk_at "rd1") => `(tactic| with_reducible refine r_pnil ?_)
local macro_rules | `(tactic| walk_at "rd1") => `(tactic| with_reducible refine r_pcons ?_)
local macro_rules | `(tactic| walk_at "rd1") => `(tactic| (with_reducible refine r_LcTurn rfl ?_))
local macro_rules | `(tactic| walk_at "rd1") => `(tactic| ((with_reducible apply r_append); (walk_at "hp")))
local macro_rules | `(tactic| walk_at "rd1") => `(tactic| ((with_reducible apply r_isF); (walk_at "hd"); (walk_at "isa"); decide))
local macro_rules | `(tactic| walk_at "rd1") => `(tactic| ((with_reducible apply r_isT); (walk_at "hd"); (walk_at "isa"); decide))
local macro_rules | `(tactic| walk_at "rd1") => `(tactic| ((with_reducible apply r_lenT); (walk_at "hs")))
local macro_rules | `(tactic| walk_at "rd1") => `(tactic| with_reducible refine r_strS ?_)
local macro_rules | `(tactic| walk_at "rd1") => `(tactic| with_reducible refine r_strI ?_ ?_)
local macro_rules | `(tactic| walk_at "rd1") => `(tactic| with_reducible refine r_abs ?_)
local macro_rules | `(tactic| walk_at "rd1") => `(tactic| with_reducible refine r_intB ?_)
local macro_rules | `(tactic| walk_at "rd1") => `(tactic| ((with_reducible apply r_lenL); (walk_at "hs")))
local macro_rules | `(tactic| walk_at "rd1") => `(tactic| (with_reducible refine r_three ?_))
local macro_rules | `(tactic| walk_at "rd1") => `(tactic| ((with_reducible apply r_neNT); (walk_at "hs"); (walk_at "hs")))
local macro_rules | `(tactic| walk_at "rd1") => `(tactic| ((with_reducible apply r_neNL); (walk_at "hs"); (walk_at "hs")))
local macro_rules | `(tactic| walk_at "rd1") => `(tactic| ((with_reducible apply r_eqNT); (walk_at "hs"); (walk_at "hs")))
local macro_rules | `(tactic| walk_at "rd1") => `(tactic| ((with_reducible apply r_eqNL); (walk_at "hs"); (walk_at "hs")))
local macro_rules | `(tactic| walk_at "rd1") => `(tactic| with_reducible refine r_notinC ?_)
local macro_rules | `(tactic| walk_at "rd1") => `(tactic| with_reducible refine r_inC ?_)
local macro_rules | `(tactic| walk_at "rd1") => `(tactic| ((with_reducible apply r_ixD); assumption))
local macro_rules | `(tactic| walk_at "rd1") => `(tactic| ((with_reducible apply r_ixT); (walk_at "hs"); (first | exact rfl | assumption)))
local macro_rules | `(tactic| walk_at "rd1") => `(tactic| ((with_reducible apply r_ne); exact rfl))
local macro_rules | `(tactic| walk_at "rd1") => `(tactic| ((with_reducible apply r_neT); (decide +kernel); exact rfl))
local macro_rules | `(tactic| walk_at "rd1") => `(tactic| with_reducible refine r_yes ?_)
local macro_rules | `(tactic| walk_at "rd1") => `(tactic| with_reducible refine r_or ?_)
local macro_rules | `(tactic| walk_at "rd1") => `(tactic| ((with_reducible apply r_DG2i); assumption))
local macro_rules | `(tactic| walk_at "rd1") => `(tactic| ((with_reducible apply r_DG1); assumption))
local macro_rules | `(tactic| walk_at "rd1") => `(tactic| ((with_reducible apply r_DG1a); assumption))
local macro_rules | `(tactic| walk_at "rd1") => `(tactic| ((with_reducible apply r_DIn); assumption))
local macro_rules | `(tactic| walk_at "rd1") => `(tactic| ((with_reducible apply r_DG2); (walk_at "hp")))
local macro_rules | `(tactic| walk_at "rd1") => `(tactic| ((with_reducible apply r_DG2a); (walk_at "hp")))
local macro_rules | `(tactic| walk_at "rd1") => `(tactic| with_reducible refine r_forK ?_)
local macro_rules | `(tactic| walk_at "rd1") => `(tactic| with_reducible refine r_sfld ?_)
local macro_rules | `(tactic| walk_at "rd1") => `(tactic| with_reducible refine r_dput ?_)
local macro_rules | `(tactic| walk_at "rd1") => `(tactic| with_reducible refine r_forR2 ?_)
local macro_rules | `(tactic| walk_at "rd1") => `(tactic| with_reducible refine r_forL ?_)
local macro_rules | `(tactic| walk_at "rd1") => `(tactic| with_reducible refine r_forT ?_)
local macro_rules | `(tactic| walk_at "rd1") => `(tactic| (with_reducible refine r_par3 ?_))
local macro_rules | `(tactic| walk_at "rd1") => `(tactic| with_reducible refine r_retN ?_)
local macro_rules | `(tactic| walk_at "rd1") => `(tactic| with_reducible refine r_listItems ?_)
local macro_rules | `(tactic| walk_at "rd1") => `(tactic| with_reducible refine r_listVals ?_)
local macro_rules | `(tactic| walk_at "rd1") => `(tactic| with_reducible refine r_lcV ?_)
local macro_rules | `(tactic| walk_at "rd1") => `(tactic| with_reducible refine r_dpop1 ?_)
local macro_rules | `(tactic| walk_at "rd1") => `(tactic| with_reducible refine r_dget1 ?_)
local macro_rules | `(tactic| walk_at "rd1") => `(tactic| with_reducible refine r_din ?_)
local macro_rules | `(tactic| walk_at "rd1") => `(tactic| with_reducible refine r_dget ?_)
local macro_rules | `(tactic| walk_at "rd1") => `(tactic| with_reducible refine r_lcS ?_)
local macro_rules | `(tactic| walk_at "rd1") => `(tactic| with_reducible refine r_lcR2 ?_)
local macro_rules | `(tactic| walk_at "rd1") => `(tactic| with_reducible refine r_dget2 ?_)
local macro_rules | `(tactic| walk_at "rd1") => `(tactic| with_reducible refine r_lcR ?_)
local macro_rules | `(tactic| walk_at "rd1") => `(tactic| with_reducible refine r_lcL ?_)
local macro_rules | `(tactic| walk_at "rd1") => `(tactic| with_reducible refine r_chain ?_)
local macro_rules | `(tactic| walk_at "rd1") => `(tactic| with_reducible refine r_notV ?_)
local macro_rules | `(tactic| walk_at "rd1") => `(tactic| with_reducible refine r_orV ?_)
local macro_rules | `(tactic| walk_at "rd1") => `(tactic| with_reducible refine r_int ?_)
local macro_rules | `(tactic| walk_at "rd1") => `(tactic| ((with_reducible apply r_extend); (walk_at "hp"); (walk_at "hp")))
local macro_rules | `(tactic| walk_at "rd1") => `(tactic| ((with_reducible apply r_is2F); (walk_at "hw"); (walk_at "isa"); decide))
local macro_rules | `(tactic| walk_at "rd1") => `(tactic| ((with_reducible apply r_is2T); (walk_at "hw"); (walk_at "isa"); decide))
local macro_rules | `(tactic| walk_at "rd1") => `(tactic| with_reducible refine r_ipI ?_)
local macro_rules | `(tactic| walk_at "rd1") => `(tactic| with_reducible refine r_I ?_ ?_)
local macro_rules | `(tactic| walk_at "rd1") => `(tactic| with_reducible refine r_addS ?_ ?_)
local macro_rules | `(tactic| walk_at "rd1") => `(tactic| ((with_reducible apply r_eq); exact rfl))
local macro_rules | `(tactic| walk_at "rd1") => `(tactic| with_reducible refine r_and ?_)
local macro_rules | `(tactic| walk_at "rd1") => `(tactic| with_reducible refine r_forE ?_)
local macro_rules | `(tactic| walk_at "rd1") => `(tactic| ((with_reducible apply r_aug); exact rfl))
local macro_rules | `(tactic| walk_at "rd1") => `(tactic| with_reducible refine r_lcT ?_)
local macro_rules | `(tactic| walk_at "rd1") => `(tactic| with_reducible refine r_BM0 ?_)
local macro_rules | `(tactic| walk_at "rd1") => `(tactic| with_reducible refine r_BM ?_)
local macro_rules | `(tactic| walk_at "rd1") => `(tactic| ((with_reducible apply r_setL); (walk_at "hp"); (first | exact rfl | assumption)))
local macro_rules | `(tactic| walk_at "rd1") => `(tactic| with_reducible refine r_U ?_)
local macro_rules | `(tactic| walk_at "rd1") => `(tactic| ((with_reducible apply r_tyL); (walk_at "hp")))
local macro_rules | `(tactic| walk_at "rd1") => `(tactic| with_reducible refine r_sub ?_)
local macro_rules | `(tactic| walk_at "rd1") => `(tactic| with_reducible refine r_forR ?_)
local macro_rules | `(tactic| walk_at "rd1") => `(tactic| with_reducible refine r_drop ?_)
local macro_rules | `(tactic| walk_at "rd1") => `(tactic| with_reducible refine r_revL ?_)
local macro_rules | `(tactic| walk_at "rd1") => `(tactic| with_reducible refine r_andV ?_)
local macro_rules | `(tactic| walk_at "rd1") => `(tactic| with_reducible refine r_un ?_)
local macro_rules | `(tactic| walk_at "rd1") => `(tactic| with_reducible refine r_lenS ?_ ?_)
local macro_rules | `(tactic| walk_at "rd1") => `(tactic| ((with_reducible apply r_neF); (with_reducible rfl); exact rfl))
local macro_rules | `(tactic| walk_at "rd1") => `(tactic| ((with_reducible apply r_Fld); assumption; assumption; assumption; exact rfl))
local macro_rules | `(tactic| walk_at "rd1") => `(tactic| with_reducible refine r_fld ?_)
local macro_rules | `(tactic| walk_at "rd1") => `(tactic| with_reducible refine ifnF ?_)
local macro_rules | `(tactic| walk_at "rd1") => `(tactic| ((with_reducible apply r_eqF); (decide +kernel); exact rfl))
local macro_rules | `(tactic| walk_at "rd1") => `(tactic| ((with_reducible apply r_orP); (focus (intro _ hR_; (walk_at "rd"); exact hR_)); (focus (intro _ hR_; (walk_at "rd"); exact hR_))))
local macro_rules | `(tactic| walk_at "rd1") => `(tactic| ((with_reducible apply r_Meth); assumption; exact rfl))
local macro_rules | `(tactic| walk_at "rd1") => `(tactic| (with_reducible refine r_par ?_))
local macro_rules | `(tactic| walk_at "rd1") => `(tactic| with_reducible refine r_meth ?_)
local macro_rules | `(tactic| walk_at "rd1") => `(tactic| with_reducible refine ifnT ?_)
local macro_rules | `(tactic| walk_at "rd1") => `(tactic| ((with_reducible apply r_andP); (focus (intro _ hR_; (walk_at "rd"); exact hR_)); (focus (intro _ hR_; (walk_at "rd"); exact hR_))))
local macro_rules | `(tactic| walk_at "rd1") => `(tactic| (with_reducible refine r_two ?_))
local macro_rules | `(tactic| walk_at "rd1") => `(tactic| with_reducible refine r_isS ?_)
local macro_rules | `(tactic| walk_at "rd1") => `(tactic| with_reducible refine r_gnil ?_)
local macro_rules | `(tactic| walk_at "rd1") => `(tactic| ((with_reducible apply r_gtup); (walk_at "hs"); exact rfl))
local macro_rules | `(tactic| walk_at "rd1") => `(tactic| with_reducible refine r_not ?_)
local macro_rules | `(tactic| walk_at "rd1") => `(tactic| with_reducible refine r_M1 ?_)
local macro_rules | `(tactic| walk_at "rd1") => `(tactic| with_reducible refine ifF ?_)
local macro_rules | `(tactic| walk_at "rd1") => `(tactic| with_reducible refine r_B ?_)
local macro_rules | `(tactic| walk_at "rd1") => `(tactic| with_reducible refine r_CB ?_)
local macro_rules | `(tactic| walk_at "rd1") => `(tactic| with_reducible refine ifT ?_)
local macro_rules | `(tactic| walk_at "rd1") => `(tactic| (with_reducible refine r_tup ?_))
local macro_rules | `(tactic| walk_at "rd1") => `(tactic| with_reducible refine r_noPart ?_)
local macro_rules | `(tactic| walk_at "rd1") => `(tactic| with_reducible refine r_sl ?_)
local macro_rules | `(tactic| walk_at "rd1") => `(tactic| with_reducible refine r_gcons ?_)
local macro_rules | `(tactic| walk_at "rd1") => `(tactic| with_reducible refine r_part ?_)
local macro_rules | `(tactic| walk_at "rd1") => `(tactic| ((with_reducible apply r_ixL); (walk_at "hs"); (first | exact rfl | assumption)))
local macro_rules | `(tactic| walk_at "rd1") => `(tactic| with_reducible refine r_partI ?_)
local macro_rules | `(tactic| walk_at "rd1") => `(tactic| with_reducible refine r_asg ?_)
local macro_rules | `(tactic| walk_at "rd1") => `(tactic| (with_reducible refine r_lst ?_))
local macro_rules | `(tactic| walk_at "rd1") => `(tactic| ((with_reducible apply r_eqT); (with_reducible rfl); exact rfl))
local macro_rules | `(tactic| walk_at "rd1") => `(tactic| with_reducible refine r_I0 ?_)
local macro_rules | `(tactic| walk_at "rd1") => `(tactic| with_reducible refine r_ret ?_)
local macro_rules | `(tactic| walk_at "rd1") => `(tactic| with_reducible refine r_ifS ?_)
local macro_rules | `(tactic| walk_at "rd1") => `(tactic| with_reducible refine r_next ?_)
local macro_rules | `(tactic| walk_at "rd1") => `(tactic| with_reducible refine r_name ?_)
local macro_rules | `(tactic| walk_at "rd1") => `(tactic| with_reducible refine r_call ?_)
local macro_rules | `(tactic| walk_at "rd1") => `(tactic| with_reducible refine r_test ?_)
local macro_rules | `(tactic| walk_at "rd1") => `(tactic| with_reducible refine r_bl ?_)
local macro_rules | `(tactic| walk_at "rd1") => `(tactic| with_reducible refine r_nil ?_)
local macro_rules | `(tactic| walk_at "rd1") => `(tactic| with_reducible refine r_op ?_)
local macro_rules | `(tactic| walk_at "rd1") => `(tactic| with_reducible refine r_C ?_)
local macro_rules | `(tactic| walk_at "rd1") => `(tactic| ((with_reducible apply r_var); exact rfl))
local macro_rules | `(tactic| walk_at "rd1") => `(tactic| with_reducible refine r_cons ?_)
local macro_rules | `(tactic| walk_at "rdB") => `(tactic| walk_at "rd1")
local macro_rules | `(tactic| walk_at "rdB") => `(tactic| with_reducible refine r_seq ?_)
local macro_rules | `(tactic| walk_at "rdA") => `(tactic| with_reducible refine r_if ?_)
local macro_rules | `(tactic| walk_at "rdA") => `(tactic| walk_at "rd1")
local macro_rules | `(tactic| walk_at "rdA") => `(tactic| with_reducible refine r_seq ?_)
section
variable {P : Program} {w : World} {K : PySem.W.Frag} {mg : Str → Option Value} {base : Heap}
theorem ok_is_whole (D : Df K mg "is_whole" sis_whole Pis_whole) (B : Blt mg) : Has P w K mg base CX0 "is_whole" Pis_whole 1 (spWhole K) := by
  refine D.has scis_whole (fun vs H Q E h => ?_) (fun f cdv A outer s H vs Q E hr h => ?_)
  · obtain ⟨v, d, lo, hi, rfl, _⟩ := h
    rfl
  obtain ⟨v, d, lo, hi, rfl, hd, k⟩ := h
  refine ⟨_, (pss_one (ps_ret (pe_and (pe_callB c_is2 (by rfl) B.isinstance (by decide +kernel) (pa_cons (pv 0) (pa_cons (pe_ty (T := "int") (by rfl) B.int (by decide +kernel)) pa_nil))) (pe_and (pe_not (pe_callB c_is2 (by rfl) B.isinstance (by decide +kernel) (pa_cons (pv 0) (pa_cons (pe_ty (T := "bool") (by rfl) B.bool (by decide +kernel)) pa_nil)))) (pe_one (pe_chain op_le op_le (pv 1) (pv 0) (pv 2))))))), ?_⟩
  cases d with
  | int i =>
    obtain rfl := hd.isInt
    walk_at "rd"
    have q : Q (.bl (decide (lo ≤ i) && decide (i ≤ hi))) H := k
    refine ifd (fun c => ?_) (fun c => ?_)
    · walk_at "rd"
      rw [decide_eq_true c, Bool.true_and] at q
      exact q
    · rw [decide_eq_false c, Bool.false_and] at q
      exact q
  | _ => walk_at "rd"; exact k
theorem ok_is_word (D : Df K mg "is_word" sis_word Pis_word) (B : Blt mg) {t1 t2 t3 : Tok} (g_MAX_WORD : mg "MAX_WORD" = some (.int 8 t1)) (g_UNSURE_programs : mg "UNSURE_programs" = some (.str "unsure" t2)) (g_SIGNS : mg "SIGNS" = some (.str SGN t3)) :
    Has P w K mg base CX0 "is_word" Pis_word 1 (spAsk K isWord) := by
  refine D.has scis_word (fun vs H Q E h => ?_) (fun f cdv A outer s H vs Q E hr h => ?_)
  · obtain ⟨v, d, rfl, _⟩ := h
    rfl
  obtain ⟨v, d, rfl, hd, hz, k⟩ := h
  refine ⟨_, (pss_cons (ps_if (PW.pt (pw_or (pt_not (pt_val (pe_callB c_is2 (by rfl) B.isinstance (by decide +kernel) (pa_cons (pv 0) (pa_cons (pe_ty (T := "str") (by rfl) B.str (by decide +kernel)) pa_nil))))) (pw_or (pt_not (pt_chain op_le op_le pe_int (pe_callB c_len (by rfl) B.len (by decide +kernel) (pa_cons (pv 0) pa_nil)) (pe_gint (by rfl) g_MAX_WORD))) (pw_or1 (pt_cmpR op_eq (pv 0) (pe_gstr (by rfl) g_UNSURE_programs) (nomark _)))))) (pss_one (ps_ret pe_bl))
        pss_nil)
      (pss_one (ps_ret (pe_cmpR (op_eqNil hr.h64) (pe_lc (own := [("sign", 1)]) (g := gName 1) (by rfl) scis_word.nd (pi_str (pv 0)) (blkOk_by (own := [("sign", 1)]) (N := Nis_word) (sc := defScope sis_word) (by decide +kernel)) (fun _ _ _ _ _ => (pg_name (i := 1) scis_word.nd rfl (Or.inl rfl))) (fun _ _ _ _ _ => (pts_one (pt_cmpR op_notinC (pv 1) (pe_gstr (by rfl) g_SIGNS) (by rfl)))) (fun _ _ _ _ _ => (pv 1))) (pe_lst pa_nil) (nomark _))))), ?_⟩
  cases d with
  | str x =>
    obtain rfl := hd.isStr
    rw [dsz] at hz
    change ∀ H', Kp [] H H' → Q (.bl (isWordS x)) H' at k
    have kf : isWordS x = false → Q (.bl false) H := fun e => by
      have q := k H Kp.nil
      rw [e] at q
      exact q
    walk_at "rd"
    rotate_left 1
    · walk_at "sz"
    refine ifd (fun c1 => ?_) (fun c1 => ?_)
    rotate_left 1
    · walk_at "rd"
      refine kf ?_
      unfold isWordS
      rw [decide_eq_false (by omega), Bool.false_and, Bool.false_and, Bool.false_and]
    walk_at "rd"
    refine ifn (fun c2 => ?_) (fun c2 => ?_)
    · walk_at "rd"
      refine kf ?_
      unfold isWordS
      rw [decide_eq_false (p := x.length ≤ 8) (by omega), Bool.and_false, Bool.false_and, Bool.false_and]
    walk_at "rd"
    refine ifd (fun c3 => ?_) (fun c3 => ?_)
    · walk_at "rd"
      refine kf ?_
      unfold isWordS
      cases c3
      rw [decide_eq_true (p := ("unsure" : Str) = "unsure") rfl, Bool.not_true, Bool.and_false, Bool.false_and]
    have c3 : x ≠ "unsure" := fun e => c3 (by rw [e])
    walk_at "rd"
    refine r_LcSf (f := fun c => !isSgn c) (i := 1) (by omega) (fun c H' R h => ?_) (fun c H' R h => ?_) (fun _ => rfl) fun p hp => ?_
    · walk_at "rd"
      exact h
    · walk_at "rd"
      exact h
    walk_at "rd"
    refine ⟨by decide, fun q hq => ?_⟩
    have e1 : upd (upd H p (.lst ((x.cps.toList.filter fun c => !isSgn c).map fun c => V.str ⟨#[c]⟩))) q (.lst []) p = some (.lst ((x.cps.toList.filter fun c => !isSgn c).map fun c => V.str ⟨#[c]⟩)) := by
      rw [upd_ne (Ne.symm (Ne.symm (ne_of_none upd_same hq)))]
      exact upd_same
    refine r_eqNL (SqL.of e1) (SqL.of upd_same) ?_
    have q := k _ ((Kp.nil.new hp).new (o := .lst []) hq)
    unfold isWordS at q
    rw [decide_eq_true (by omega), decide_eq_true (by omega), decide_eq_false c3, Bool.not_false, Bool.true_and, Bool.true_and, Bool.true_and] at q
    rw [List.isEmpty_map, filter_all]
    exact q
  | _ => walk_at "rd"; exact k _ Kp.nil
theorem ok_is_name (D : Df K mg "is_name" sis_name Pis_name) (B : Blt mg) {t1 t2 t3 : Tok} (g_MAX_NAME : mg "MAX_NAME" = some (.int 8 t1)) (g_LETTERS : mg "LETTERS" = some (.str LETT t2)) {aK : Addr} (g_KEPT : mg "KEPT" = some (.ref aK)) (hK : ∀ H : Hp, SqT K H aK (KEPTS.map V.str)) (g_SIGNS : mg "SIGNS" = some (.str SGN t3)) :
    Has P w K mg base CX0 "is_name" Pis_name 1 (spAsk K isName) := by
  refine D.has scis_name (fun vs H Q E h => ?_) (fun f cdv A outer s H vs Q E hr h => ?_)
  · obtain ⟨v, d, rfl, _⟩ := h
    rfl
  obtain ⟨v, d, rfl, hd, hz, k⟩ := h
  refine ⟨_, (pss_cons (ps_if (PW.pt (pw_or (pt_not (pt_val (pe_callB c_is2 (by rfl) B.isinstance (by decide +kernel) (pa_cons (pv 0) (pa_cons (pe_ty (T := "str") (by rfl) B.str (by decide +kernel)) pa_nil))))) (pw_or (pt_not (pt_chain op_le op_le pe_int (pe_callB c_len (by rfl) B.len (by decide +kernel) (pa_cons (pv 0) pa_nil)) (pe_gint (by rfl) g_MAX_NAME))) (pw_or1 (pt_cmpR op_notinC (pe_ix ix_str (pv 0) pe_int (fun _ _ => rfl)) (pe_gstr (by rfl) g_LETTERS) (by rfl)))))) (pss_one (ps_ret pe_bl))
        pss_nil)
      (pss_one (ps_ret (pe_and (pe_cmpR (op_eqNil hr.h64) (pe_lc (own := [("sign", 1)]) (g := gName 1) (by rfl) scis_name.nd (pi_str (pv 0)) (blkOk_by (own := [("sign", 1)]) (N := Nis_name) (sc := defScope sis_name) (by decide +kernel)) (fun _ _ _ _ _ => (pg_name (i := 1) scis_name.nd rfl (Or.inl rfl))) (fun _ _ _ _ _ => (pts_one (pt_cmpR op_notinC (pv 1) (pe_gstr (by rfl) g_SIGNS) (by rfl)))) (fun _ _ _ _ _ => (pv 1))) (pe_lst pa_nil) (nomark _)) (pe_one (pe_cmpR op_notIn_seq (pv 0) (pe_gref (by rfl) g_KEPT) (by rfl))))))), ?_⟩
  cases d with
  | str x =>
    obtain rfl := hd.isStr
    rw [dsz] at hz
    change ∀ H', Kp [] H H' → Q (.bl (isNameS x)) H' at k
    have kf : isNameS x = false → Q (.bl false) H := fun e => by
      have q := k H Kp.nil
      rw [e] at q
      exact q
    walk_at "rd"
    rotate_left 1
    · walk_at "sz"
    refine ifd (fun c1 => ?_) (fun c1 => ?_)
    rotate_left 1
    · walk_at "rd"
      refine kf ?_
      unfold isNameS
      rw [decide_eq_false (by omega), Bool.false_and, Bool.false_and, Bool.false_and, Bool.false_and]
    walk_at "rd"
    refine ifn (fun c2 => ?_) (fun c2 => ?_)
    · walk_at "rd"
      refine kf ?_
      unfold isNameS
      rw [decide_eq_false (p := x.length ≤ 8) (by omega), Bool.and_false, Bool.false_and, Bool.false_and, Bool.false_and]
    walk_at "rd"
    have hne : x.cps.toList ≠ [] := fun e => by
      have q : x.cps.toList.length = x.length := by rw [Array.length_toList]; rfl
      rw [e, List.length_nil] at q
      omega
    obtain ⟨c0, cr, hc0⟩ := List.exists_cons_of_ne_nil hne
    have hat : atI x.cps.toList 0 = some c0 := at_nn (Int.le_refl 0) (by rw [hc0]; rfl)
    have hlet : x.cps.toList.headD 0 = c0 := by rw [hc0]; rfl
    refine r_ixS (by walk_at "sz") hat ?_
    walk_at "rd"
    refine ifn (fun c3 => ?_) (fun c3 => ?_)
    · walk_at "rd"
      refine kf ?_
      unfold isNameS isLet
      rw [hlet, decide_eq_false (p := c0 ∈ LETT.cps.toList) c3, Bool.and_false, Bool.false_and, Bool.false_and]
    walk_at "rd"
    refine r_LcSf (f := fun c => !isSgn c) (i := 1) (by omega) (fun c H' R h => ?_) (fun c H' R h => ?_) (fun _ => rfl) fun p hp => ?_
    · walk_at "rd"
      exact h
    · walk_at "rd"
      exact h
    walk_at "rd"
    refine ⟨by decide, fun q hq => ?_⟩
    have e1 : upd (upd H p (.lst ((x.cps.toList.filter fun c => !isSgn c).map fun c => V.str ⟨#[c]⟩))) q (.lst []) p = some (.lst ((x.cps.toList.filter fun c => !isSgn c).map fun c => V.str ⟨#[c]⟩)) := by
      rw [upd_ne (Ne.symm (Ne.symm (ne_of_none upd_same hq)))]
      exact upd_same
    refine r_eqNL (SqL.of e1) (SqL.of upd_same) ?_
    have q := k _ ((Kp.nil.new hp).new (o := .lst []) hq)
    unfold isNameS isLet at q
    rw [hlet, decide_eq_true (by omega), decide_eq_true (by omega), decide_eq_true c3, Bool.true_and, Bool.true_and, Bool.true_and] at q
    rw [List.isEmpty_map, filter_all]
    walk_at "rd"
    cases hall : x.cps.toList.all isSgn with
    | false =>
      rw [hall, Bool.false_and] at q
      walk_at "rd"
      exact q
    | true =>
      rw [hall, Bool.true_and] at q
      walk_at "rd"
      refine ⟨aK, _, rfl, .inr (hK _), rfl, by decide +kernel, ?_⟩
      rw [if_pos rfl, inV_strs]
      exact q
  | _ => walk_at "rd"; exact k _ Kp.nil
theorem ok_is_expression1 (D : Df K mg "is_expression" sis_expression Pis_expression) (B : Blt mg) {n lv : Nat} {sp2 : Sp} {t1 t2 : Tok} (hlv : 1 ≤ lv)
    (g_MOST_NUMBER : mg "MOST_NUMBER" = some (.int 99 t1)) (g_MOST_FACTOR : mg "MOST_FACTOR" = some (.int 9 t2))
    (Gis_whole : Has P w K mg base CX0 "is_whole" ["value", "least", "most"] 1 (spWhole K)) (Gis_name : Has P w K mg base CX0 "is_name" ["value"] 1 (spAsk K isName))
    (Gis_expression : Has P w K mg base CX0 "is_expression" Pis_expression lv sp2) (hs : ∀ m, n = m + 1 → sp2 = spAskN K isExpr m) :
    Has P w K mg base CX0 "is_expression" Pis_expression (lv + 1) (spAskN K isExpr n) := by
  refine D.has scis_expression (fun vs H Q E h => ?_) (fun f cdv A outer s H vs Q E hr h => ?_)
  · obtain ⟨v, d, rfl, _⟩ := h
    rfl
  obtain ⟨v, d, rfl, hd, hz, k⟩ := h
  refine ⟨_, (pss_cons (ps_if (pt_cmpR op_eq (pv 1) pe_int (nomark _)) (pss_one (ps_ret pe_bl))
        pss_nil)
      (pss_cons (ps_if (pt_not (pt_val (pe_callB c_is2 (by rfl) B.isinstance (by decide +kernel) (pa_cons (pv 0) (pa_cons (pe_ty (T := "tuple") (by rfl) B.tuple (by decide +kernel)) pa_nil))))) (pss_one (ps_ret (pe_or (pe_f Gis_name (hr.mono (by omega)) (by rfl) pass0 (pa_cons (pv 0) pa_nil)) (pe_one (pe_f Gis_whole (hr.mono (by omega)) (by rfl) pass0 (pa_cons (pv 0) (pa_cons (pe_op op_sub pe_int (pe_gint (by rfl) g_MOST_NUMBER)) (pa_cons (pe_gint (by rfl) g_MOST_NUMBER) pa_nil))))))))
        pss_nil)
      (pss_cons (ps_if (PW.pt (pw_or (pt_cmpR op_ne (pe_callB c_len (by rfl) B.len (by decide +kernel) (pa_cons (pv 0) pa_nil)) pe_int (nomark _)) (pw_or (pt_not (pt_val (pe_callB c_is2 (by rfl) B.isinstance (by decide +kernel) (pa_cons (pe_ix ix_tup (pv 0) pe_int (fun _ _ => rfl)) (pa_cons (pe_ty (T := "str") (by rfl) B.str (by decide +kernel)) pa_nil))))) (pw_or1 (pt_not (pt_val (pe_f Gis_expression (hr.mono (by omega)) (by rfl) pass0 (pa_cons (pe_ix ix_tup (pv 0) pe_int (fun _ _ => rfl)) (pa_cons (pe_op op_sub (pv 1) pe_int) pa_nil))))))))) (pss_one (ps_ret pe_bl))
        pss_nil)
      (pss_cons (ps_if (pt_cmpR op_eq (pe_ix ix_tup (pv 0) pe_int (fun _ _ => rfl)) pe_str (nomark _)) (pss_one (ps_ret (pe_f Gis_whole (hr.mono (by omega)) (by rfl) pass0 (pa_cons (pe_ix ix_tup (pv 0) pe_int (fun _ _ => rfl)) (pa_cons (pe_op op_sub pe_int (pe_gint (by rfl) g_MOST_FACTOR)) (pa_cons (pe_gint (by rfl) g_MOST_FACTOR) pa_nil))))))
        pss_nil)
      (pss_one (ps_ret (pe_and (pe_cmpR op_in_seq (pe_ix ix_tup (pv 0) pe_int (fun _ _ => rfl)) (pe_tup (pa_cons pe_str (pa_cons pe_str pa_nil))) (by rfl)) (pe_one (pe_f Gis_expression (hr.mono (by omega)) (by rfl) pass0 (pa_cons (pe_ix ix_tup (pv 0) pe_int (fun _ _ => rfl)) (pa_cons (pe_op op_sub (pv 1) pe_int) pa_nil))))))))))), ?_⟩
  walk_at "rd"
  refine ifd (fun c => ?_) (fun c => ?_)
  · obtain rfl : n = 0 := by
      have q := V.int.inj c
      omega
    walk_at "rd"
    exact k _ Kp.nil
  obtain ⟨m, rfl⟩ : ∃ m, n = m + 1 := ⟨n - 1, by
    have q : n ≠ 0 := fun e => c (by rw [e]; rfl)
    omega⟩
  obtain rfl := hs m rfl
  have em : ((m + 1 : Nat) : Int) - 1 = (m : Int) := by omega
  cases d with
  | tuple ds =>
    obtain ⟨a, xs, rfl, hT, hL⟩ := hd.items
    rw [dsz] at hz
    change ∀ H', Kp [] H H' → Q (.bl (isExprL (isExpr m) ds)) H' at k
    walk_at "rd"
    refine ifn (fun c1 => ?_) (fun c1 => ?_)
    · walk_at "rd"
      have q := k _ Kp.nil
      rw [isExprL_len (fun e => c1 (by rw [hL.len, e]; rfl))] at q
      exact q
    have c1 : xs.length = 3 := by
      have q := V.int.inj c1
      omega
    obtain ⟨x, y, z, d0, d1, d2, rfl, rfl, h0, h1, h2⟩ := hL.is3 c1
    simp only [dszs] at hz
    walk_at "rd"
    cases hx : isaD d0 "str" with
    | false =>
      walk_at "rd"
      have q := k _ Kp.nil
      rw [isExprL_str hx] at q
      exact q
    | true =>
      obtain ⟨u, rfl⟩ := isStr_of hx
      obtain rfl := h0.isStr
      walk_at "rd"
      refine ⟨z, d2, by rw [em]; rfl, h2, by omega, fun H1 k1 => ?_⟩
      have hT1 := sqT_kp k1 hT
      cases he : isExpr m d2 with
      | false =>
        walk_at "rd"
        have q := k _ k1
        rw [isExprL, he, Bool.false_and] at q
        exact q
      | true =>
        rw [isExprL, he, Bool.true_and] at k
        walk_at "rd"
        refine ifd (fun c2 => ?_) (fun c2 => ?_)
        · walk_at "rd"
          refine ⟨y, d1, _, _, rfl, h1.kp0 k1, ?_⟩
          have q := k _ k1
          rw [if_pos (V.str.inj c2)] at q
          exact q
        have c2 : u ≠ "times" := fun e => c2 (by rw [e])
        simp only [if_neg c2] at k
        walk_at "rd"
        refine ⟨by decide, fun p hp => ?_⟩
        have k2 : Kp [] H (upd H1 p (.tup [.str "plus", .str "minus"])) := k1.new hp
        refine r_in (.inr (SqT.of upd_same)) rfl rfl ?_
        have e2 : inV (.str u) [.str "plus", .str "minus"] = (decide (u = "plus") || decide (u = "minus")) := inV_two u "plus" "minus"
        rw [e2]
        walk_at "rd"
        cases he2 : (decide (u = "plus") || decide (u = "minus")) with
        | false =>
          walk_at "rd"
          have q := k _ k2
          rw [he2, Bool.false_and] at q
          exact q
        | true =>
          have hT2 := sqT_kp k2 hT
          rw [he2, Bool.true_and] at k
          walk_at "rd"
          refine ⟨y, d1, by rw [em]; rfl, h1.kp0 k2, by omega, fun H3 k3 => ?_⟩
          exact k _ (k2.trans k3)
  | _ =>
    walk_at "rd"
    refine ⟨v, _, rfl, hd, hz, fun H1 k1 => ?_⟩
    have hd1 := hd.kp0 k1
    have q := k _ k1
    rw [isExpr, isExprW] at q
    · cases hN : isName _ with
      | true =>
        rw [hN, Bool.true_or] at q
        walk_at "rd"
        exact q
      | false =>
        rw [hN, Bool.false_or] at q
        walk_at "rd"
        exact ⟨v, _, _, _, rfl, hd1, q⟩
    · intro ds e
      cases e
theorem ok_is_rest (D : Df K mg "is_rest" sis_rest Pis_rest) (B : Blt mg) {lv : Nat} {t1 t2 : Tok} (hlv : 1 ≤ lv)
    (g_MAX_DEEP : mg "MAX_DEEP" = some (.int 3 t1)) (g_MAX_BY : mg "MAX_BY" = some (.int 6 t2))
    (Gis_whole : Has P w K mg base CX0 "is_whole" ["value", "least", "most"] 1 (spWhole K))
    (Gis_expression : Has P w K mg base CX0 "is_expression" ["value", "left"] lv (spAskN K isExpr 3)) :
    Has P w K mg base CX0 "is_rest" Pis_rest (lv + 1) (spAskL K isRestL) := by
  refine D.has scis_rest (fun vs H Q E h => ?_) (fun f cdv A outer s H vs Q E hr h => ?_)
  · obtain ⟨v, ds, rfl, _⟩ := h
    rfl
  obtain ⟨v, ds, rfl, hd, hz, k⟩ := h
  refine ⟨_, (pss_cons (ps_if (PW.pt (pw_or (pt_cmpR op_ne (pe_callB c_len (by rfl) B.len (by decide +kernel) (pa_cons (pv 0) pa_nil)) pe_int (nomark _)) (pw_or (pt_not (pt_val (pe_f Gis_expression (hr.mono (by omega)) (by rfl) pass0 (pa_cons (pe_ix ix_tup (pv 0) pe_int (fun _ _ => rfl)) (pa_cons (pe_gint (by rfl) g_MAX_DEEP) pa_nil))))) (pw_or1 (pt_not (pt_val (pe_f Gis_whole (hr.mono (by omega)) (by rfl) pass0 (pa_cons (pe_ix ix_tup (pv 0) pe_int (fun _ _ => rfl)) (pa_cons pe_int (pa_cons (pe_gint (by rfl) g_MAX_BY) pa_nil)))))))))) (pss_one (ps_ret pe_bl))
        pss_nil)
      (pss_one (ps_ret (pe_f Gis_whole (hr.mono (by omega)) (by rfl) pass0 (pa_cons (pe_ix ix_tup (pv 0) pe_int (fun _ _ => rfl)) (pa_cons pe_int (pa_cons (pe_op op_sub (pe_ix ix_tup (pv 0) pe_int (fun _ _ => rfl)) pe_int) pa_nil))))))), ?_⟩
  obtain ⟨a, xs, rfl, hT, hL⟩ := hd.items
  walk_at "rd"
  refine ifn (fun c1 => ?_) (fun c1 => ?_)
  · walk_at "rd"
    have q := k _ Kp.nil
    rw [isRestL_len (fun e => c1 (by rw [hL.len, e]; rfl))] at q
    exact q
  have c1 : xs.length = 4 := by
    have q := V.int.inj c1
    omega
  obtain ⟨x, y, z, u, d0, d1, d2, d3, rfl, rfl, h0, h1, h2, h3⟩ := hL.is4 c1
  simp only [dszs] at hz
  rw [isRestL4] at k
  walk_at "rd"
  refine ⟨y, d1, rfl, h1, by omega, fun H1 k1 => ?_⟩
  have hT1 := sqT_kp k1 hT
  cases he : isExpr 3 d1 with
  | false =>
    walk_at "rd"
    have q := k _ k1
    rw [he, Bool.false_and] at q
    exact q
  | true =>
    rw [he, Bool.true_and] at k
    walk_at "rd"
    refine ⟨z, d2, _, _, rfl, h2.kp0 k1, ?_⟩
    cases hw : isWhole 2 6 d2 with
    | false =>
      walk_at "rd"
      have q := k _ k1
      rw [hw, Bool.false_and] at q
      exact q
    | true =>
      rw [hw, Bool.true_and] at k
      obtain ⟨i, rfl, i1, i2⟩ := whole_view hw
      obtain rfl := h2.isInt
      walk_at "rd"
      exact ⟨u, d3, _, _, rfl, h3.kp0 k1, k _ k1⟩
theorem ok_is_test1 (D : Df K mg "is_test" sis_test Pis_test) (B : Blt mg) {n lv : Nat} {sp2 : Sp} {t1 : Tok} (hlv : 6 ≤ lv)
    (g_MAX_DEEP : mg "MAX_DEEP" = some (.int 3 t1)) (Gis_rest : Has P w K mg base CX0 "is_rest" ["value"] 6 (spAskL K isRestL))
    (Gis_name : Has P w K mg base CX0 "is_name" ["value"] 1 (spAsk K isName)) (Gis_expression : Has P w K mg base CX0 "is_expression" ["value", "left"] 5 (spAskN K isExpr 3))
    (Gis_test : Has P w K mg base CX0 "is_test" Pis_test lv sp2) (hs : ∀ m, n = m + 1 → sp2 = spAskN K isTest m) :
    Has P w K mg base CX0 "is_test" Pis_test (lv + 1) (spAskN K isTest n) := by
  refine D.has scis_test (fun vs H Q E h => ?_) (fun f cdv A outer s H vs Q E hr h => ?_)
  · obtain ⟨v, d, rfl, _⟩ := h
    rfl
  obtain ⟨v, d, rfl, hd, hz, k⟩ := h
  refine ⟨_, (pss_cons (ps_if (PW.pt (pw_or (pt_not (pt_val (pe_callB c_is2 (by rfl) B.isinstance (by decide +kernel) (pa_cons (pv 0) (pa_cons (pe_ty (T := "tuple") (by rfl) B.tuple (by decide +kernel)) pa_nil))))) (pw_or (pt_cmpR op_eq (pe_callB c_len (by rfl) B.len (by decide +kernel) (pa_cons (pv 0) pa_nil)) pe_int (nomark _)) (pw_or1 (pt_not (pt_val (pe_callB c_is2 (by rfl) B.isinstance (by decide +kernel) (pa_cons (pe_ix ix_tup (pv 0) pe_int (fun _ _ => rfl)) (pa_cons (pe_ty (T := "str") (by rfl) B.str (by decide +kernel)) pa_nil))))))))) (pss_one (ps_ret pe_bl))
        pss_nil)
      (pss_cons (ps_if (pt_cmpR op_eq (pe_ix ix_tup (pv 0) pe_int (fun _ _ => rfl)) pe_str (nomark _)) (pss_one (ps_ret (pe_and (pe_cmpR op_eq (pe_callB c_len (by rfl) B.len (by decide +kernel) (pa_cons (pv 0) pa_nil)) pe_int (nomark _)) (pe_and (pe_f Gis_expression (hr.mono (by omega)) (by rfl) pass0 (pa_cons (pe_ix ix_tup (pv 0) pe_int (fun _ _ => rfl)) (pa_cons (pe_gint (by rfl) g_MAX_DEEP) pa_nil))) (pe_one (pe_f Gis_expression (hr.mono (by omega)) (by rfl) pass0 (pa_cons (pe_ix ix_tup (pv 0) pe_int (fun _ _ => rfl)) (pa_cons (pe_gint (by rfl) g_MAX_DEEP) pa_nil))))))))
        pss_nil)
      (pss_cons (ps_if (pt_cmpR op_eq (pe_ix ix_tup (pv 0) pe_int (fun _ _ => rfl)) pe_str (nomark _)) (pss_one (ps_ret (pe_f Gis_rest (hr.mono (by omega)) (by rfl) pass0 (pa_cons (pv 0) pa_nil))))
        pss_nil)
      (pss_cons (ps_if (pt_cmpR op_eq (pe_ix ix_tup (pv 0) pe_int (fun _ _ => rfl)) pe_str (nomark _)) (pss_one (ps_ret (pe_and (pe_cmpR op_eq (pe_callB c_len (by rfl) B.len (by decide +kernel) (pa_cons (pv 0) pa_nil)) pe_int (nomark _)) (pe_one (pe_f Gis_name (hr.mono (by omega)) (by rfl) pass0 (pa_cons (pe_ix ix_tup (pv 0) pe_int (fun _ _ => rfl)) pa_nil))))))
        pss_nil)
      (pss_one (ps_ret (pe_and (pe_cmpR op_eq (pe_ix ix_tup (pv 0) pe_int (fun _ _ => rfl)) pe_str (nomark _)) (pe_and (pe_cmpR op_eq (pe_callB c_len (by rfl) B.len (by decide +kernel) (pa_cons (pv 0) pa_nil)) pe_int (nomark _)) (pe_and (pe_cmpR op_gt (pv 1) pe_int (nomark _)) (pe_one (pe_f Gis_test (hr.mono (by omega)) (by rfl) pass0 (pa_cons (pe_ix ix_tup (pv 0) pe_int (fun _ _ => rfl)) (pa_cons (pe_op op_sub (pv 1) pe_int) pa_nil))))))))))))), ?_⟩
  obtain ⟨F, hF, hF2⟩ : ∃ F : PyData → Bool, isTest n d = isTestW F d ∧ ((n = 0 ∧ F = fun _ => false) ∨ ∃ m, n = m + 1 ∧ F = isTest m) := isTest_F n d
  rw [hF] at k
  cases d with
  | tuple ds =>
    obtain ⟨a, xs, rfl, hT, hL⟩ := hd.items
    rw [dsz] at hz
    cases ds with
    | nil =>
      obtain rfl := hL.inv0
      walk_at "rd"
      exact k _ Kp.nil
    | cons d0 r =>
      obtain ⟨x, ys, rfl, h0, hR⟩ := hL.inv
      rw [dszs] at hz
      have hlen := hR.len
      walk_at "rd"
      refine ifd (fun c => ?_) (fun _ => ?_)
      · have q := V.int.inj c
        rw [List.length_cons] at q
        omega
      have hx0 : atI (x :: ys) 0 = some x := at_nn (Int.le_refl 0) rfl
      walk_at "rd"
      cases hx : isaD d0 "str" with
      | false =>
        walk_at "rd"
        have q := k _ Kp.nil
        rw [isTestW_str hx] at q
        exact q
      | true =>
        obtain ⟨u, rfl⟩ := isStr_of hx
        obtain rfl := h0.isStr
        change ∀ H', Kp [] H H' → Q (.bl (isTestL F u r)) H' at k
        unfold isTestL at k
        walk_at "rd"
        refine ifd (fun c1 => ?_) (fun c1 => ?_)
        · simp only [if_pos (V.str.inj c1)] at k
          walk_at "rd"
          refine ifd (fun c2 => ?_) (fun c2 => ?_)
          rotate_left 1
          · have q := k _ Kp.nil
            rw [two_len (fun e => c2 (by rw [List.length_cons, hlen, e]; rfl))] at q
            exact q
          have c2 : ys.length = 2 := by
            have q := V.int.inj c2
            rw [List.length_cons] at q
            omega
          obtain ⟨y, z, d1, d2, rfl, rfl, h1, h2⟩ := hR.is2 c2
          simp only [dszs] at hz
          simp only [two] at k
          walk_at "rd"
          refine ⟨y, d1, rfl, h1, by omega, fun H1 k1 => ?_⟩
          have hT1 := sqT_kp k1 hT
          cases he : isExpr 3 d1 with
          | false =>
            walk_at "rd"
            have q := k _ k1
            rw [he, Bool.false_and] at q
            exact q
          | true =>
            rw [he] at k
            simp only [Bool.true_and] at k
            walk_at "rd"
            exact ⟨z, d2, rfl, h2.kp0 k1, by omega, fun H2 k2 => k _ (k1.trans k2)⟩
        have c1 : u ≠ "less" := fun e => c1 (by rw [e])
        simp only [if_neg c1] at k
        walk_at "rd"
        refine ifd (fun c2 => ?_) (fun c2 => ?_)
        · simp only [if_pos (V.str.inj c2)] at k
          walk_at "rd"
          exact ⟨_, _, rfl, hd, by rw [dszs]; omega, k⟩
        have c2 : u ≠ "rest" := fun e => c2 (by rw [e])
        simp only [if_neg c2] at k
        walk_at "rd"
        refine ifd (fun c3 => ?_) (fun c3 => ?_)
        · simp only [if_pos (V.str.inj c3)] at k
          walk_at "rd"
          refine ifd (fun c4 => ?_) (fun c4 => ?_)
          rotate_left 1
          · have q := k _ Kp.nil
            rw [one_len (fun e => c4 (by rw [List.length_cons, hlen, e]; rfl))] at q
            exact q
          have c4 : ys.length = 1 := by
            have q := V.int.inj c4
            rw [List.length_cons] at q
            omega
          obtain ⟨y, d1, rfl, rfl, h1⟩ := hR.is1 c4
          simp only [dszs] at hz
          walk_at "rd"
          exact ⟨y, d1, rfl, h1, by omega, k⟩
        have c3 : u ≠ "given" := fun e => c3 (by rw [e])
        simp only [if_neg c3] at k
        walk_at "rd"
        refine ifd (fun c4 => ?_) (fun c4 => ?_)
        rotate_left 1
        · have c4 : u ≠ "not" := fun e => c4 (by rw [e])
          simp only [if_neg c4] at k
          exact k _ Kp.nil
        simp only [if_pos (V.str.inj c4)] at k
        walk_at "rd"
        refine ifd (fun c5 => ?_) (fun c5 => ?_)
        rotate_left 1
        · have q := k _ Kp.nil
          rw [one_len (fun e => c5 (by rw [List.length_cons, hlen, e]; rfl))] at q
          exact q
        have c5 : ys.length = 1 := by
          have q := V.int.inj c5
          rw [List.length_cons] at q
          omega
        obtain ⟨y, d1, rfl, rfl, h1⟩ := hR.is1 c5
        simp only [dszs] at hz
        walk_at "rd"
        refine ifd (fun c6 => ?_) (fun c6 => ?_)
        rotate_left 1
        · rcases hF2 with ⟨rfl, rfl⟩ | ⟨m, rfl, _⟩
          · exact k _ Kp.nil
          · omega
        rcases hF2 with ⟨rfl, rfl⟩ | ⟨m, rfl, rfl⟩
        · omega
        obtain rfl := hs m rfl
        have em : ((m + 1 : Nat) : Int) - 1 = (m : Int) := by omega
        walk_at "rd"
        exact ⟨y, d1, by rw [em]; rfl, h1, by omega, k⟩
  | _ => walk_at "rd"; exact k _ Kp.nil
theorem ok_is_plain (D : Df K mg "is_plain" sis_plain Pis_plain) (B : Blt mg) {t1 : Tok}
    (g_MAX_DEEP : mg "MAX_DEEP" = some (.int 3 t1)) (Gis_word : Has P w K mg base CX0 "is_word" ["value"] 1 (spAsk K isWord))
    (Gis_name : Has P w K mg base CX0 "is_name" ["value"] 1 (spAsk K isName)) (Gis_expression : Has P w K mg base CX0 "is_expression" ["value", "left"] 5 (spAskN K isExpr 3)) :
    Has P w K mg base CX0 "is_plain" Pis_plain 6 (spAskT K isPlainL) := by
  refine D.has scis_plain (fun vs H Q E h => ?_) (fun f cdv A outer s H vs Q E hr h => ?_)
  · obtain ⟨v, w, r, rfl, _⟩ := h
    rfl
  obtain ⟨v, u, r, rfl, hd, hz, k⟩ := h
  refine ⟨_, (pss_cons (ps_if (pt_cmpR op_eq (pe_ix ix_tup (pv 0) pe_int (fun _ _ => rfl)) pe_str (nomark _)) (pss_one (ps_ret (pe_and (pe_cmpR op_eq (pe_callB c_len (by rfl) B.len (by decide +kernel) (pa_cons (pv 0) pa_nil)) pe_int (nomark _)) (pe_and (pe_f Gis_name (hr.mono (by omega)) (by rfl) pass0 (pa_cons (pe_ix ix_tup (pv 0) pe_int (fun _ _ => rfl)) pa_nil)) (pe_one (pe_f Gis_expression (hr.mono (by omega)) (by rfl) pass0 (pa_cons (pe_ix ix_tup (pv 0) pe_int (fun _ _ => rfl)) (pa_cons (pe_gint (by rfl) g_MAX_DEEP) pa_nil))))))))
        pss_nil)
      (pss_cons (ps_if (pt_cmpR op_eq (pe_ix ix_tup (pv 0) pe_int (fun _ _ => rfl)) pe_str (nomark _)) (pss_one (ps_ret (pe_and (pe_cmpR op_eq (pe_callB c_len (by rfl) B.len (by decide +kernel) (pa_cons (pv 0) pa_nil)) pe_int (nomark _)) (pe_one (pe_f Gis_name (hr.mono (by omega)) (by rfl) pass0 (pa_cons (pe_ix ix_tup (pv 0) pe_int (fun _ _ => rfl)) pa_nil))))))
        pss_nil)
      (pss_cons (ps_if (pt_cmpR op_eq (pe_ix ix_tup (pv 0) pe_int (fun _ _ => rfl)) pe_str (nomark _)) (pss_one (ps_ret (pe_and (pe_cmpR op_eq (pe_callB c_len (by rfl) B.len (by decide +kernel) (pa_cons (pv 0) pa_nil)) pe_int (nomark _)) (pe_one (pe_f Gis_expression (hr.mono (by omega)) (by rfl) pass0 (pa_cons (pe_ix ix_tup (pv 0) pe_int (fun _ _ => rfl)) (pa_cons (pe_gint (by rfl) g_MAX_DEEP) pa_nil)))))))
        pss_nil)
      (pss_one (ps_ret (pe_and (pe_cmpR op_in_seq (pe_ix ix_tup (pv 0) pe_int (fun _ _ => rfl)) (pe_tup (pa_cons pe_str (pa_cons pe_str pa_nil))) (by rfl)) (pe_and (pe_cmpR op_eq (pe_callB c_len (by rfl) B.len (by decide +kernel) (pa_cons (pv 0) pa_nil)) pe_int (nomark _)) (pe_one (pe_f Gis_word (hr.mono (by omega)) (by rfl) pass0 (pa_cons (pe_ix ix_tup (pv 0) pe_int (fun _ _ => rfl)) pa_nil)))))))))), ?_⟩
  obtain ⟨a, xs, rfl, hT, hL⟩ := hd.items
  obtain ⟨x, ys, rfl, h0, hR⟩ := hL.inv
  obtain rfl := h0.isStr
  have hlen := hR.len
  have hx0 : atI (V.str u :: ys) 0 = some (V.str u) := at_nn (Int.le_refl 0) rfl
  unfold isPlainL at k
  walk_at "rd"
  refine ifd (fun c1 => ?_) (fun c1 => ?_)
  · simp only [if_pos (V.str.inj c1)] at k
    walk_at "rd"
    refine ifd (fun c2 => ?_) (fun c2 => ?_)
    rotate_left 1
    · have q := k _ Kp.nil
      rw [two_len (fun e => c2 (by rw [List.length_cons, hlen, e]; rfl))] at q
      exact q
    have c2 : ys.length = 2 := by
      have q := V.int.inj c2
      rw [List.length_cons] at q
      omega
    obtain ⟨y, z, d1, d2, rfl, rfl, h1, h2⟩ := hR.is2 c2
    simp only [dszs] at hz
    simp only [two] at k
    walk_at "rd"
    refine ⟨y, d1, rfl, h1, by omega, fun H1 k1 => ?_⟩
    have hT1 := sqT_kp k1 hT
    cases he : isName d1 with
    | false =>
      walk_at "rd"
      have q := k _ k1
      rw [he, Bool.false_and] at q
      exact q
    | true =>
      rw [he] at k
      simp only [Bool.true_and] at k
      walk_at "rd"
      exact ⟨z, d2, rfl, h2.kp0 k1, by omega, fun H2 k2 => k _ (k1.trans k2)⟩
  have c1 : u ≠ "set" := fun e => c1 (by rw [e])
  simp only [if_neg c1] at k
  walk_at "rd"
  refine ifd (fun c3 => ?_) (fun c3 => ?_)
  · simp only [if_pos (V.str.inj c3)] at k
    walk_at "rd"
    refine ifd (fun c4 => ?_) (fun c4 => ?_)
    rotate_left 1
    · have q := k _ Kp.nil
      rw [one_len (fun e => c4 (by rw [List.length_cons, hlen, e]; rfl))] at q
      exact q
    have c4 : ys.length = 1 := by
      have q := V.int.inj c4
      rw [List.length_cons] at q
      omega
    obtain ⟨y, d1, rfl, rfl, h1⟩ := hR.is1 c4
    simp only [dszs] at hz
    walk_at "rd"
    exact ⟨y, d1, rfl, h1, by omega, k⟩
  have c3 : u ≠ "unset" := fun e => c3 (by rw [e])
  simp only [if_neg c3] at k
  walk_at "rd"
  refine ifd (fun c5 => ?_) (fun c5 => ?_)
  · simp only [if_pos (V.str.inj c5)] at k
    walk_at "rd"
    refine ifd (fun c4 => ?_) (fun c4 => ?_)
    rotate_left 1
    · have q := k _ Kp.nil
      rw [one_len (fun e => c4 (by rw [List.length_cons, hlen, e]; rfl))] at q
      exact q
    have c4 : ys.length = 1 := by
      have q := V.int.inj c4
      rw [List.length_cons] at q
      omega
    obtain ⟨y, d1, rfl, rfl, h1⟩ := hR.is1 c4
    simp only [dszs] at hz
    walk_at "rd"
    exact ⟨y, d1, rfl, h1, by omega, k⟩
  have c5 : u ≠ "tell" := fun e => c5 (by rw [e])
  simp only [if_neg c5] at k
  walk_at "rd"
  refine ⟨by decide, fun p hp => ?_⟩
  have k2 : Kp [] H (upd H p (.tup [.str "say", .str "stop"])) := Kp.nil.new hp
  have hT2 := sqT_kp k2 hT
  refine r_in (.inr (SqT.of upd_same)) rfl rfl ?_
  rw [inV_two u "say" "stop"]
  generalize upd H p (.tup [.str "say", .str "stop"]) = H2 at k2 hT2 ⊢
  cases he2 : (decide (u = "say") || decide (u = "stop")) with
  | false =>
    walk_at "rd"
    have q := k _ k2
    rw [if_neg (by intro e; rw [Bool.or_eq_false_iff, decide_eq_false_iff_not, decide_eq_false_iff_not] at he2; exact e.elim he2.1 he2.2)] at q
    exact q
  | true =>
    rw [Bool.or_eq_true, decide_eq_true_eq, decide_eq_true_eq] at he2
    simp only [if_pos he2] at k
    walk_at "rd"
    refine ifd (fun c4 => ?_) (fun c4 => ?_)
    rotate_left 1
    · have q := k _ k2
      rw [one_len (fun e => c4 (by rw [List.length_cons, hlen, e]; rfl))] at q
      exact q
    have c4 : ys.length = 1 := by
      have q := V.int.inj c4
      rw [List.length_cons] at q
      omega
    obtain ⟨y, d1, rfl, rfl, h1⟩ := hR.is1 c4
    simp only [dszs] at hz
    walk_at "rd"
    exact ⟨y, d1, rfl, h1.kp0 k2, by omega, fun H3 k3 => k _ (k2.trans k3)⟩
theorem ok_is_statement (D : Df K mg "is_statement" sis_statement Pis_statement) (B : Blt mg) {t1 t2 : Tok}
    (g_MAX_NOTS : mg "MAX_NOTS" = some (.int 2 t1)) (g_MAX_TIMES : mg "MAX_TIMES" = some (.int 8 t2)) (Gis_whole : Has P w K mg base CX0 "is_whole" ["value", "least", "most"] 1 (spWhole K))
    (Gis_test : Has P w K mg base CX0 "is_test" ["value", "nots"] 9 (spAskN K isTest 2)) (Gis_plain : Has P w K mg base CX0 "is_plain" ["value"] 6 (spAskT K isPlainL)) :
    Has P w K mg base CX0 "is_statement" Pis_statement 10 (spAsk K isStmt) := by
  refine D.has scis_statement (fun vs H Q E h => ?_) (fun f cdv A outer s H vs Q E hr h => ?_)
  · obtain ⟨v, d, rfl, _⟩ := h
    rfl
  obtain ⟨v, d, rfl, hd, hz, k⟩ := h
  refine ⟨_, (pss_cons (ps_if (PW.pt (pw_or (pt_not (pt_val (pe_callB c_is2 (by rfl) B.isinstance (by decide +kernel) (pa_cons (pv 0) (pa_cons (pe_ty (T := "tuple") (by rfl) B.tuple (by decide +kernel)) pa_nil))))) (pw_or (pt_cmpR op_eq (pe_callB c_len (by rfl) B.len (by decide +kernel) (pa_cons (pv 0) pa_nil)) pe_int (nomark _)) (pw_or1 (pt_not (pt_val (pe_callB c_is2 (by rfl) B.isinstance (by decide +kernel) (pa_cons (pe_ix ix_tup (pv 0) pe_int (fun _ _ => rfl)) (pa_cons (pe_ty (T := "str") (by rfl) B.str (by decide +kernel)) pa_nil))))))))) (pss_one (ps_ret pe_bl))
        pss_nil)
      (pss_cons (ps_if (pt_cmpR op_eq (pe_ix ix_tup (pv 0) pe_int (fun _ _ => rfl)) pe_str (nomark _)) (pss_cons (ps_if (PW.pt (pw_or (pt_cmpR op_ne (pe_callB c_len (by rfl) B.len (by decide +kernel) (pa_cons (pv 0) pa_nil)) pe_int (nomark _)) (pw_or1 (pt_not (pt_val (pe_f Gis_test (hr.mono (by omega)) (by rfl) pass0 (pa_cons (pe_ix ix_tup (pv 0) pe_int (fun _ _ => rfl)) (pa_cons (pe_gint (by rfl) g_MAX_NOTS) pa_nil)))))))) (pss_one (ps_ret pe_bl))
        pss_nil)
      (pss_one (ps_ret (pe_and (pe_callB c_is2 (by rfl) B.isinstance (by decide +kernel) (pa_cons (pe_ix ix_tup (pv 0) pe_int (fun _ _ => rfl)) (pa_cons (pe_ty (T := "tuple") (by rfl) B.tuple (by decide +kernel)) pa_nil))) (pe_one (pe_callB c_is2 (by rfl) B.isinstance (by decide +kernel) (pa_cons (pe_ix ix_tup (pv 0) pe_int (fun _ _ => rfl)) (pa_cons (pe_ty (T := "tuple") (by rfl) B.tuple (by decide +kernel)) pa_nil))))))))
        pss_nil)
      (pss_cons (ps_if (pt_cmpR op_eq (pe_ix ix_tup (pv 0) pe_int (fun _ _ => rfl)) pe_str (nomark _)) (pss_one (ps_ret (pe_and (pe_cmpR op_eq (pe_callB c_len (by rfl) B.len (by decide +kernel) (pa_cons (pv 0) pa_nil)) pe_int (nomark _)) (pe_and (pe_f Gis_whole (hr.mono (by omega)) (by rfl) pass0 (pa_cons (pe_ix ix_tup (pv 0) pe_int (fun _ _ => rfl)) (pa_cons pe_int (pa_cons (pe_gint (by rfl) g_MAX_TIMES) pa_nil)))) (pe_one (pe_callB c_is2 (by rfl) B.isinstance (by decide +kernel) (pa_cons (pe_ix ix_tup (pv 0) pe_int (fun _ _ => rfl)) (pa_cons (pe_ty (T := "tuple") (by rfl) B.tuple (by decide +kernel)) pa_nil))))))))
        pss_nil)
      (pss_one (ps_ret (pe_f Gis_plain (hr.mono (by omega)) (by rfl) pass0 (pa_cons (pv 0) pa_nil))))))), ?_⟩
  cases d with
  | tuple ds =>
    obtain ⟨a, xs, rfl, hT, hL⟩ := hd.items
    rw [dsz] at hz
    cases ds with
    | nil =>
      obtain rfl := hL.inv0
      walk_at "rd"
      exact k _ Kp.nil
    | cons d0 r =>
      obtain ⟨x, ys, rfl, h0, hR⟩ := hL.inv
      rw [dszs] at hz
      have hlen := hR.len
      walk_at "rd"
      refine ifd (fun c => ?_) (fun _ => ?_)
      · have q := V.int.inj c
        rw [List.length_cons] at q
        omega
      have hx0 : atI (x :: ys) 0 = some x := at_nn (Int.le_refl 0) rfl
      walk_at "rd"
      cases hx : isaD d0 "str" with
      | false =>
        walk_at "rd"
        have q := k _ Kp.nil
        rw [isStmt_str hx] at q
        exact q
      | true =>
        obtain ⟨u, rfl⟩ := isStr_of hx
        obtain rfl := h0.isStr
        change ∀ H', Kp [] H H' → Q (.bl (isStmtL u r)) H' at k
        unfold isStmtL at k
        walk_at "rd"
        refine ifd (fun c1 => ?_) (fun c1 => ?_)
        · simp only [if_pos (V.str.inj c1)] at k
          walk_at "rd"
          refine ifn (fun c2 => ?_) (fun c2 => ?_)
          · walk_at "rd"
            have q := k _ Kp.nil
            rw [three_len (fun e => c2 (by rw [List.length_cons, hlen, e]; rfl))] at q
            exact q
          have c2 : ys.length = 3 := by
            have q := V.int.inj c2
            rw [List.length_cons] at q
            omega
          obtain ⟨x1, x2, x3, d1, d2, d3, rfl, rfl, h1, h2, h3⟩ := hR.is3 c2
          simp only [dszs] at hz
          simp only [three] at k
          walk_at "rd"
          refine ⟨x1, d1, rfl, h1, by omega, fun H1 k1 => ?_⟩
          have hT1 := sqT_kp k1 hT
          have h2 := h2.kp0 k1
          have h3 := h3.kp0 k1
          cases he : isTest 2 d1 with
          | false =>
            walk_at "rd"
            have q := k _ k1
            rw [he, Bool.false_and] at q
            exact q
          | true =>
            rw [he] at k
            simp only [Bool.true_and] at k
            rw [← isa_tup, ← isa_tup] at k
            have q := k _ k1
            walk_at "rd"
            refine r_is2 h2 (by decide) ?_
            cases ht : isaD d2 "tuple" with
            | false =>
              rw [ht, Bool.false_and] at q
              walk_at "rd"
              exact q
            | true =>
              rw [ht, Bool.true_and] at q
              walk_at "rd"
              exact r_is2 h3 (by decide) q
        have c1 : u ≠ "if" := fun e => c1 (by rw [e])
        simp only [if_neg c1] at k
        walk_at "rd"
        refine ifd (fun c2 => ?_) (fun c2 => ?_)
        · simp only [if_pos (V.str.inj c2)] at k
          walk_at "rd"
          refine ifd (fun c4 => ?_) (fun c4 => ?_)
          rotate_left 1
          · have q := k _ Kp.nil
            rw [two_len (fun e => c4 (by rw [List.length_cons, hlen, e]; rfl))] at q
            exact q
          have c4 : ys.length = 2 := by
            have q := V.int.inj c4
            rw [List.length_cons] at q
            omega
          obtain ⟨x1, x2, d1, d2, rfl, rfl, h1, h2⟩ := hR.is2 c4
          simp only [dszs] at hz
          simp only [two] at k
          have q := k _ Kp.nil
          walk_at "rd"
          refine ⟨x1, d1, _, _, rfl, h1, ?_⟩
          cases he : isWhole 0 8 d1 with
          | false =>
            rw [he, Bool.false_and] at q
            walk_at "rd"
            exact q
          | true =>
            rw [he, Bool.true_and, ← isa_tup] at q
            walk_at "rd"
            exact r_is2 h2 (by decide) q
        have c2 : u ≠ "repeat" := fun e => c2 (by rw [e])
        simp only [if_neg c2] at k
        walk_at "rd"
        exact ⟨_, u, r, rfl, hd, by omega, k⟩
  | _ => walk_at "rd"; exact k _ Kp.nil
theorem ok_blocks_of (D : Df K mg "blocks_of" sblocks_of Pblocks_of) (B : Blt mg) : Has P w K mg base CX0 "blocks_of" Pblocks_of 1 (spBlocksX K) := by
  refine D.has scblocks_of (fun vs H Q E h => ?_) (fun f cdv A outer s H vs Q E hr h => ?_)
  · obtain ⟨D, v, d, bs, rfl, _⟩ := h
    rfl
  obtain ⟨D, v, d, bs, rfl, hb, k⟩ := h
  refine ⟨_, (pss_cons (ps_if (pt_cmpR op_eq (pe_ix ix_tup (pv 0) pe_int (fun _ _ => rfl)) pe_str (nomark _)) (pss_one (ps_ret (pe_lst (pa_cons (pe_ix ix_tup (pv 0) pe_int (fun _ _ => rfl)) (pa_cons (pe_ix ix_tup (pv 0) pe_int (fun _ _ => rfl)) pa_nil)))))
        pss_nil)
      (pss_one (ps_ret (pe_ifExp (pt_cmpR op_eq (pe_ix ix_tup (pv 0) pe_int (fun _ _ => rfl)) pe_str (nomark _)) (pe_lst (pa_cons (pe_ix ix_tup (pv 0) pe_int (fun _ _ => rfl)) pa_nil)) (pe_lst pa_nil))))), ?_⟩
  cases hb with
  | @pl a u ys p hT n1 n2 l =>
    rw [Pl.blks] at k
    have hx0 : atI (V.str u :: ys) 0 = some (V.str u) := at_nn (Int.le_refl 0) rfl
    walk_at "rd"
    refine ifd (fun c => absurd (V.str.inj c) n1) fun _ => ?_
    walk_at "rd"
    refine ifd (fun c => absurd (V.str.inj c) n2) fun _ => ?_
    walk_at "rd"
    exact ⟨by decide, fun p hp => k _ p [] hp (Kp.nil.new hp) upd_same BxL.nil⟩
  | @ifs a b1 b2 x t y z y1 z1 hT h1 h2 h3 h4 =>
    walk_at "rd"
    refine ⟨by walk_at "sz", fun p hp => ?_⟩
    have k1 : Kp [] H (upd H p (.lst [.ref b1, .ref b2])) := Kp.nil.new hp
    exact k _ p _ hp k1 upd_same (BxL.cons (sqT_kp k1 h1) h2 (BxL.cons (sqT_kp k1 h3) h4 BxL.nil))
  | @rep a b1 n y y1 hT h1 h2 =>
    walk_at "rd"
    refine ⟨by walk_at "sz", fun p hp => ?_⟩
    have k1 : Kp [] H (upd H p (.lst [.ref b1])) := Kp.nil.new hp
    exact k _ p _ hp k1 upd_same (BxL.cons (sqT_kp k1 h1) h2 BxL.nil)
theorem ok_items_within (D : Df K mg "items_within" sitems_within Pitems_within) (B : Blt mg) (Gblocks_of : Has P w K mg base CX0 "blocks_of" ["statement"] 1 (spBlocksX K)) :
    Has P w K mg base CX0 "items_within" Pitems_within 2 (spItemsX K) := by
  refine D.has scitems_within (fun vs H Q E h => ?_) (fun f cdv A outer s H vs Q E hr h => ?_)
  · obtain ⟨M, v, d, n, bs, rfl, _⟩ := h
    rfl
  obtain ⟨D, v, d, n, bs, rfl, hin, hz, k⟩ := h
  refine ⟨_, (pss_cons (ps_set (i := 2) scitems_within.nd rfl (Or.inl rfl) (pe_lst pa_nil))
      (pss_cons (ps_for PassesOwn.never rfl (pi_list (pe_f Gblocks_of (hr.mono (by omega)) (by rfl) pass0 (pa_cons (pv 0) pa_nil))) (pg_name (i := 3) scitems_within.nd rfl (Or.inl rfl))
        (pss_one (ps_expr (pe_bm PySem.F.plainAttrs_list PySem.F.slot_list_extend PySem.F.type_list_extend mt_extend (pv 2) (pa_cons (pe_lc (own := [("item", 4)]) (g := gName 4) (by rfl) scitems_within.nd (pi_tup (pv 3)) (blkOk_by (own := [("item", 4)]) (N := Nitems_within) (sc := defScope sitems_within) (by decide +kernel)) (fun _ _ _ _ _ => (pg_name (i := 4) scitems_within.nd rfl (Or.inl rfl))) (fun _ _ _ _ _ => pts_nil) (fun _ _ _ _ _ => (pe_tup (pa_cons (pe_op op_add (pv 1) pe_int) (pa_cons (pv 4) pa_nil))))) pa_nil)))))
      (pss_one (ps_ret (pe_revL (pv 2)))))), ?_⟩
  obtain ⟨hbl, hfl⟩ := hin.flat
  have hsz := inner_size d
  have hlen := dszs_len (inner d)
  have hfz := hfl.len
  walk_at "rd"
  refine ⟨by decide, fun p hp => ?_⟩
  have k1 : Kp [] H (upd H p (.lst [])) := Kp.nil.new hp
  have hp1 : upd H p (.lst []) p = some (.lst []) := upd_same
  have hd1 := hin.kp0 k1
  generalize upd H p (.lst []) = H1 at k1 hp1 hd1 ⊢
  walk_at "rd"
  refine ⟨_, v, d, bs, rfl, hd1, fun H2 b xs hb k2 hb2 hL => ?_⟩
  have hp2 := k2.get hp1 (by simp)
  have hbp : b ≠ p := Ne.symm (ne_of_none hp1 hb)
  refine r_ForL (xs := xs) (SqL.of hb2) (fun i σ H' => ∃ (us : List V) (bx ix : Option V), σ = [some v, some (.int n), some (.ref p), bx, ix] ∧ Kp [] H H' ∧ H' b = some (.lst xs) ∧
      (∀ (j : Nat) (x : V) (ys : List V), xs[j]? = some x → bs[j]? = some ys → ∃ c : Addr, x = .ref c ∧ SqT K H' c ys) ∧ H' p = some (.lst us) ∧ Snd H' us (((bs.take i).flatten).map fun e => (n + 1, e)))
    ⟨[], none, none, rfl, k1.trans k2, hb2, fun j x ys e1 e2 => ?_, hp2, Snd.nil⟩ (fun i σ H' ⟨us, bx, ix, _, _, q, _⟩ => SqL.of q) ?_ ?_
  · have hj : j < (blks d).length := by
      rw [← hL.len2]
      exact (List.getElem?_eq_some_iff.mp e2).1
    obtain ⟨c, e, q, _⟩ := hL.all j x ys _ e1 e2 (List.getElem?_eq_getElem hj)
    exact ⟨c, e, q⟩
  · rintro i x σ H3 hx ⟨us, bx, ix, rfl, k3, hb3, hX, hp3, hS3⟩
    have hi : i < bs.length := by
      rw [← hL.len]
      exact (List.getElem?_eq_some_iff.mp hx).1
    have hbl : bs[i]? = some bs[i] := List.getElem?_eq_getElem hi
    obtain ⟨a, rfl, hT⟩ := hX i x _ hx hbl
    have hfl2 : (((bs).take i).flatten) ++ bs[i] ++ ((bs).drop (i + 1)).flatten = bs.flatten := by
      have q : (bs).take i ++ bs[i] :: (bs).drop (i + 1) = bs := by
        rw [← List.drop_eq_getElem_cons hi, List.take_append_drop]
      conv => rhs; rw [← q]
      rw [List.flatten_append, List.flatten_cons, List.append_assoc]
    have hle : (((bs).take i).flatten).length + bs[i].length ≤ (bs.flatten).length := by
      rw [← hfl2, List.length_append, List.length_append]
      omega
    generalize bs[i] = ys at hbl hT hle
    walk_at "rd"
    refine lc_snd (n := n + 1) hT (by omega) (fun y H' R hR => ?_) (fun _ => rfl) fun q H4 ws hq k4 hq4 hS4 => ?_
    · walk_at "rd"
      exact ⟨by walk_at "sz", hR⟩
    have hp4 := k4.get hp3 (by simp)
    have hb4 := k4.get hb3 (by simp)
    have hqp : q ≠ p := Ne.symm (ne_of_none hp3 hq)
    have l1 : us.length = (((bs).take i).flatten).length := by rw [hS3.len, List.length_map]
    have l2 : ws.length = ys.length := by rw [hS4.len, List.length_map]
    walk_at "rd"
    · have k5 := kpW (o := .lst (us ++ ws)) hp4
      refine ⟨us ++ ws, _, _, rfl, (k3.trans k4).own hp, k5.get hb4 (by simp [hbp]), fun j x zs e1 e2 => ?_, upd_same, ?_⟩
      · obtain ⟨c, e, q⟩ := hX j x zs e1 e2
        exact ⟨c, e, sqT_kp k5 (sqT_kp k4 q)⟩
      have htk : (bs).take (i + 1) = (bs).take i ++ [ys] := by rw [List.take_add_one, hbl]; rfl
      rw [htk, List.flatten_append, List.flatten_cons, List.flatten_nil, List.append_nil, List.map_append]
      exact ((hS3.kp k4).kp k5).app (hS4.kp k5)
    · rw [sizeLine_eq]
      omega
  · rintro σ H3 ⟨us, bx, ix, rfl, k3, hb3, hX, hp3, hS3⟩
    walk_at "rd"
    refine r_RevL (SqL.of hp3) fun q hq => ?_
    have k4 : Kp [] H3 (upd H3 q (.lst us.reverse)) := Kp.nil.new hq
    rw [hL.len, List.take_length] at hS3
    refine k _ q us.reverse ?_ (k3.trans k4) upd_same (hS3.kp k4).rev
    exact k3.free (fun b hb => by cases hb) hq
theorem ok_rows_of_programs (D : DfA K mg "rows_of_programs" "rows_of" srows_of_programs Prows_of_programs) (B : Blt mg) (Gitems_within : Has P w K mg base CX0 "items_within" ["statement", "depth"] 2 (spItemsX K)) :
    Has P w K mg base CX0 "rows_of_programs" Prows_of_programs 3 (spRowsX K) := by
  refine D.has scrows_of_programs (fun vs H Q E h => ?_) (fun f cdv A outer s H vs Q E hr h => ?_)
  · obtain ⟨M, a, xs, ds, rows, rfl, _⟩ := h
    rfl
  obtain ⟨D, a, xs, ds, rows, rfl, hT, hxl, hz, hR, hN0, k⟩ := h
  refine ⟨_, (pss_cons (ps_par (i := 1) (j := 2) (by rfl) scrows_of_programs.nd rfl rfl (by decide) rfl rfl (pa_cons (pe_revL (pe_lc (own := [("item", 3)]) (g := gName 3) (by rfl) scrows_of_programs.nd (pi_tup (pv 0)) (blkOk_by (own := [("item", 3)]) (N := Nrows_of_programs) (sc := defScope srows_of_programs) (by decide +kernel)) (fun _ _ _ _ _ => (pg_name (i := 3) scrows_of_programs.nd rfl (Or.inl rfl))) (fun _ _ _ _ _ => pts_nil) (fun _ _ _ _ _ => (pe_tup (pa_cons pe_int (pa_cons (pv 3) pa_nil)))))) (pa_cons (pe_lst pa_nil) pa_nil)) (by rfl))
      (pss_cons (ps_while PassesOwn.never (pt_cmpR (op_neNil hr.h64) (pv 1) (pe_lst pa_nil) (nomark _)) (pss_cons (ps_asg (pe_bm0 PySem.F.plainAttrs_list PySem.F.slot_list_pop PySem.F.type_list_pop mt_pop (pv 1)) (pg_tup rfl (pgs_cons (pg_name (i := 4) scrows_of_programs.nd rfl (Or.inl rfl)) (pgs_cons (pg_name (i := 5) scrows_of_programs.nd rfl (Or.inl rfl)) pgs_nil))))
      (pss_cons (ps_expr (pe_bm PySem.F.plainAttrs_list PySem.F.slot_list_append PySem.F.type_list_append mt_append (pv 2) (pa_cons (pe_tup (pa_cons (pv 4) (pa_cons (pv 5) pa_nil))) pa_nil)))
      (pss_one (ps_expr (pe_bm PySem.F.plainAttrs_list PySem.F.slot_list_extend PySem.F.type_list_extend mt_extend (pv 1) (pa_cons (pe_f Gitems_within (hr.mono (by omega)) (by rfl) pass0 (pa_cons (pv 5) (pa_cons (pv 4) pa_nil))) pa_nil)))))))
      (pss_one (ps_ret (pv 2))))), ?_⟩
  have hlen := dszs_len ds
  walk_at "rd"
  refine lc_snd (n := 0) hT (by omega) (fun y H' R hR => ?_) (fun _ => rfl) fun q0 H1 us hq0 k1 hq1 hS1 => ?_
  · walk_at "rd"
    exact ⟨by walk_at "sz", hR⟩
  refine r_RevL (SqL.of hq1) fun l hl => ?_
  have k2 : Kp [] H (upd H1 l (.lst us.reverse)) := k1.new hl
  have hl2 : upd H1 l (.lst us.reverse) l = some (.lst us.reverse) := upd_same
  have S2 : Snd (upd H1 l (.lst us.reverse)) us.reverse ((xs.map fun e => (0, e)).reverse) := (hS1.kp (Kp.nil.new hl)).rev
  have hl0 : H l = none := k1.free (fun b hb => by cases hb) hl
  generalize upd H1 l (.lst us.reverse) = H2 at k2 hl2 S2 ⊢
  walk_at "rd"
  refine ⟨by decide, fun g hg => ?_⟩
  have k2' : Kp [] H2 (upd H2 g (.lst [])) := Kp.nil.new hg
  have k3 := k2.trans k2'
  have hl3 := k2'.get hl2 (by simp)
  have hg3 : upd H2 g (.lst []) g = some (.lst []) := upd_same
  have S3 := S2.kp k2'
  have hg0 : H g = none := k2.free (fun b hb => by cases hb) hg
  have hgl : g ≠ l := Ne.symm (ne_of_none hl2 hg)
  generalize upd H2 g (.lst []) = H3 at k3 hl3 hg3 S3 ⊢
  walk_at "rd"
  refine r_while (fun m σ H' => ∃ (us gs : List V) (T dn rt : List (Nat × V × PyData)) (ix dx0 sx : Option V), σ = [some (.ref a), some (.ref l), some (.ref g), ix, dx0, sx] ∧ Kp [] H H' ∧ H' l = some (.lst us) ∧ H' g = some (.lst gs) ∧
      Snd H' us (vx T).reverse ∧ Snd H' gs (vx dn) ∧ dn ++ rt = rows ∧ RwX D K H T rt ∧ stSize (dx T) = m ∧ m ≤ 1000000) (dszs ds)
    ⟨_, [], (xs.zip ds).map (fun e => (0, e.1, e.2)), [], rows, none, none, none, rfl, k3, hl3, hg3, by rw [vx_map hxl]; exact S3, Snd.nil, rfl, hR, by rw [dx_map hxl]; exact stSize_map _ _, hz⟩ ?_
  rintro m σ H4 ⟨us, gs, T, dn, rt, ix, dx0, sx, rfl, k4, hl4, hg4, S4, G4, hrow, hvT, hm, hmz⟩
  walk_at "rd"
  refine ⟨by decide, fun q hq => ?_⟩
  have kq : Kp [] H4 (upd H4 q (.lst [])) := Kp.nil.new hq
  have hl5 := kq.get hl4 (by simp)
  have hg5 := kq.get hg4 (by simp)
  have S5 := S4.kp kq
  have G5 := G4.kp kq
  refine r_neNL (SqL.of hl5) (SqL.of upd_same) ?_
  have k5 := k4.trans kq
  generalize upd H4 q (.lst []) = H5 at k5 hl5 hg5 S5 G5 ⊢
  cases hvT with
  | nil =>
    have e : us = [] := List.length_eq_zero_iff.mp S5.len
    subst e
    have he0 : (!([] : List V).isEmpty) = false := rfl
    rw [he0]
    walk_at "rd"
    refine k _ g gs hg0 k5 hg5 ?_
    have e2 : dn = rows := by
      rw [← hrow]
      exact (List.append_nil _).symm
    rw [← e2]
    exact G5
  | @cons dep y d bs T rt hin hrt =>
    have eT : vx ((dep, y, d) :: T) = (dep, y) :: vx T := rfl
    have eT2 : dx ((dep, y, d) :: T) = (dep, d) :: dx T := rfl
    rw [eT, List.reverse_cons] at S5
    rw [eT2, stSize_cons] at hm
    obtain ⟨us', b, rfl, S6, hb⟩ := S5.last
    obtain ⟨hbl, hfl⟩ := hin.flat
    have hdp := dsz_pos d
    have hisz := inner_size d
    have he : (!(us' ++ [V.ref b]).isEmpty) = true := by cases us' <;> rfl
    rw [he]
    walk_at "rd"
    refine r_turn ?_
    walk_at "rd"
    refine r_pop hl5 ?_
    have k6 := kpW (o := .lst us') hl5
    have k6' : Kp [] H (upd H5 l (.lst us')) := k5.own hl0
    have hb6 := k6.tup hb
    have S7 := S6.kp k6
    have G7 := G5.kp k6
    have hl6 : upd H5 l (.lst us') l = some (.lst us') := upd_same
    have hg6 := k6.get hg5 (by simp [hgl])
    generalize upd H5 l (.lst us') = H6 at k6 k6' hb6 S7 G7 hl6 hg6 ⊢
    walk_at "rd"
    refine ⟨by walk_at "sz", fun t ht => ?_⟩
    have k7 : Kp [] H6 (upd H6 t (.tup [.int dep, y])) := Kp.nil.new ht
    have hg7 := k7.get hg6 (by simp)
    have hl7 := k7.get hl6 (by simp)
    have ht7 : upd H6 t (.tup [.int dep, y]) t = some (.tup [.int dep, y]) := upd_same
    have S8 := S7.kp k7
    have G8 := G7.kp k7
    have k7' := k6'.trans k7
    generalize upd H6 t (.tup [.int dep, y]) = H7 at k7 k7' hg7 hl7 ht7 S8 G8 ⊢
    have hgl2 : gs.length < rows.length := by
      rw [G8.len, ← hrow, List.length_append]
      unfold vx
      simp
    walk_at "rd"
    rotate_left 1
    · rw [sizeLine_eq]
      omega
    have k8 := kpW (o := .lst (gs ++ [V.ref t])) hg7
    have k8' : Kp [] H (upd H7 g (.lst (gs ++ [V.ref t]))) := k7'.own hg0
    have hl8 := k8.get hl7 (by simp [Ne.symm hgl])
    have hg8 : upd H7 g (.lst (gs ++ [V.ref t])) g = some (.lst (gs ++ [V.ref t])) := upd_same
    have S9 := S8.kp k8
    have G9 := (G8.kp k8).app (Snd.one (p := (dep, y)) (k8.tup ht7))
    generalize upd H7 g (.lst (gs ++ [V.ref t])) = H8 at k8 k8' hl8 hg8 S9 G9 ⊢
    refine ⟨_, y, d, dep, bs, rfl, hin.kp0 k8', by omega, fun H9 r ws hr' k9 hr9 S10 => ?_⟩
    have hl9 := k9.get hl8 (by simp)
    have hg9 := k9.get hg8 (by simp)
    have hrl : r ≠ l := Ne.symm (ne_of_none hl8 hr')
    have w1 : ws.length = (inner d).length := by rw [S10.len, List.length_reverse, List.length_map, hfl.len]
    have w2 : us'.length = T.length := by rw [S7.len, List.length_reverse]; unfold vx; rw [List.length_map]
    have w3 := dszs_len (inner d)
    have w4 : T.length ≤ stSize (dx T) := by
      unfold stSize
      have := dszs_len ((dx T).map (·.2))
      rw [List.length_map] at this
      unfold dx at this ⊢
      rwa [List.length_map] at this
    walk_at "rd"
    · have k10 := kpW (o := .lst (us' ++ ws)) hl9
      refine ⟨dszs (inner d) + stSize (dx T), by omega, us' ++ ws, gs ++ [V.ref t], (bs.flatten.zip (inner d)).map (fun e => (dep + 1, e.1, e.2)) ++ T, dn ++ [(dep, y, d)], rt, _, _, _, rfl, (k8'.trans k9).own hl0, upd_same,
        k10.get hg9 (by simp [hgl]), ?_, ?_, ?_, hrt, ?_, by omega⟩
      · rw [vx_app, vx_map hfl.len, List.reverse_append]
        exact ((S9.kp k9).kp k10).app (S10.kp k10)
      · rw [vx_app]
        exact (G9.kp k9).kp k10
      · rw [← hrow]
        simp
      · rw [dx_app, dx_map hfl.len, stSize_app, stSize_map]
    · rw [sizeLine_eq]
      omega
theorem ok_each_statement (D : Df K mg "each_statement" seach_statement Peach_statement) (B : Blt mg) (Grows_of_programs : Has P w K mg base CX0 "rows_of_programs" ["program"] 3 (spRowsX K)) :
    HasI P w K mg base "each_statement" Peach_statement 5 (spEach K) := by
  refine D.hasI sceach_statement rfl (fun _ => rfl) (fun _ _ => rfl) (fun _ _ _ => rfl) (fun vs H rows h => ?_) (fun f cdv A outer s H vs rows pn hr hok h => ?_)
  · obtain ⟨D, a, xs, ds, rw_, rfl, _⟩ := h
    rfl
  obtain ⟨D, a, xs, ds, rw_, rfl, hT, hxl, hz, hR, hn, rfl⟩ := h
  refine ⟨_, _, _, (pi_enum (by rfl) B.enumerate (pa_cons (pe_f Grows_of_programs (hr.mono (by omega)) (by rfl) pass0 (pa_cons (pv 0) pa_nil)) pa_nil)), (pg_tup rfl (pgs_cons (pg_name (i := 1) sceach_statement.nd rfl (Or.inl rfl)) (pgs_cons (pg_tup rfl (pgs_cons (pg_name (i := 2) sceach_statement.nd rfl (Or.inl rfl)) (pgs_cons (pg_name (i := 3) sceach_statement.nd rfl (Or.inl rfl)) pgs_nil))) pgs_nil))), (pe_tup (pa_cons (pv 1) (pa_cons (pv 2) (pa_cons (pv 3) pa_nil)))), fun R hk => ?_, fun i d st r T1 σ Hr hσ hrow hT1 hr1 => ?_⟩
  · walk_at "rd"
    refine ⟨D, a, xs, ds, rw_, rfl, frzH_sqT hok hT, hxl, hz, hR.sq fun b ys q => frzH_sqT hok q, hn, fun H1 l us h1 k1 h2 h3 => ?_⟩
    obtain ⟨rs, rfl, hrl, hrs⟩ := h3.refs
    refine hk H1 l rs h2 (by rw [hrl]; unfold vx; simp) fun i d st e => ?_
    rw [List.getElem?_map] at e
    obtain ⟨⟨n, y, dd⟩, he, e2⟩ := Option.map_eq_some_iff.mp e
    cases e2
    obtain ⟨r, q1, q2⟩ := hrs i n y (by unfold vx; rw [List.getElem?_map, he]; rfl)
    exact ⟨r, q1, SqT.of q2⟩
  · have h1 : SqT K (upd Hr T1 (.tup [.int (i : Nat), .ref r])) T1 [.int (i : Nat), .ref r] := SqT.of upd_same
    have h2 : SqT K (upd Hr T1 (.tup [.int (i : Nat), .ref r])) r [.int d, st] := sqT_kp (Kp.nil.new hT1) hr1
    generalize upd Hr T1 (.tup [.int (i : Nat), .ref r]) = H1 at h1 h2 ⊢
    match σ, hσ with
    | [s0, s1, s2, s3], _ =>
      walk_at "rd"
      exact ⟨by walk_at "sz", fun p hp => ⟨p, rfl, hp, rfl⟩⟩
theorem ok_reader_places (D : Df K mg "reader_places" sreader_places Preader_places) (B : Blt mg) {R : Addr} (g_R : GStrs K mg "READERS_fixes" R RDS) (Geach_statement : HasI P w K mg base "each_statement" ["program"] 5 (spEach K)) :
    Has P w K mg base CX0 "reader_places" Preader_places 7 (spPlaces K) := by
  refine D.has screader_places (fun vs H Q E h => ?_) (fun f cdv A outer s H vs Q E hr h => ?_)
  · obtain ⟨M, v, p, rfl, _⟩ := h
    rfl
  obtain ⟨M, v, p, rfl, hd, hv, hz, hn, k⟩ := h
  refine ⟨_, (pss_one (ps_ret (pe_lcRows (k := 5) (ws := RDS) (tg := tCallI (spEach K) (tCons (tVar 0) tNil)) rfl hr (pgenI_call Geach_statement (hr.mono (by decide)) (by rfl) (pa_cons (pv 0) pa_nil)) (blkOk_by (own := [("row", 1)]) (N := Nreader_places) (sc := defScope sreader_places) (by decide +kernel)) (fun _ => by rfl) (fun _ => by rfl)
    (fun _ => by rfl) (fun _ => by rfl) (fun _ => by rfl) g_R.at_ g_R.its (by rfl) (by rfl) (by rfl) (fun _ _ _ _ _ => by rfl) (fun _ => by rfl)))), ?_⟩
  obtain ⟨rows, hsp, hl, hh⟩ := each_use hd hv hz
  walk_at "rd"
  refine r_rows ?_
  walk_at "rd"
  refine ⟨rows, hsp, by rw [hl, Sm.rowsL_len]; omega, _, hh, fun D hD => ?_⟩
  rw [hl, selI_selP]
  exact k _ D hD (Kp.nil.new hD) upd_same
theorem ok_is_integer_lattices (D : DfA K mg "is_integer_lattices" "is_integer" sis_integer_lattices Pis_integer_lattices) (B : Blt mg) : Has P w K mg base CX0 "is_integer_lattices" Pis_integer_lattices 1 spIsInt := by
  refine D.has scis_integer_lattices (fun vs H Q E h => ?_) (fun f cdv A outer s H vs Q E hr h => ?_)
  · obtain ⟨i, rfl, _⟩ := h
    rfl
  obtain ⟨i, rfl, k⟩ := h
  refine ⟨_, (pss_one (ps_ret (pe_and (pe_callB c_is2 (by rfl) B.isinstance (by decide +kernel) (pa_cons (pv 0) (pa_cons (pe_ty (T := "int") (by rfl) B.int (by decide +kernel)) pa_nil))) (pe_one (pe_not (pe_callB c_is2 (by rfl) B.isinstance (by decide +kernel) (pa_cons (pv 0) (pa_cons (pe_ty (T := "bool") (by rfl) B.bool (by decide +kernel)) pa_nil)))))))), ?_⟩
  have hv : Dw [] K H (.int i) (.int i) := .int i
  walk_at "rd"
  exact k
theorem ok_is_fix (D : Df K mg "is_fix" sis_fix Pis_fix) (B : Blt mg) (Greader_places : Has P w K mg base CX0 "reader_places" ["program"] 7 (spPlaces K)) (Gis_integer_lattices : Has P w K mg base CX0 "is_integer_lattices" ["value"] 1 spIsInt) :
    Has P w K mg base CX0 "is_fix" Pis_fix 8 (spFixT K) := by
  refine D.has scis_fix (fun vs H Q E h => ?_) (fun f cdv A outer s H vs Q E hr h => ?_)
  · obtain ⟨M, v, p, a, fx, rfl, _⟩ := h
    rfl
  obtain ⟨M, v, p, a, fx, rfl, hd, hv, hz, hn, hT, hl, hin, hasc, k⟩ := h
  refine ⟨_, (pss_cons (ps_set (i := 2) scis_fix.nd rfl (Or.inr rfl) (pe_f Greader_places (hr.mono (by omega)) (by rfl) pass0 (pa_cons (pv 0) pa_nil)))
      (pss_cons (ps_if (PW.pt (pw_or (pt_not (pt_val (pe_callB c_is2 (by rfl) B.isinstance (by decide +kernel) (pa_cons (pv 1) (pa_cons (pe_ty (T := "tuple") (by rfl) B.tuple (by decide +kernel)) pa_nil))))) (pw_or1 (pt_not (pt_val (pe_callB (cr_allK (K := K) rfl rfl) (by rfl) B.all (by decide +kernel) (pa_cons (pe_lc (own := [("place", 3)]) (g := gName 3) (by rfl) scis_fix.nd (pi_tup (pv 1)) (blkOk_by (own := [("place", 3)]) (N := Nis_fix) (sc := defScope sis_fix) (by decide +kernel)) (fun _ _ _ _ _ => (pg_name (i := 3) scis_fix.nd rfl (Or.inl rfl))) (fun _ _ _ _ _ => pts_nil) (fun _ _ _ _ _ => (pe_and (pe_f Gis_integer_lattices (hr.mono (by omega)) (by rfl) pass0 (pa_cons (pv 3) pa_nil)) (pe_one (pe_cmpR (op_inK (K := K) rfl) (pv 3) (pv 2) (by rfl)))))) pa_nil))))))) (pss_one (ps_ret pe_bl))
        pss_nil)
      (pss_one (ps_ret (pe_callB (cr_allK (K := K) rfl rfl) (by rfl) B.all (by decide +kernel) (pa_cons (pe_lc (own := [("one", 4), ("other", 5)]) (g := gTup K 2 (gCons (gName 4) (gCons (gName 5) (gNil)))) (by rfl) scis_fix.nd (RZ.pi_zipA (by rfl) B.zip (pa_cons (pv 1) (pa_cons (pe_slice sl_tupA (pv 1) (po_some pe_int) po_none) pa_nil))) (blkOk_by (own := [("one", 4), ("other", 5)]) (N := Nis_fix) (sc := defScope sis_fix) (by decide +kernel)) (fun _ _ _ _ _ => (pg_tupK (K := K) rfl rfl (pgs_cons (pg_name (i := 4) scis_fix.nd rfl (Or.inl rfl)) (pgs_cons (pg_name (i := 5) scis_fix.nd rfl (Or.inl rfl)) pgs_nil)))) (fun _ _ _ _ _ => pts_nil) (fun _ _ _ _ _ => (pe_cmpR op_lt (pv 4) (pv 5) (nomark _)))) pa_nil)))))), ?_⟩
  walk_at "rd"
  refine ⟨M, v, p, rfl, hd, hv, hz, hn, fun H1 r hr1 k1 h1 => ?_⟩
  have hT1 := sqT_kp k1 hT
  have hf1 : Dw [] K H1 (.ref a) (.tuple (fx.map PyData.int)) := Dw.ints hT1
  walk_at "rd"
  refine r_LcT hT1 fun q hq => ⟨fun j H' => Kp [] H1 H' ∧ H' q = some (.lst (List.replicate j (V.bl true))), ⟨Kp.nil.new hq, upd_same⟩, fun j H' ⟨q1, _⟩ => sqT_kp q1 hT1, ?_, ?_⟩
  · rintro j u H3 hu ⟨k3, hq3⟩
    rw [List.getElem?_map] at hu
    obtain ⟨x, hx, rfl⟩ := Option.map_eq_some_iff.mp hu
    have hxm := hin x (List.mem_of_getElem? hx)
    have hjl : j < fx.length := (List.getElem?_eq_some_iff.mp hx).1
    have h3 := k3.get h1 (by simp)
    walk_at "rd"
    refine ⟨x, rfl, ?_⟩
    walk_at "rd"
    refine r_inT (.inl (SqL.of h3)) rfl (flat_ints _) (by rw [inV_ints]; exact decide_eq_true hxm) ?_
    refine r_LcEnd hq3 (by rw [List.length_replicate, sizeLine_eq]; omega) ⟨k3.own hq, ?_⟩
    rw [upd_same, List.replicate_succ']
  · rintro H3 ⟨k3, hq3⟩
    rw [List.length_map] at hq3
    have hT3 := sqT_kp k3 hT1
    have hf3 := hf1.kp0 k3
    walk_at "rd"
    refine ⟨q, List.replicate fx.length true, rfl, SqL.of (by rw [hq3, List.map_replicate]), ?_⟩
    have e1 : (List.replicate fx.length true).all id = true := by
      rw [List.all_eq_true]
      intro y hy
      exact (List.mem_replicate.mp hy).2
    rw [e1]
    walk_at "rd"
    refine r_lcZip ?_
    walk_at "rd"
    refine r_slW hf3 fun H4 z k4 hz4 => ?_
    have hz5 : Dw [] K H4 z (.tuple ((fx.drop 1).map PyData.int)) := by
      have e2 : cutD (fx.map PyData.int) (some ((1 : Nat) : Int)) none = (fx.drop 1).map PyData.int := by
        by_cases hl : 1 ≤ fx.length
        · rw [cutD_from _ 1 (by rw [List.length_map]; exact hl), List.map_drop]
        · have e0 : fx = [] := List.length_eq_zero_iff.mp (by omega)
          subst e0
          rfl
      rw [← e2]
      exact hz4
    obtain ⟨b, rfl, hT5⟩ := hz5.intsT
    have hT4 := sqT_kp k4 hT3
    have k14 := (k1.trans k3).trans k4
    walk_at "rd"
    refine r_LcZipM hT4 hT5 fun p hp => ⟨fun j H' => Kp [] H4 H' ∧ H' p = some (.lst (List.replicate j (V.bl true))), ⟨Kp.nil.new hp, upd_same⟩, fun l H' ⟨z1, _⟩ => ⟨sqT_kp z1 hT4, sqT_kp z1 hT5⟩, ?_, ?_⟩
    · rintro i x y T H5 hx hy ⟨k5, hp5⟩ hT
      rw [List.getElem?_map] at hx hy
      obtain ⟨x, hx1, rfl⟩ := Option.map_eq_some_iff.mp hx
      obtain ⟨y, hy1, rfl⟩ := Option.map_eq_some_iff.mp hy
      have hlt := asc_next hasc i x y hx1 hy1
      have hil : i < fx.length := (List.getElem?_eq_some_iff.mp hx1).1
      have k6 : Kp [] H5 (upd H5 T (.tup [.int x, .int y])) := Kp.nil.new hT
      have hp6 := k6.get hp5 (by simp)
      have hT6 : SqT K (upd H5 T (.tup [.int x, .int y])) T [.int x, .int y] := SqT.of upd_same
      generalize upd H5 T (.tup [.int x, .int y]) = H6 at k6 hp6 hT6 ⊢
      walk_at "rd"
      rw [decide_eq_true hlt]
      refine r_LcEnd hp6 (by rw [List.length_replicate, sizeLine_eq]; omega) ⟨(k5.trans k6).own hp, ?_⟩
      rw [upd_same, List.replicate_succ']
    · rintro H5 ⟨k5, hp5⟩
      walk_at "rd"
      refine ⟨p, List.replicate _ true, rfl, SqL.of (by rw [hp5, List.map_replicate]), ?_⟩
      have e1 : ∀ n : Nat, (List.replicate n true).all id = true := fun n => by
        rw [List.all_eq_true]
        intro y hy
        exact (List.mem_replicate.mp hy).2
      rw [e1]
      walk_at "rd"
      exact k _ (k14.trans k5)
theorem ok_order_error (D : Df K mg "order_error" sorder_error Porder_error) (B : Blt mg) {t1 : Tok} (g_MAX_NEST : mg "MAX_NEST" = some (.int 3 t1))
    (Gis_statement : Has P w K mg base CX0 "is_statement" ["value"] 10 (spAsk K isStmt)) (Gitems_within : Has P w K mg base CX0 "items_within" ["statement", "depth"] 2 (spItems K)) :
    Has P w K mg base CX0 "order_error" Porder_error 11 (spOrder K) := by
  refine D.has scorder_error (fun vs H Q E h => ?_) (fun f cdv A outer s H vs Q E hr h => ?_)
  · obtain ⟨v, ds, rfl, _⟩ := h
    rfl
  obtain ⟨v, ds, rfl, hd, hz, k⟩ := h
  refine ⟨_, (pss_cons (ps_par (i := 1) (j := 2) (by rfl) scorder_error.nd rfl rfl (by decide) rfl rfl (pa_cons (pe_revL (pe_lc (own := [("item", 3)]) (g := gName 3) (by rfl) scorder_error.nd (pi_tup (pv 0)) (blkOk_by (own := [("item", 3)]) (N := Norder_error) (sc := defScope sorder_error) (by decide +kernel)) (fun _ _ _ _ _ => (pg_name (i := 3) scorder_error.nd rfl (Or.inl rfl))) (fun _ _ _ _ _ => pts_nil) (fun _ _ _ _ _ => (pe_tup (pa_cons pe_int (pa_cons (pv 3) pa_nil)))))) (pa_cons pe_int pa_nil)) (by rfl))
      (pss_cons (ps_while PassesOwn.never (pt_cmpR (op_neNil hr.h64) (pv 1) (pe_lst pa_nil) (nomark _)) (pss_cons (ps_asg (pe_bm0 PySem.F.plainAttrs_list PySem.F.slot_list_pop PySem.F.type_list_pop mt_pop (pv 1)) (pg_tup rfl (pgs_cons (pg_name (i := 4) scorder_error.nd rfl (Or.inl rfl)) (pgs_cons (pg_name (i := 3) scorder_error.nd rfl (Or.inl rfl)) pgs_nil))))
      (pss_cons (ps_if (pt_cmpR op_gt (pv 4) (pe_gint (by rfl) g_MAX_NEST) (nomark _)) (pss_one (ps_ret (pe_tup (pa_cons (pv 2) (pa_cons pe_str pa_nil)))))
        pss_nil)
      (pss_cons (ps_if (pt_not (pt_val (pe_f Gis_statement (hr.mono (by omega)) (by rfl) pass0 (pa_cons (pv 3) pa_nil)))) (pss_one (ps_ret (pe_tup (pa_cons (pv 2) (pa_cons pe_str pa_nil)))))
        pss_nil)
      (pss_cons (ps_expr (pe_bm PySem.F.plainAttrs_list PySem.F.slot_list_extend PySem.F.type_list_extend mt_extend (pv 1) (pa_cons (pe_f Gitems_within (hr.mono (by omega)) (by rfl) pass0 (pa_cons (pv 3) (pa_cons (pv 4) pa_nil))) pa_nil)))
      (pss_one (ps_aug (i := 2) scorder_error.nd rfl (.inl rfl) pe_int ip_add)))))))
      (pss_one (ps_ret pe_non)))), ?_⟩
  obtain ⟨a, xs, rfl, hT, hL⟩ := hd.items
  have hlen := dszs_len ds
  walk_at "rd"
  refine lc_stk (n := 0) hT hL (by omega) (fun y H' R hR => ?_) (fun _ => rfl) fun q0 H1 us hq0 k1 hq1 hS1 => ?_
  · walk_at "rd"
    exact ⟨by walk_at "sz", hR⟩
  refine r_RevL (SqL.of hq1) fun l hl => ?_
  have k2 : Kp [] H (upd H1 l (.lst us.reverse)) := k1.new hl
  have hl2 : upd H1 l (.lst us.reverse) l = some (.lst us.reverse) := upd_same
  have S2 : Stk [l] K (upd H1 l (.lst us.reverse)) us.reverse ((ds.map fun e => (0, e)).reverse) := ((hS1.fresh hl).kp0 (Kp.nil.new hl)).rev
  have hl0 : H l = none := k1.free (fun b hb => by cases hb) hl
  generalize upd H1 l (.lst us.reverse) = H2 at k2 hl2 S2 ⊢
  walk_at "rd"
  refine r_while (fun m σ H' => ∃ (us : List V) (st : List (Nat × PyData)) (pl : Nat) (ix dx : Option V), σ = [some (.ref a), some (.ref l), some (.int pl), ix, dx] ∧ Kp [] H H' ∧ H' l = some (.lst us) ∧
      Stk [l] K H' us st.reverse ∧ ordLoop (stSize st) st pl = ordErr ds ∧ stSize st = m ∧ m ≤ 1000000) (dszs ds)
    ⟨_, ds.map fun e => (0, e), 0, none, none, rfl, k2, hl2, S2, by rw [stSize_map]; rfl, stSize_map _ _, hz⟩ ?_
  rintro m σ H3 ⟨us, st, pl, ix, dx, rfl, k3, hl3, hS3, hO, hm, hmz⟩
  walk_at "rd"
  refine ⟨by decide, fun q hq => ?_⟩
  have k4 : Kp [] H3 (upd H3 q (.lst [])) := Kp.nil.new hq
  have hl4 := k4.get hl3 (by simp)
  have S4 := hS3.kp0 k4
  refine r_neNL (SqL.of hl4) (SqL.of upd_same) ?_
  have k4' := k3.trans k4
  generalize upd H3 q (.lst []) = H4 at k4' hl4 S4 ⊢
  cases st with
  | nil =>
    have e : us = [] := List.length_eq_zero_iff.mp S4.len
    subst e
    walk_at "rd"
    refine k _ _ k4' ?_
    rw [← hO]
    exact Dt.non
  | cons p st =>
    obtain ⟨dep, d⟩ := p
    rw [List.reverse_cons] at S4
    obtain ⟨us', b, y, rfl, S5, hb, hy⟩ := S4.last
    rw [stSize_cons] at hm hO
    have hdp := dsz_pos d
    have hin := inner_size d
    obtain ⟨f, hf⟩ : ∃ f, dsz d + stSize st = f + 1 := ⟨dsz d + stSize st - 1, by omega⟩
    rw [hf, ordLoop] at hO
    have he : (!(us' ++ [V.ref b]).isEmpty) = true := by cases us' <;> rfl
    rw [he]
    walk_at "rd"
    refine r_turn ?_
    walk_at "rd"
    refine r_pop hl4 ?_
    have k5 := kpW (o := .lst us') hl4
    have k5' : Kp [] H (upd H4 l (.lst us')) := k4'.own hl0
    have hb5 := k5.tup hb
    have S6 := S5.kpS k5 fun b hb => hb
    have hy5 := hy.kpS k5 fun b hb => hb
    have hl5 : upd H4 l (.lst us') l = some (.lst us') := upd_same
    generalize upd H4 l (.lst us') = H5 at k5 k5' hb5 S6 hy5 hl5 ⊢
    walk_at "rd"
    refine ifd (fun c1 => ?_) (fun c1 => ?_)
    · walk_at "rd"
      refine ⟨by walk_at "sz", fun r hr' => ?_⟩
      refine k _ _ (k5'.new hr') ?_
      rw [← hO, if_pos (by omega)]
      exact Dt.mk2 upd_same (.int _) (.str _)
    rw [if_neg (by omega)] at hO
    walk_at "rd"
    refine ⟨y, d, rfl, hy5.nil, by omega, fun H6 k6 => ?_⟩
    cases hst : isStmt d with
    | false =>
      walk_at "rd"
      refine ⟨by walk_at "sz", fun r hr' => ?_⟩
      refine k _ _ ((k5'.trans k6).new hr') ?_
      rw [← hO, if_pos hst]
      exact Dt.mk2 upd_same (.int _) (.str _)
    | true =>
      rw [if_neg (by rw [hst]; decide)] at hO
      have hl6 := k6.get hl5 (by simp)
      walk_at "rd"
      refine ⟨[l], y, d, dep, rfl, hy5.kp0 k6, hst, by omega, fun H7 r ws hr' k7 hr7 S7 => ?_⟩
      have hl7 := k7.get hl6 (by simp)
      have hrl : r ≠ l := Ne.symm (ne_of_none hl6 hr')
      have w1 : ws.length = (inner d).length := by rw [S7.len, List.length_reverse, List.length_map]
      have w2 : us'.length = st.length := by rw [S6.len, List.length_reverse]
      have w3 := dszs_len (inner d)
      have w4 : st.length ≤ stSize st := by
        unfold stSize
        have := dszs_len (st.map (·.2))
        rwa [List.length_map] at this
      walk_at "rd"
      · have k8 := kpW (o := .lst (us' ++ ws)) hl7
        refine ⟨dszs (inner d) + stSize st, by omega, us' ++ ws, (inner d).map (fun e => (dep + 1, e)) ++ st, pl + 1, _, _, rfl, ((k5'.trans k6).trans k7).own hl0, upd_same, ?_, ?_, ?_, by omega⟩
        · rw [List.reverse_append]
          exact (((S6.kp0 k6).kp0 k7).kpS k8 fun b hb => hb).app (S7.kpS k8 fun b hb => hb)
        · rw [← hO]
          exact ordLoop_fuel _ _ _ _ (Nat.le_refl _) (by rw [stSize_app, stSize_map]; omega)
        · rw [stSize_app, stSize_map]
      · rw [sizeLine_eq]
        omega
theorem ok_bare (D : Df K mg "bare" sbare Pbare) (B : Blt mg) : Has P w K mg base CX0 "bare" Pbare 1 (spBare K) := by
  refine D.has scbare (fun vs H Q E h => ?_) (fun f cdv A outer s H vs Q E hr h => ?_)
  · obtain ⟨M, v, t, rfl, _⟩ := h
    rfl
  obtain ⟨M, v, t, rfl, hd, k⟩ := h
  refine ⟨_, (pss_cons (ps_while PassesOwn.never (pt_cmpR op_eq (pe_ix ix_tup (pv 0) pe_int (fun _ _ => rfl)) pe_str (nomark _)) (pss_one (ps_set (i := 0) scbare.nd rfl (Or.inl rfl) (pe_ix ix_tup (pv 0) pe_int (fun _ _ => rfl)))))
      (pss_one (ps_ret (pv 0)))), ?_⟩
  walk_at "rd"
  refine r_while (fun m σ H' => ∃ (u : V) (z : Ts), σ = [some u] ∧ H' = H ∧ Dw M K H u z.d ∧ z.bare = t.bare ∧ z.high = m) t.high ⟨v, t, rfl, rfl, hd, rfl, rfl⟩ ?_
  rintro m σ H1 ⟨u, z, rfl, rfl, hz, hb, rfl⟩
  cases z with
  | not z =>
    obtain ⟨a, xs, rfl, hT, hL⟩ := hz.items
    obtain ⟨x0, x1, d0, d1, rfl, e, h0, h1⟩ := hL.is2 hL.len
    cases e
    obtain rfl := h0.isStr
    walk_at "rd"
    refine r_turn ?_
    walk_at "rd"
    exact ⟨z.high, by show z.high < z.high + 1; omega, x1, z, rfl, rfl, h1, hb, rfl⟩
  | given x =>
    obtain ⟨a, xs, rfl, hT, hL⟩ := hz.items
    obtain ⟨x0, x1, d0, d1, rfl, e, h0, h1⟩ := hL.is2 hL.len
    cases e
    obtain rfl := h0.isStr
    walk_at "rd"
    refine k _ ?_
    rw [← hb]
    exact hz
  | rest e b r =>
    obtain ⟨a, xs, rfl, hT, hL⟩ := hz.items
    obtain ⟨x0, x1, x2, x3, d0, d1, d2, d3, rfl, e, h0, h1⟩ := hL.is4 hL.len
    cases e
    obtain rfl := h0.isStr
    walk_at "rd"
    refine k _ ?_
    rw [← hb]
    exact hz
  | less e b =>
    obtain ⟨a, xs, rfl, hT, hL⟩ := hz.items
    obtain ⟨x0, x1, x2, d0, d1, d2, rfl, e, h0, h1⟩ := hL.is3 hL.len
    cases e
    obtain rfl := h0.isStr
    walk_at "rd"
    refine k _ ?_
    rw [← hb]
    exact hz
theorem ok_own_count (D : Df K mg "own_count" sown_count Pown_count) (B : Blt mg) (Gbare : Has P w K mg base CX0 "bare" ["test"] 1 (spBare K)) :
    Has P w K mg base CX0 "own_count" Pown_count 2 (spOwn K) := by
  refine D.has scown_count (fun vs H Q E h => ?_) (fun f cdv A outer s H vs Q E hr h => ?_)
  · obtain ⟨M, v, s, so, rfl, _⟩ := h
    rfl
  obtain ⟨M, v, s, so, rfl, hd, k⟩ := h
  refine ⟨_, (pss_cons (ps_if (pt_cmpR op_eq (pv 1) pe_str (nomark _)) (pss_one (ps_ret pe_int))
        pss_nil)
      (pss_one (ps_ret (pe_callTy c_int (by rfl) B.int (by decide +kernel) (pa_cons (pe_and (pe_cmpR op_eq (pe_ix ix_tup (pv 0) pe_int (fun _ _ => rfl)) pe_str (nomark _)) (pe_one (pe_cmpR op_eq (pe_ix ix_tup (pe_f Gbare (hr.mono (by omega)) (by rfl) pass0 (pa_cons (pe_ix ix_tup (pv 0) pe_int (fun _ _ => rfl)) pa_nil)) pe_int (fun _ _ => rfl)) (pv 1) (nomark _)))) pa_nil))))), ?_⟩
  unfold Sm.own at k
  walk_at "rd"
  refine ifd (fun c => ?_) (fun c => ?_)
  · walk_at "rd"
    rw [if_pos (V.str.inj c)] at k
    exact k
  rw [if_neg (fun e => c (by rw [e]))] at k
  cases s with
  | pl p =>
    obtain ⟨u, r, e, n1, n2⟩ := Pl.hd p
    rw [Sm.d, e] at hd
    obtain ⟨a, xs, rfl, hT, hL⟩ := hd.items
    obtain ⟨x, ys, rfl, h0, hR⟩ := hL.inv
    obtain rfl := h0.isStr
    have hx0 : atI (V.str u :: ys) 0 = some (V.str u) := at_nn (Int.le_refl 0) rfl
    walk_at "rd"
    refine ifd (fun c => absurd (V.str.inj c) n1) fun _ => ?_
    walk_at "rd"
    exact k
  | rep n b =>
    rw [Sm.d] at hd
    obtain ⟨a, xs, rfl, hT, hL⟩ := hd.items
    obtain ⟨x0, x1, x2, d0, d1, d2, rfl, e, h0, h1, h2⟩ := hL.is3 hL.len
    cases e
    obtain rfl := h0.isStr
    walk_at "rd"
    exact k
  | ifs t y z =>
    rw [Sm.d] at hd
    obtain ⟨a, xs, rfl, hT, hL⟩ := hd.items
    obtain ⟨x0, x1, x2, x3, d0, d1, d2, d3, rfl, e, h0, h1, h2, h3⟩ := hL.is4 hL.len
    cases e
    obtain rfl := h0.isStr
    walk_at "rd"
    refine ⟨M, x1, t, rfl, h1, fun u hu => ?_⟩
    obtain ⟨a2, ys, rfl, hT2, h2w⟩ := Ts.headW hu
    walk_at "rd"
    have e : (if decide (V.str t.bare.word = V.str so) = true then (1 : Int) else 0) = if t.bare.word = so then 1 else 0 := by
      by_cases hq : t.bare.word = so
      · rw [if_pos hq, hq, if_pos (by rw [decide_eq_true_eq])]
      · rw [if_neg hq, if_neg (by rw [decide_eq_true_eq]; exact fun z => hq (V.str.inj z))]
    rw [e]
    exact k
theorem ok_counted1 (D : Df K mg "counted" scounted Pcounted) (B : Blt mg) {n lv : Nat} {sp2 : Sp} (hlv : 2 ≤ lv) (Gblocks_of : Has P w K mg base CX0 "blocks_of" ["statement"] 1 (spBlocks K))
    (Gown_count : Has P w K mg base CX0 "own_count" ["statement", "sort"] 2 (spOwn K)) (Gcounted : Has P w K mg base CX0 "counted" Pcounted lv sp2) (hs : ∀ m, n = m + 1 → sp2 = spCnt K m) :
    Has P w K mg base CX0 "counted" Pcounted (lv + 1) (spCnt K n) := by
  refine D.has sccounted (fun vs H Q E h => ?_) (fun f cdv A outer s H vs Q E hr h => ?_)
  · obtain ⟨M, v, b, so, rfl, _⟩ := h
    rfl
  obtain ⟨M, v, b, so, rfl, hd, hv, k⟩ := h
  refine ⟨_, (pss_cons (ps_set (i := 2) sccounted.nd rfl (Or.inl rfl) pe_int)
      (pss_cons (ps_for PassesOwn.never rfl (pi_tup (pv 0)) (pg_name (i := 3) sccounted.nd rfl (Or.inl rfl))
        (pss_cons (ps_set (i := 4) sccounted.nd rfl (Or.inl rfl) (pe_callB (cr_sum (by rfl)) (by rfl) B.sum (by decide +kernel) (pa_cons (pe_lc (own := [("part", 5)]) (g := gName 5) (by rfl) sccounted.nd (pi_list (pe_f Gblocks_of (hr.mono (by omega)) (by rfl) pass0 (pa_cons (pv 3) pa_nil))) (blkOk_by (own := [("part", 5)]) (N := Ncounted) (sc := defScope scounted) (by decide +kernel)) (fun _ _ _ _ _ => (pg_name (i := 5) sccounted.nd rfl (Or.inl rfl))) (fun _ _ _ _ _ => pts_nil) (fun _ _ _ _ _ => (pe_f Gcounted (hr.mono (by omega)) (by rfl) pass0 (pa_cons (pv 5) (pa_cons (pv 1) pa_nil))))) pa_nil)))
      (pss_one (ps_aug (i := 2) sccounted.nd rfl (.inl rfl) (pe_op op_add (pe_f Gown_count (hr.mono (by omega)) (by rfl) pass0 (pa_cons (pv 3) (pa_cons (pv 1) pa_nil))) (pe_op op_mul (pv 4) (pe_ifExp (pt_cmpR op_eq (pe_ix ix_tup (pv 3) pe_int (fun _ _ => rfl)) pe_str (nomark _)) (pe_ix ix_tup (pv 3) pe_int (fun _ _ => rfl)) pe_int))) ip_add))))
      (pss_one (ps_ret (pv 2))))), ?_⟩
  obtain ⟨a, xs, rfl, hT, hL⟩ := hd.items
  have hlen : xs.length = b.length := by rw [hL.len, Sm.ds_map, List.length_map]
  walk_at "rd"
  refine r_ForT (xs := xs) hT (fun i σ H' => ∃ sx ix px, σ = [some (.ref a), some (.str so), some (.int (Sm.cnts so (b.take i))), sx, ix, px] ∧ Kp [] H H') ⟨none, none, none, rfl, Kp.nil⟩ (fun i σ H' ⟨_, _, _, _, q⟩ => sqT_kp q hT) ?_ ?_
  · rintro i x σ H1 hx ⟨sx, ix, px, rfl, k1⟩
    obtain ⟨dd, hdd, hxd⟩ := hL.get hx
    rw [Sm.ds_map, List.getElem?_map] at hdd
    obtain ⟨sm, hsm, rfl⟩ := Option.map_eq_some_iff.mp hdd
    have hmem : sm ∈ b := List.mem_of_getElem? hsm
    obtain ⟨m, rfl⟩ : ∃ m, n = m + 1 := by
      cases n with
      | zero =>
        rw [show b = [] from hv] at hmem
        cases hmem
      | succ m => exact ⟨m, rfl⟩
    have hsv : Sm.vd m sm := hv sm hmem
    obtain rfl := hs m rfl
    have hst := hsv.is.1
    have hx1 := hxd.kp0 k1
    have htk : b.take (i + 1) = b.take i ++ [sm] := by rw [List.take_add_one, hsm]; rfl
    walk_at "rd"
    refine ⟨M, x, sm.d, rfl, hx1, hst, fun H2 p ys hp k2 hp2 hY => ?_⟩
    rw [Sm.blks, List.map_map] at hY
    have hx2 := hx1.kp0 k2
    refine r_LcL (SqL.of hp2) fun q hq => ⟨fun j H' => Kp [] H2 H' ∧ H' q = some (.lst (((sm.parts.take j).map fun c => V.int (Sm.cnts so c)))), ⟨Kp.nil.new hq, upd_same⟩, fun j H' ⟨q1, _⟩ => SqL.of (q1.get hp2 (by simp)), ?_, ?_⟩
    · rintro j u H3 hu ⟨k3, hq3⟩
      obtain ⟨du, hdu, hud⟩ := hY.get hu
      rw [List.getElem?_map] at hdu
      obtain ⟨pt, hpt, rfl⟩ := Option.map_eq_some_iff.mp hdu
      have hpm : pt ∈ sm.parts := List.mem_of_getElem? hpt
      walk_at "rd"
      refine ⟨M, u, pt, so, rfl, hud.kp0 k3, hsv.parts pt hpm, fun H4 k4 => ?_⟩
      have hq4 := k4.get hq3 (by simp)
      have hjl : j < sm.parts.length := (List.getElem?_eq_some_iff.mp hpt).1
      have hpl : sm.parts.length ≤ 2 := by cases sm <;> simp [Sm.parts]
      refine r_LcEnd hq4 (by rw [List.length_map, List.length_take, sizeLine_eq]; omega) ⟨(k3.trans k4).own hq, ?_⟩
      rw [upd_same, List.take_add_one, hpt, List.map_append]
      rfl
    · rintro H3 ⟨k3, hq3⟩
      have hyl := hY.len
      rw [List.length_map] at hyl
      rw [hyl, List.take_length] at hq3
      have k3' := (k1.trans k2).trans k3
      have hx3 := hx2.kp0 k3
      walk_at "rd"
      refine ⟨q, sm.parts.map (Sm.cnts so), rfl, SqL.of (by rw [hq3, List.map_map]; rfl), ?_⟩
      walk_at "rd"
      refine ⟨M, x, sm, so, rfl, hx3, ?_⟩
      walk_at "rdj"
      refine r_ifJ (fun v H4 => v = .int sm.again ∧ H4 = H3) (fun Q' kQ => ?_) ?_
      · cases sm with
        | pl p =>
          obtain ⟨u, r, e, n1, n2⟩ := Pl.hd p
          rw [Sm.d, e] at hx3
          obtain ⟨a3, ws, rfl, hT3, hL3⟩ := hx3.items
          obtain ⟨z, zs, rfl, h0, hR⟩ := hL3.inv
          obtain rfl := h0.isStr
          have hx0 : atI (V.str u :: zs) 0 = some (V.str u) := at_nn (Int.le_refl 0) rfl
          walk_at "rd"
          refine ifd (fun c => absurd (V.str.inj c) n2) fun _ => ?_
          walk_at "rd"
          exact kQ _ _ ⟨rfl, rfl⟩
        | ifs t y z =>
          rw [Sm.d] at hx3
          obtain ⟨a3, ws, rfl, hT3, hL3⟩ := hx3.items
          obtain ⟨x0, x1, x2, x3, d0, d1, d2, d3, rfl, e, h0, h1, h2, h3⟩ := hL3.is4 hL3.len
          cases e
          obtain rfl := h0.isStr
          walk_at "rd"
          exact kQ _ _ ⟨rfl, rfl⟩
        | rep kk y =>
          rw [Sm.d] at hx3
          obtain ⟨a3, ws, rfl, hT3, hL3⟩ := hx3.items
          obtain ⟨x0, x1, x2, d0, d1, d2, rfl, e, h0, h1, h2⟩ := hL3.is3 hL3.len
          cases e
          obtain rfl := h0.isStr
          obtain rfl := h1.isInt
          walk_at "rd"
          exact kQ _ _ ⟨rfl, rfl⟩
      · rintro v H4 ⟨rfl, rfl⟩
        have hag : 0 ≤ sm.again ∧ sm.again ≤ 8 := by
          cases sm with
          | rep kk y => cases m <;> exact ⟨hsv.1, hsv.2.1⟩
          | _ => exact ⟨by show (0 : Int) ≤ 1; decide, by show (1 : Int) ≤ 8; decide⟩
        walk_at "rd"
        · refine ⟨some x, some (.int (List.map (Sm.cnts so) sm.parts).sum), px, ?_, k3'⟩
          rw [htk, Sm.cnts_snoc, Sm.cnt_parts]
          rfl
        · exact c_mulR (by omega) (by omega)
  · rintro σ H1 ⟨sx, ix, px, rfl, k1⟩
    walk_at "rd"
    rw [hlen, List.take_length]
    exact k _ k1
theorem ok_weight (D : Df K mg "weight" sweight Pweight) (B : Blt mg) {lv : Nat} (Gcounted : Has P w K mg base CX0 "counted" ["block", "sort"] lv (spCnt K 4)) :
    Has P w K mg base CX0 "weight" Pweight (lv + 1) (spWt K) := by
  refine D.has scweight (fun vs H Q E h => ?_) (fun f cdv A outer s H vs Q E hr h => ?_)
  · obtain ⟨M, v, b, rfl, _⟩ := h
    rfl
  obtain ⟨M, v, b, rfl, hd, hv, k⟩ := h
  refine ⟨_, (pss_one (ps_ret (pe_f Gcounted (hr.mono (by omega)) (by rfl) pass0 (pa_cons (pv 0) (pa_cons pe_str pa_nil))))), ?_⟩
  walk_at "rd"
  exact ⟨M, v, b, "weight", rfl, hd, hv, k⟩
theorem ok_program_error (D : Df K mg "program_error" sprogram_error Pprogram_error) (B : Blt mg) {t1 t2 t3 t4 : Tok} (g_MAX_PLACES : mg "MAX_PLACES" = some (.int 24 t1)) (g_MAX_WEIGHT : mg "MAX_WEIGHT" = some (.int 30 t2))
    (g_MAX_RESTS : mg "MAX_RESTS" = some (.int 2 t3)) (g_MAX_COMPARINGS : mg "MAX_COMPARINGS" = some (.int 2 t4))
    (Gorder_error : Has P w K mg base CX0 "order_error" ["value"] 11 (spOrder K)) (Grows_of_programs : Has P w K mg base CX0 "rows_of_programs" ["program"] 3 (spRows K))
    (Gcounted : Has P w K mg base CX0 "counted" ["block", "sort"] 7 (spCnt K 4)) (Gweight : Has P w K mg base CX0 "weight" ["program"] 8 (spWt K)) :
    Has P w K mg base CX0 "program_error" Pprogram_error 12 (spPerr K) := by
  refine D.has scprogram_error (fun vs H Q E h => ?_) (fun f cdv A outer s H vs Q E hr h => ?_)
  · obtain ⟨v, d, rfl, _⟩ := h
    rfl
  obtain ⟨v, d, rfl, hd, hz, k⟩ := h
  refine ⟨_, (pss_cons (ps_if (pt_not (pt_val (pe_callB c_is2 (by rfl) B.isinstance (by decide +kernel) (pa_cons (pv 0) (pa_cons (pe_ty (T := "tuple") (by rfl) B.tuple (by decide +kernel)) pa_nil))))) (pss_one (ps_ret (pe_tup (pa_cons pe_non (pa_cons pe_str pa_nil)))))
        pss_nil)
      (pss_cons (ps_set (i := 1) scprogram_error.nd rfl (Or.inl rfl) (pe_f Gorder_error (hr.mono (by omega)) (by rfl) pass0 (pa_cons (pv 0) pa_nil)))
      (pss_cons (ps_if (pt_cmpR op_notN (pv 1) pe_non (nomark _)) (pss_one (ps_ret (pv 1)))
        pss_nil)
      (pss_cons (ps_if (pt_cmpR op_gt (pe_callB c_len (by rfl) B.len (by decide +kernel) (pa_cons (pe_f Grows_of_programs (hr.mono (by omega)) (by rfl) pass0 (pa_cons (pv 0) pa_nil)) pa_nil)) (pe_gint (by rfl) g_MAX_PLACES) (nomark _)) (pss_one (ps_ret (pe_tup (pa_cons pe_non (pa_cons pe_str pa_nil)))))
        pss_nil)
      (pss_cons (ps_if (pt_cmpR op_gt (pe_f Gweight (hr.mono (by omega)) (by rfl) pass0 (pa_cons (pv 0) pa_nil)) (pe_gint (by rfl) g_MAX_WEIGHT) (nomark _)) (pss_one (ps_ret (pe_tup (pa_cons pe_non (pa_cons pe_str pa_nil)))))
        pss_nil)
      (pss_cons (ps_if (pt_cmpR op_gt (pe_f Gcounted (hr.mono (by omega)) (by rfl) pass0 (pa_cons (pv 0) (pa_cons pe_str pa_nil))) (pe_gint (by rfl) g_MAX_RESTS) (nomark _)) (pss_one (ps_ret (pe_tup (pa_cons pe_non (pa_cons pe_str pa_nil)))))
        pss_nil)
      (pss_one (ps_ret (pe_ifExp (pt_cmpR op_gt (pe_f Gcounted (hr.mono (by omega)) (by rfl) pass0 (pa_cons (pv 0) (pa_cons pe_str pa_nil))) (pe_gint (by rfl) g_MAX_COMPARINGS) (nomark _)) (pe_tup (pa_cons pe_non (pa_cons pe_str pa_nil))) pe_non))))))))), ?_⟩
  cases d with
  | tuple ds =>
    rw [dsz] at hz
    walk_at "rd"
    refine ⟨v, ds, rfl, hd, by omega, fun H1 r k1 hr1 => ?_⟩
    cases ho : ordErr ds with
    | some x =>
      obtain ⟨pl, wd⟩ := x
      rw [ho] at hr1
      have q := k _ r k1 (by rw [perr, ho]; exact hr1)
      obtain ⟨a, x, y, rfl, _⟩ := Dt.is2 hr1
      walk_at "rd"
      refine ⟨rfl, ?_⟩
      walk_at "rd"
      refine ifn (fun _ => ?_) (fun c => by cases c)
      walk_at "rd"
      exact q
    | none =>
      rw [ho] at hr1
      obtain rfl := Dt.isNone hr1
      have hp : perr (.tuple ds) = lim (treeOf ds) := by rw [perr, ho]
      rw [hp] at k
      obtain ⟨e1, hvd⟩ := treeOf_spec ho
      generalize treeOf ds = p at k e1 hvd
      subst e1
      have hd1 := hd.kp0 k1
      unfold lim at k
      walk_at "rd"
      refine ⟨rfl, ?_⟩
      walk_at "rd"
      refine ifn (fun c => absurd rfl c) fun _ => ?_
      walk_at "rd"
      refine ⟨[], v, p, rfl, hd1, fun s hs => ⟨3, hvd s hs⟩, by omega, fun H2 r us hr2 k2 hr3 hS => ?_⟩
      have hus : us.length = Sm.sizes p := by rw [hS.len, Sm.rowsL_len]
      have kk2 := k1.trans k2
      have hd2 := hd1.kp0 k2
      walk_at "rd"
      refine ifd (fun c => ?_) (fun c => ?_)
      · walk_at "rd"
        refine ⟨by walk_at "sz", fun t ht => k _ _ (kk2.new ht) ?_⟩
        rw [if_pos (by omega)]
        exact Dt.mk2 upd_same .non (.str _)
      rw [if_neg (by omega)] at k
      walk_at "rd"
      refine ⟨[], v, p, rfl, hd2, hvd, fun H3 k3 => ?_⟩
      have kk3 := kk2.trans k3
      have hd3 := hd2.kp0 k3
      walk_at "rd"
      refine ifd (fun c1 => ?_) (fun c1 => ?_)
      · walk_at "rd"
        refine ⟨by walk_at "sz", fun t ht => k _ _ (kk3.new ht) ?_⟩
        rw [if_pos c1]
        exact Dt.mk2 upd_same .non (.str _)
      rw [if_neg c1] at k
      walk_at "rd"
      refine ⟨[], v, p, "rest", rfl, hd3, hvd, fun H4 k4 => ?_⟩
      have kk4 := kk3.trans k4
      have hd4 := hd3.kp0 k4
      walk_at "rd"
      refine ifd (fun c2 => ?_) (fun c2 => ?_)
      · walk_at "rd"
        refine ⟨by walk_at "sz", fun t ht => k _ _ (kk4.new ht) ?_⟩
        rw [if_pos c2]
        exact Dt.mk2 upd_same .non (.str _)
      rw [if_neg c2] at k
      walk_at "rd"
      refine ⟨[], v, p, "less", rfl, hd4, hvd, fun H5 k5 => ?_⟩
      have kk5 := kk4.trans k5
      walk_at "rd"
      refine ifd (fun c3 => ?_) (fun c3 => ?_)
      · walk_at "rd"
        refine ⟨by walk_at "sz", fun t ht => k _ _ (kk5.new ht) ?_⟩
        rw [if_pos c3]
        exact Dt.mk2 upd_same .non (.str _)
      rw [if_neg c3] at k
      walk_at "rd"
      exact k _ _ kk5 .non
  | _ =>
    walk_at "rd"
    refine ⟨by walk_at "sz", fun t ht => k _ _ (Kp.nil.new ht) ?_⟩
    exact Dt.mk2 upd_same .non (.str _)
theorem ok_need_program {CB : Addr} (D : Df K mg "need_program" sneed_program Pneed_program) (B : Blt mg) (Gprogram_error : Has P w K mg base CX0 "program_error" ["value"] 12 (spPerr K))
    (GBadProgram : HasH P w K mg base "BadProgram" CB ["self", "error"] 1 (spErr CB "error")) : Has P w K mg base (L2.CX P w) "need_program" Pneed_program 13 (spNeed K CB) := by
  refine D.hasX scneed_program (fun vs H Q E h => ?_) (fun f cdv A outer s H vs Q E hr h => ?_)
  · obtain ⟨v, d, rfl, _⟩ := h
    rfl
  obtain ⟨v, d, rfl, hd, hz, k1, k2⟩ := h
  refine ⟨_, (pss_cons (ps_set (i := 1) scneed_program.nd rfl (Or.inl rfl) (pe_f Gprogram_error (hr.mono (by omega)) (by rfl) pass0 (pa_cons (pv 0) pa_nil)))
      (pss_cons (ps_if (pt_cmpR op_notN (pv 1) pe_non (nomark _)) (pss_one (ps_raise rfl (takes_of rfl rfl rfl rfl) (pmk_errH GBadProgram (hr.mono (by omega)) (by rfl) (pa_cons (pv 1) pa_nil))))
        pss_nil)
      (pss_one (ps_ret (pv 0))))), ?_⟩
  walk_at "rd"
  refine ⟨v, d, rfl, hd, hz, fun H1 r kk hr1 => ?_⟩
  by_cases hp : perr d = .none
  · rw [hp] at hr1
    obtain rfl := hr1.isNone
    walk_at "rd"
    refine ⟨rfl, ?_⟩
    walk_at "rd"
    refine ifn (fun c => absurd rfl c) fun _ => ?_
    walk_at "rd"
    exact k1 hp _ kk
  · have hn : r ≠ V.non := fun z => by
      rw [z] at hr1
      generalize perr d = e at hr1 hp
      cases hr1
      exact hp rfl
    walk_at "rd"
    refine ⟨rfl, ?_⟩
    walk_at "rd"
    refine ifn (fun _ => ?_) fun c => absurd c hn
    walk_at "rd"
    refine r_err ?_
    walk_at "rd"
    refine r_ErrQ fun e he => ?_
    have k3 : Kp [] H1 (upd H1 e (.xd [("error", r)])) := Kp.nil.new he
    exact k2 hp _ e r (kk.trans k3) (kk.freeM Ms.nil he) upd_same (hr1.kp k3)
theorem ok_statements_in1 (D : Df K mg "statements_in" sstatements_in Pstatements_in) (B : Blt mg) {n lv : Nat} {sp2 : Sp} (Gsize_of : Has P w K mg base CX0 "size_of" ["statement"] lv sp2) (hs : ∀ m, n = m + 1 → sp2 = spSize K m) :
    Has P w K mg base CX0 "statements_in" Pstatements_in (lv + 1) (spStmts K n) := by
  refine D.has scstatements_in (fun vs H Q E h => ?_) (fun f cdv A outer s H vs Q E hr h => ?_)
  · obtain ⟨M, v, b, rfl, _⟩ := h
    rfl
  obtain ⟨M, v, b, rfl, hd, hv, hz, k⟩ := h
  refine ⟨_, (pss_one (ps_ret (pe_callB (cr_sum (by rfl)) (by rfl) B.sum (by decide +kernel) (pa_cons (pe_lc (own := [("statement", 1)]) (g := gName 1) (by rfl) scstatements_in.nd (pi_tup (pv 0)) (blkOk_by (own := [("statement", 1)]) (N := Nstatements_in) (sc := defScope sstatements_in) (by decide +kernel)) (fun _ _ _ _ _ => (pg_name (i := 1) scstatements_in.nd rfl (Or.inl rfl))) (fun _ _ _ _ _ => pts_nil) (fun _ _ _ _ _ => (pe_f Gsize_of (hr.mono (by omega)) (by rfl) pass0 (pa_cons (pv 1) pa_nil)))) pa_nil)))), ?_⟩
  obtain ⟨a, xs, rfl, hT, hL⟩ := hd.items
  have hlen : xs.length = b.length := by rw [hL.len, Sm.ds_map, List.length_map]
  have hle := Sm.len_sizes b
  walk_at "rd"
  refine r_LcT hT fun q hq => ⟨fun j H' => Kp [] H H' ∧ H' q = some (.lst (((b.take j).map fun c => V.int c.size))), ⟨Kp.nil.new hq, upd_same⟩, fun j H' ⟨q1, _⟩ => sqT_kp q1 hT, ?_, ?_⟩
  · rintro j u H3 hu ⟨k3, hq3⟩
    obtain ⟨dd, hdd, hxd⟩ := hL.get hu
    rw [Sm.ds_map, List.getElem?_map] at hdd
    obtain ⟨sm, hsm, rfl⟩ := Option.map_eq_some_iff.mp hdd
    have hmem : sm ∈ b := List.mem_of_getElem? hsm
    have hsz := Sm.sizes_mem hmem
    obtain ⟨m, rfl⟩ : ∃ m, n = m + 1 := by
      cases n with
      | zero =>
        rw [show b = [] from hv] at hmem
        cases hmem
      | succ m => exact ⟨m, rfl⟩
    have hsv : Sm.vd m sm := hv sm hmem
    obtain rfl := hs m rfl
    walk_at "rd"
    refine ⟨M, u, sm, rfl, hxd.kp0 k3, hsv, by omega, fun H4 k4 => ?_⟩
    have hq4 := k4.get hq3 (by simp)
    have hjl : j < b.length := (List.getElem?_eq_some_iff.mp hsm).1
    refine r_LcEnd hq4 (by rw [List.length_map, List.length_take, sizeLine_eq]; omega) ⟨(k3.trans k4).own hq, ?_⟩
    rw [upd_same, List.take_add_one, hsm, List.map_append]
    rfl
  · rintro H3 ⟨k3, hq3⟩
    rw [hlen, List.take_length] at hq3
    walk_at "rd"
    refine ⟨q, b.map fun c => (c.size : Int), rfl, SqL.of (by rw [hq3, List.map_map]; rfl), ?_⟩
    have e : ∀ c : List Sm, (c.map fun c => (c.size : Int)).sum = (Sm.sizes c : Int) := fun c => by
      induction c with
      | nil => rfl
      | cons s r ih =>
        rw [List.map_cons, List.sum_cons, ih, Sm.sizes]
        omega
    rw [e]
    exact k _ k3
theorem ok_size_of1 (D : Df K mg "size_of" ssize_of Psize_of) (B : Blt mg) {n lv : Nat} (Gstatements_in : Has P w K mg base CX0 "statements_in" ["block"] lv (spStmts K n)) :
    Has P w K mg base CX0 "size_of" Psize_of (lv + 1) (spSize K n) := by
  refine D.has scsize_of (fun vs H Q E h => ?_) (fun f cdv A outer s H vs Q E hr h => ?_)
  · obtain ⟨M, v, b, rfl, _⟩ := h
    rfl
  obtain ⟨M, v, sm, rfl, hd, hv, hz, k⟩ := h
  refine ⟨_, (pss_cons (ps_if (pt_cmpR op_eq (pe_ix ix_tup (pv 0) pe_int (fun _ _ => rfl)) pe_str (nomark _)) (pss_one (ps_ret (pe_op op_add (pe_op op_add pe_int (pe_f Gstatements_in (hr.mono (by omega)) (by rfl) pass0 (pa_cons (pe_ix ix_tup (pv 0) pe_int (fun _ _ => rfl)) pa_nil))) (pe_f Gstatements_in (hr.mono (by omega)) (by rfl) pass0 (pa_cons (pe_ix ix_tup (pv 0) pe_int (fun _ _ => rfl)) pa_nil)))))
        pss_nil)
      (pss_one (ps_ret (pe_ifExp (pt_cmpR op_eq (pe_ix ix_tup (pv 0) pe_int (fun _ _ => rfl)) pe_str (nomark _)) (pe_op op_add pe_int (pe_f Gstatements_in (hr.mono (by omega)) (by rfl) pass0 (pa_cons (pe_ix ix_tup (pv 0) pe_int (fun _ _ => rfl)) pa_nil))) pe_int)))), ?_⟩
  have hps := hv.parts
  cases sm with
  | pl p =>
    obtain ⟨u, r, e, n1, n2⟩ := Pl.hd p
    rw [Sm.d, e] at hd
    obtain ⟨a3, ws, rfl, hT3, hL3⟩ := hd.items
    obtain ⟨z, zs, rfl, h0, hR⟩ := hL3.inv
    obtain rfl := h0.isStr
    have hx0 : atI (V.str u :: zs) 0 = some (V.str u) := at_nn (Int.le_refl 0) rfl
    walk_at "rd"
    refine ifd (fun c => absurd (V.str.inj c) n1) fun _ => ?_
    walk_at "rd"
    refine ifd (fun c => absurd (V.str.inj c) n2) fun _ => ?_
    walk_at "rd"
    exact k _ Kp.nil
  | ifs t y z =>
    rw [Sm.d] at hd
    obtain ⟨a3, ws, rfl, hT3, hL3⟩ := hd.items
    obtain ⟨x0, x1, x2, x3, d0, d1, d2, d3, rfl, e, h0, h1, h2, h3⟩ := hL3.is4 hL3.len
    cases e
    obtain rfl := h0.isStr
    rw [Sm.size] at hz k
    walk_at "rd"
    refine ⟨M, x2, y, rfl, h2, hps y (List.mem_cons_self ..), by omega, fun H1 k1 => ?_⟩
    have hT4 := sqT_kp k1 hT3
    walk_at "rd"
    refine ⟨M, x3, z, rfl, h3.kp0 k1, hps z (List.mem_cons_of_mem _ (List.mem_cons_self ..)), by omega, fun H2 k2 => ?_⟩
    walk_at "rd"
    exact k _ (k1.trans k2)
  | rep kk y =>
    rw [Sm.d] at hd
    obtain ⟨a3, ws, rfl, hT3, hL3⟩ := hd.items
    obtain ⟨x0, x1, x2, d0, d1, d2, rfl, e, h0, h1, h2⟩ := hL3.is3 hL3.len
    cases e
    obtain rfl := h0.isStr
    rw [Sm.size] at hz k
    walk_at "rd"
    refine ⟨M, x2, y, rfl, h2, hps y (List.mem_cons_self ..), by omega, fun H1 k1 => ?_⟩
    walk_at "rd"
    exact k _ k1
theorem ok_all_in1 (D : Df K mg "all_in" sall_in Pall_in) (B : Blt mg) {n lv : Nat} {sp2 : Sp} (hlv : 1 ≤ lv) (Gblocks_of : Has P w K mg base CX0 "blocks_of" ["statement"] 1 (spBlocks K))
    (Gall_in : Has P w K mg base CX0 "all_in" Pall_in lv sp2) (hs : ∀ m, n = m + 1 → sp2 = spAllIn K m) : Has P w K mg base CX0 "all_in" Pall_in (lv + 1) (spAllIn K n) := by
  refine D.has scall_in (fun vs H Q E h => ?_) (fun f cdv A outer s H vs Q E hr h => ?_)
  · obtain ⟨v, b, rfl, _⟩ := h
    rfl
  obtain ⟨v, b, rfl, hd, hv, hz, k⟩ := h
  refine ⟨_, (pss_cons (ps_set (i := 1) scall_in.nd rfl (Or.inl rfl) (pe_tup pa_nil))
      (pss_cons (ps_for PassesOwn.never rfl (pi_tup (pv 0)) (pg_name (i := 2) scall_in.nd rfl (Or.inl rfl))
        (pss_cons (ps_set (i := 1) scall_in.nd rfl (Or.inl rfl) (pe_op op_catA (pv 1) (pe_tup (pa_cons (pv 2) pa_nil))))
      (pss_one (ps_for PassesOwn.never rfl (pi_list (pe_f Gblocks_of (hr.mono (by omega)) (by rfl) pass0 (pa_cons (pv 2) pa_nil))) (pg_name (i := 3) scall_in.nd rfl (Or.inl rfl))
        (pss_one (ps_set (i := 1) scall_in.nd rfl (Or.inl rfl) (pe_op op_catA (pv 1) (pe_f Gall_in (hr.mono (by omega)) (by rfl) pass0 (pa_cons (pv 3) pa_nil)))))))))
      (pss_one (ps_ret (pv 1))))), ?_⟩
  obtain ⟨a, xs, rfl, hT, hL⟩ := hd.items
  have hlen : xs.length = b.length := by rw [hL.len, Sm.ds_map, List.length_map]
  walk_at "rd"
  refine ⟨by decide, fun p0 hp0 => ?_⟩
  have k0 : Kp [] H (upd H p0 (.tup [])) := Kp.nil.new hp0
  have h0 : Dw [] K (upd H p0 (.tup [])) (.ref p0) (.tuple (Sm.ds [])) := by
    rw [Sm.ds]
    exact .tup (SqT.of upd_same) rfl fun i v d e => by simp at e
  generalize upd H p0 (.tup []) = H0 at k0 h0 ⊢
  walk_at "rd"
  refine r_ForT (xs := xs) (sqT_kp k0 hT) (fun i σ H' => ∃ (fv : V) (sx ix : Option V), σ = [some (.ref a), some fv, sx, ix] ∧ Kp [] H H' ∧ Dw [] K H' fv (.tuple (Sm.ds (Sm.als (b.take i))))) ⟨_, none, none, rfl, k0, by rw [List.take_zero, Sm.als]; exact h0⟩
    (fun i σ H' ⟨_, _, _, _, q, _⟩ => sqT_kp q hT) ?_ ?_
  · rintro i x σ H1 hx ⟨fv, sx, ix, rfl, k1, hf⟩
    obtain ⟨dd, hdd, hxd⟩ := hL.get hx
    rw [Sm.ds_map, List.getElem?_map] at hdd
    obtain ⟨sm, hsm, rfl⟩ := Option.map_eq_some_iff.mp hdd
    have hmem : sm ∈ b := List.mem_of_getElem? hsm
    have hsz := Sm.sizes_mem hmem
    obtain ⟨m, rfl⟩ : ∃ m, n = m + 1 := by
      cases n with
      | zero =>
        rw [show b = [] from hv] at hmem
        cases hmem
      | succ m => exact ⟨m, rfl⟩
    have hsv : Sm.vd m sm := hv sm hmem
    obtain rfl := hs m rfl
    have hx1 := hxd.kp0 k1
    have hst := hsv.is.1
    have hil : i < b.length := (List.getElem?_eq_some_iff.mp hsm).1
    have hal : (Sm.als (b.take i)).length ≤ 1000 := by
      rw [Sm.als_len]
      have q := Sm.sizes_app (b.take i) (b.drop i)
      rw [List.take_append_drop] at q
      omega
    walk_at "rd"
    refine ⟨by walk_at "sz", fun p hp => ?_⟩
    have k2 : Kp [] H1 (upd H1 p (.tup [x])) := Kp.nil.new hp
    have hp2 : Dw [] K (upd H1 p (.tup [x])) (.ref p) (.tuple [sm.d]) := DwL.tp (SqT.of upd_same) (DwL.cons (hx1.kp0 k2) DwL.nil)
    refine r_catW (hf.kp0 k2) hp2 (by rw [Sm.ds_map, List.length_map]; simp; omega) fun H3 f3 k3 hf3 => ?_
    have k13 := (k1.trans k2).trans k3
    have hx3 := (hx1.kp0 k2).kp0 k3
    walk_at "rd"
    refine ⟨[], x, sm.d, rfl, hx3, hst, fun H4 q ys hq k4 hq4 hY => ?_⟩
    rw [Sm.blks, List.map_map] at hY
    have hx0 : Sm.ds (Sm.als (b.take i)) ++ [sm.d] = Sm.ds (Sm.als (b.take i) ++ [sm]) := by
      rw [Sm.ds_app, Sm.ds, Sm.ds]
    rw [hx0] at hf3
    walk_at "rd"
    refine r_ForL (xs := ys) (SqL.of hq4) (fun j σ H' => ∃ (fv : V) (jx : Option V), σ = [some (.ref a), some fv, some x, jx] ∧ Kp [] H4 H' ∧ Dw [] K H' fv (.tuple (Sm.ds (Sm.als (b.take i) ++ (sm :: ((sm.parts.take j).map Sm.als).flatten)))))
      ⟨f3, ix, rfl, Kp.nil, hf3.kp0 k4⟩ (fun j σ H' ⟨_, _, _, z, _⟩ => SqL.of (z.get hq4 (by simp))) ?_ ?_
    · rintro j y σ H5 hy ⟨fv5, jx, rfl, k5, hf5⟩
      obtain ⟨du, hdu, hud⟩ := hY.get hy
      rw [List.getElem?_map] at hdu
      obtain ⟨pt, hpt, rfl⟩ := Option.map_eq_some_iff.mp hdu
      have hpm : pt ∈ sm.parts := List.mem_of_getElem? hpt
      have hps := Sm.parts_sizes hpm
      walk_at "rd"
      refine ⟨y, pt, rfl, hud.kp0 k5, hsv.parts pt hpm, by omega, fun H6 r6 k6 hr6 => ?_⟩
      refine r_catW (hf5.kp0 k6) hr6 ?_ fun H7 f7 k7 hf7 => ?_
      · have q1 : ((sm.parts.take j).map Sm.als).flatten.length ≤ sm.size := by
          have q := congrArg List.length (Sm.al_parts sm)
          rw [Sm.al_len, List.length_cons] at q
          have q2 := congrArg List.length (congrArg List.flatten (congrArg (List.map Sm.als) (List.take_append_drop j sm.parts)))
          rw [List.map_append, List.flatten_append, List.length_append] at q2
          omega
        rw [Sm.ds_map, Sm.ds_map, List.length_map, List.length_map, List.length_append, List.length_cons, Sm.als_len pt]
        omega
      walk_at "rd"
      refine ⟨f7, some y, rfl, (k5.trans k6).trans k7, ?_⟩
      rw [List.take_add_one, hpt, List.map_append, List.flatten_append]
      rw [← Sm.ds_app] at hf7
      have e5 : Sm.als (b.take i) ++ (sm :: (((sm.parts.take j).map Sm.als).flatten ++ ((some pt).toList.map Sm.als).flatten)) = Sm.als (b.take i) ++ (sm :: ((sm.parts.take j).map Sm.als).flatten) ++ Sm.als pt := by simp
      rw [e5]
      exact hf7
    · rintro σ H5 ⟨fv5, jx, rfl, k5, hf5⟩
      have hyl := hY.len
      rw [List.length_map] at hyl
      rw [hyl, List.take_length, ← Sm.al_parts, ← Sm.als_take_snoc hsm] at hf5
      exact ⟨fv5, _, _, rfl, (k13.trans k4).trans k5, hf5⟩
  · rintro σ H1 ⟨fv, sx, ix, rfl, k1, hf⟩
    walk_at "rd"
    rw [hlen, List.take_length] at hf
    exact k _ fv k1 hf
theorem ok_placed_at {C : Addr} (D : Df K mg "placed_at" splaced_at Pplaced_at) (B : Blt mg) (Gis_whole : Has P w K mg base CX0 "is_whole" ["value", "least", "most"] 1 (spWhole K)) (Gall_in : Has P w K mg base CX0 "all_in" ["block"] 6 (spAllIn K 4))
    (GNoPlace : HasH P w K mg base "NoPlace" C ["self", "place"] 1 (spErr C "place")) : Has P w K mg base (L2.CX P w) "placed_at" Pplaced_at 7 (spPlacedAt K C) := by
  refine D.hasX scplaced_at (fun vs H Q E h => ?_) (fun f cdv A outer s H vs Q E hr h => ?_)
  · obtain ⟨v, u, b, d, rfl, _⟩ := h
    rfl
  obtain ⟨v, u, b, d, rfl, hd, hv, hz, hu, k1, k2⟩ := h
  refine ⟨_, (pss_cons (ps_set (i := 2) scplaced_at.nd rfl (Or.inl rfl) (pe_f Gall_in (hr.mono (by omega)) (by rfl) pass0 (pa_cons (pv 0) pa_nil)))
      (pss_cons (ps_if (pt_not (pt_val (pe_f Gis_whole (hr.mono (by omega)) (by rfl) pass0 (pa_cons (pv 1) (pa_cons pe_int (pa_cons (pe_op op_sub (pe_callB c_len (by rfl) B.len (by decide +kernel) (pa_cons (pv 2) pa_nil)) pe_int) pa_nil)))))) (pss_one (ps_raise rfl (takes_of rfl rfl rfl rfl) (pmk_errH GNoPlace (hr.mono (by omega)) (by rfl) (pa_cons (pv 1) pa_nil))))
        pss_nil)
      (pss_one (ps_ret (pe_ix ix_tup (pv 2) (pv 1) (fun _ _ => rfl)))))), ?_⟩
  walk_at "rd"
  refine ⟨v, b, rfl, hd, hv, hz, fun H1 r kk hr1 => ?_⟩
  have hu1 := hu.kp0 kk
  obtain ⟨a, xs, rfl, hT, hL⟩ := hr1.items
  have hlen : xs.length = Sm.sizes b := by rw [hL.len, Sm.ds_map, List.length_map, Sm.als_len]
  walk_at "rd"
  refine ⟨u, d, 0, (xs.length : Int) - 1, rfl, hu1, ?_⟩
  rw [hlen]
  cases hw : isWhole 0 ((Sm.sizes b : Int) - 1) d with
  | false =>
    walk_at "rd"
    refine r_err ?_
    walk_at "rd"
    exact r_ErrQ ((k2 hw).use kk)
  | true =>
    obtain ⟨i, rfl, i0, i1⟩ := whole_view hw
    obtain rfl := hu1.isInt
    obtain ⟨m, rfl⟩ : ∃ m : Nat, i = (m : Int) := ⟨i.toNat, by omega⟩
    have hm : m < xs.length := by omega
    have hx : xs[m]? = some xs[m] := List.getElem?_eq_getElem hm
    obtain ⟨dd, hdd, hxd⟩ := hL.get hx
    rw [Sm.ds_map, List.getElem?_map] at hdd
    obtain ⟨sm, hsm, rfl⟩ := Option.map_eq_some_iff.mp hdd
    have hat : atI xs (m : Int) = some xs[m] := atI_nat hx
    walk_at "rd"
    exact k1 m sm rfl hsm _ _ kk hxd
theorem ok_with_others1 (D : Df K mg "with_others" swith_others Pwith_others) (B : Blt mg) {n lv : Nat} {sp2 sp3 : Sp} (Gsize_of : Has P w K mg base CX0 "size_of" ["statement"] lv sp2) (Gwith_inner : Has P w K mg base CX0 "with_inner" ["statement", "place", "some"] lv sp3)
    (hs : ∀ m, n = m + 1 → sp2 = spSize K m) (hs3 : ∀ m, n = m + 1 → sp3 = spPutS K m) : Has P w K mg base CX0 "with_others" Pwith_others (lv + 1) (spPutB K n) := by
  refine D.has scwith_others (fun vs H Q E h => ?_) (fun f cdv A outer s H vs Q E hr h => ?_)
  · obtain ⟨v, u, b, i, so, rfl, _⟩ := h
    rfl
  obtain ⟨v, u, b, i, so, rfl, hd, hv, hz, hi, hu, hso, k⟩ := h
  refine ⟨_, (pss_cons (ps_set (i := 3) scwith_others.nd rfl (Or.inl rfl) pe_int)
      (pss_cons (ps_for PassesOwn.never rfl (pi_enumT (by rfl) B.enumerate (pa_cons (pv 0) pa_nil)) (pg_tup rfl (pgs_cons (pg_name (i := 4) scwith_others.nd rfl (Or.inl rfl)) (pgs_cons (pg_name (i := 5) scwith_others.nd rfl (Or.inl rfl)) pgs_nil)))
        (pss_cons (ps_if (pt_cmpR op_eq (pv 3) (pv 1) (nomark _)) (pss_one (ps_ret (pe_op op_catA (pe_op op_catA (pe_slice sl_tupA (pv 0) po_none (po_some (pv 4))) (pv 2)) (pe_slice sl_tupA (pv 0) (po_some (pe_op op_add (pv 4) pe_int)) po_none))))
        pss_nil)
      (pss_cons (ps_set (i := 6) scwith_others.nd rfl (Or.inl rfl) (pe_f Gsize_of (hr.mono (by omega)) (by rfl) pass0 (pa_cons (pv 5) pa_nil)))
      (pss_cons (ps_if (pt_cmpR op_lt (pv 1) (pe_op op_add (pv 3) (pv 6)) (nomark _)) (pss_one (ps_ret (pe_op op_catA (pe_op op_catA (pe_slice sl_tupA (pv 0) po_none (po_some (pv 4))) (pe_tup (pa_cons (pe_f Gwith_inner (hr.mono (by omega)) (by rfl) pass0 (pa_cons (pv 5) (pa_cons (pe_op op_sub (pe_op op_sub (pv 1) (pv 3)) pe_int) (pa_cons (pv 2) pa_nil)))) pa_nil))) (pe_slice sl_tupA (pv 0) (po_some (pe_op op_add (pv 4) pe_int)) po_none))))
        pss_nil)
      (pss_one (ps_aug (i := 3) scwith_others.nd rfl (.inl rfl) (pv 6) ip_add))))))
      (pss_one (ps_ret (pv 0))))), ?_⟩
  have hall := hd
  obtain ⟨a, xs, rfl, hT, hL⟩ := hd.items
  have hlen : xs.length = b.length := by rw [hL.len, Sm.ds_map, List.length_map]
  have hbz := Sm.len_sizes b
  walk_at "rd"
  refine r_forET ?_
  walk_at "rd"
  refine r_ForET (xs := xs) hT (fun j σ H' => ∃ (ix sx mx : Option V), σ = [some (.ref a), some (.int (i : Nat)), some u, some (.int (Sm.sizes (b.take j) : Nat)), ix, sx, mx] ∧ Kp [] H H' ∧ Sm.sizes (b.take j) ≤ i)
    ⟨none, none, none, rfl, Kp.nil, Nat.zero_le _⟩ (fun j σ H' ⟨_, _, _, _, z, _⟩ => sqT_kp z hT) ?_ ?_
  · rintro j x σ H1 T hx ⟨ix, sx, mx, rfl, k1, hle⟩ hTn
    obtain ⟨dd, hdd, hxd⟩ := hL.get hx
    rw [Sm.ds_map, List.getElem?_map] at hdd
    obtain ⟨sm, hsm, rfl⟩ := Option.map_eq_some_iff.mp hdd
    have hmem : sm ∈ b := List.mem_of_getElem? hsm
    have hsz := Sm.sizes_mem hmem
    have hjl : j < b.length := (List.getElem?_eq_some_iff.mp hsm).1
    obtain ⟨m, rfl⟩ : ∃ m, n = m + 1 := by
      cases n with
      | zero =>
        rw [show b = [] from hv] at hmem
        cases hmem
      | succ m => exact ⟨m, rfl⟩
    have hsv : Sm.vd m sm := hv sm hmem
    obtain rfl := hs m rfl
    obtain rfl := hs3 m rfl
    have k2 : Kp [] H1 (upd H1 T (.tup [.int (j : Nat), x])) := Kp.nil.new hTn
    have hT2 : SqT K (upd H1 T (.tup [.int (j : Nat), x])) T [.int (j : Nat), x] := SqT.of upd_same
    generalize upd H1 T (.tup [.int (j : Nat), x]) = H2 at k2 hT2 ⊢
    have k12 := k1.trans k2
    have hall2 := hall.kp0 k12
    have hu2 := hu.kp0 k12
    have hx2 := hxd.kp0 k12
    walk_at "rd"
    by_cases he : Sm.sizes (b.take j) = i
    · refine ifd (fun _ => ?_) fun c => absurd (by rw [he]) c
      walk_at "rd"
      refine r_slW hall2 fun H3 w3 k3 hw3 => ?_
      rw [Sm.cut_to b (Nat.le_of_lt hjl)] at hw3
      walk_at "rd"
      refine r_catW hw3 (hu2.kp0 k3) (by rw [Sm.ds_map, List.length_map, List.length_take]; omega) fun H4 w4 k4 hw4 => ?_
      walk_at "rd"
      refine r_slW ((hall2.kp0 k3).kp0 k4) fun H5 w5 k5 hw5 => ?_
      rw [Sm.cut_from b (j := j + 1) (by omega) (by omega)] at hw5
      refine r_catW (hw4.kp0 k5) hw5 (by rw [Sm.ds_map, Sm.ds_map, List.length_append, List.length_map, List.length_map, List.length_take, List.length_drop]; omega) fun H6 w6 k6 hw6 => ?_
      walk_at "rd"
      refine k _ w6 ((((k12.trans k3).trans k4).trans k5).trans k6) ?_
      rw [putB_at so hsm he, ← List.append_assoc]
      exact hw6
    · refine ifd (fun c => absurd (by have := V.int.inj c; omega) he) fun _ => ?_
      walk_at "rd"
      refine ⟨[], x, sm, rfl, hx2, hsv, by omega, fun H3 k3 => ?_⟩
      walk_at "rd"
      by_cases hlt : i < Sm.sizes (b.take j) + sm.size
      · refine ifd (fun _ => ?_) fun c => absurd (by omega) c
        walk_at "rd"
        refine r_slW (hall2.kp0 k3) fun H4 w4 k4 hw4 => ?_
        rw [Sm.cut_to b (Nat.le_of_lt hjl)] at hw4
        walk_at "rd"
        have e3 : ((i : Int) - (Sm.sizes (b.take j) : Int) - 1) = ((i - Sm.sizes (b.take j) - 1 : Nat) : Int) := by omega
        rw [e3]
        refine ⟨x, u, sm, i - Sm.sizes (b.take j) - 1, so, rfl, (hx2.kp0 k3).kp0 k4, hsv, by omega, by omega, (hu2.kp0 k3).kp0 k4, hso, fun H5 r5 k5 hr5 => ?_⟩
        walk_at "rd"
        refine ⟨by walk_at "sz", fun p hp => ?_⟩
        have k6 : Kp [] H5 (upd H5 p (.tup [r5])) := Kp.nil.new hp
        have hp6 : Dw [] K (upd H5 p (.tup [r5])) (.ref p) (.tuple [Sm.putS sm (i - Sm.sizes (b.take j) - 1) so]) := DwL.tp (SqT.of upd_same) (DwL.cons (hr5.kp0 k6) DwL.nil)
        refine r_catW ((hw4.kp0 k5).kp0 k6) hp6 (by rw [Sm.ds_map, List.length_map, List.length_take]; simp; omega) fun H7 w7 k7 hw7 => ?_
        walk_at "rd"
        refine r_slW (((((hall2.kp0 k3).kp0 k4).kp0 k5).kp0 k6).kp0 k7) fun H8 w8 k8 hw8 => ?_
        rw [Sm.cut_from b (j := j + 1) (by omega) (by omega)] at hw8
        refine r_catW (hw7.kp0 k8) hw8 (by rw [Sm.ds_map, Sm.ds_map, List.length_append, List.length_map, List.length_map, List.length_take, List.length_drop]; simp; omega) fun H9 w9 k9 hw9 => ?_
        walk_at "rd"
        refine k _ w9 (((((((k12.trans k3).trans k4).trans k5).trans k6).trans k7).trans k8).trans k9) ?_
        rw [putB_in so hsm (by omega) hlt]
        rw [List.append_assoc] at hw9
        exact hw9
      · refine ifd (fun c => absurd c (by omega)) fun _ => ?_
        walk_at "rd"
        refine ⟨some (.int (j : Nat)), some x, some (.int sm.size), ?_, k12.trans k3, by rw [Sm.sizes_take hsm]; omega⟩
        rw [Sm.sizes_take hsm]
        rfl
  · rintro σ H1 ⟨ix, sx, mx, rfl, k1, hle⟩
    rw [hlen, List.take_length] at hle
    omega
theorem ok_with_inner1 (D : Df K mg "with_inner" swith_inner Pwith_inner) (B : Blt mg) {n lv : Nat} (Gstatements_in : Has P w K mg base CX0 "statements_in" ["block"] lv (spStmts K n)) (Gwith_others : Has P w K mg base CX0 "with_others" ["block", "place", "some"] lv (spPutB K n)) :
    Has P w K mg base CX0 "with_inner" Pwith_inner (lv + 1) (spPutS K n) := by
  refine D.has scwith_inner (fun vs H Q E h => ?_) (fun f cdv A outer s H vs Q E hr h => ?_)
  · obtain ⟨v, u, b, i, so, rfl, _⟩ := h
    rfl
  obtain ⟨v, u, sm, i, so, rfl, hd, hv, hz, hi, hu, hso, k⟩ := h
  refine ⟨_, (pss_cons (ps_if (pt_cmpR op_eq (pe_ix ix_tup (pv 0) pe_int (fun _ _ => rfl)) pe_str (nomark _)) (pss_one (ps_ret (pe_op op_catA (pe_slice sl_tupA (pv 0) po_none (po_some pe_int)) (pe_tup (pa_cons (pe_f Gwith_others (hr.mono (by omega)) (by rfl) pass0 (pa_cons (pe_ix ix_tup (pv 0) pe_int (fun _ _ => rfl)) (pa_cons (pv 1) (pa_cons (pv 2) pa_nil)))) pa_nil)))))
        pss_nil)
      (pss_cons (ps_asg (pv 0) (pg_tup rfl (pgs_cons (pg_name (i := 3) scwith_inner.nd rfl (Or.inl rfl)) (pgs_cons (pg_name (i := 4) scwith_inner.nd rfl (Or.inl rfl)) (pgs_cons (pg_name (i := 5) scwith_inner.nd rfl (Or.inl rfl)) (pgs_cons (pg_name (i := 6) scwith_inner.nd rfl (Or.inl rfl)) pgs_nil))))))
      (pss_cons (ps_set (i := 7) scwith_inner.nd rfl (Or.inl rfl) (pe_f Gstatements_in (hr.mono (by omega)) (by rfl) pass0 (pa_cons (pv 5) pa_nil)))
      (pss_cons (ps_if (pt_cmpR op_lt (pv 1) (pv 7) (nomark _)) (pss_one (ps_ret (pe_tup (pa_cons (pv 3) (pa_cons (pv 4) (pa_cons (pe_f Gwith_others (hr.mono (by omega)) (by rfl) pass0 (pa_cons (pv 5) (pa_cons (pv 1) (pa_cons (pv 2) pa_nil)))) (pa_cons (pv 6) pa_nil)))))))
        pss_nil)
      (pss_one (ps_ret (pe_tup (pa_cons (pv 3) (pa_cons (pv 4) (pa_cons (pv 5) (pa_cons (pe_f Gwith_others (hr.mono (by omega)) (by rfl) pass0 (pa_cons (pv 6) (pa_cons (pe_op op_sub (pv 1) (pv 7)) (pa_cons (pv 2) pa_nil)))) pa_nil))))))))))), ?_⟩
  have hps := hv.parts
  cases sm with
  | pl p =>
    rw [Sm.size] at hi
    omega
  | rep kk y =>
    rw [Sm.d] at hd
    rw [Sm.size] at hi hz
    obtain ⟨a3, ws, rfl, hT3, hL3⟩ := hd.items
    obtain ⟨x0, x1, x2, d0, d1, d2, rfl, e, h0, h1, h2⟩ := hL3.is3 hL3.len
    cases e
    obtain rfl := h0.isStr
    obtain rfl := h1.isInt
    walk_at "rd"
    have hall : Dw [] K H (.ref a3) (.tuple [.str "repeat", .int kk, .tuple (Sm.ds y)]) := DwL.tp hT3 hL3
    refine r_slW hall fun H1 w1 k1 hw1 => ?_
    have e2 : cutD [PyData.str "repeat", .int kk, .tuple (Sm.ds y)] none (some ((2 : Nat) : Int)) = [.str "repeat", .int kk] := cutD_to _ 2 (by simp)
    have hw1 : Dw [] K H1 w1 (.tuple [.str "repeat", .int kk]) := by
      rw [← e2]
      exact hw1
    have hT4 := sqT_kp k1 hT3
    walk_at "rd"
    refine ⟨x2, u, y, i, so, rfl, h2.kp0 k1, hps y (List.mem_cons_self ..), by omega, by omega, hu.kp0 k1, hso, fun H2 r2 k2 hr2 => ?_⟩
    walk_at "rd"
    refine ⟨by walk_at "sz", fun p hp => ?_⟩
    have k3 : Kp [] H2 (upd H2 p (.tup [r2])) := Kp.nil.new hp
    have hp3 : Dw [] K (upd H2 p (.tup [r2])) (.ref p) (.tuple [.tuple (Sm.putB y i so)]) := DwL.tp (SqT.of upd_same) (DwL.cons (hr2.kp0 k3) DwL.nil)
    refine r_catW ((hw1.kp0 k2).kp0 k3) hp3 (by simp) fun H4 w4 k4 hw4 => ?_
    walk_at "rd"
    exact k _ w4 (((k1.trans k2).trans k3).trans k4) hw4
  | ifs t y z =>
    rw [Sm.d] at hd
    rw [Sm.size] at hi hz
    obtain ⟨a3, ws, rfl, hT3, hL3⟩ := hd.items
    obtain ⟨x0, x1, x2, x3, d0, d1, d2, d3, rfl, e, h0, h1, h2, h3⟩ := hL3.is4 hL3.len
    cases e
    obtain rfl := h0.isStr
    walk_at "rd"
    refine ⟨[], x2, y, rfl, h2, hps y (List.mem_cons_self ..), by omega, fun H1 k1 => ?_⟩
    walk_at "rd"
    have h1' := h1.kp0 k1
    have h2' := h2.kp0 k1
    have h3' := h3.kp0 k1
    have hu' := hu.kp0 k1
    rw [Sm.putS] at k
    by_cases hlt : i < Sm.sizes y
    · rw [if_pos hlt] at k
      refine ifd (fun _ => ?_) fun c => absurd (by omega) c
      walk_at "rd"
      refine ⟨x2, u, y, i, so, rfl, h2', hps y (List.mem_cons_self ..), by omega, hlt, hu', hso, fun H2 r2 k2 hr2 => ?_⟩
      walk_at "rd"
      refine ⟨by walk_at "sz", fun p hp => ?_⟩
      have k3 : Kp [] H2 (upd H2 p (.tup [.str "if", x1, r2, x3])) := Kp.nil.new hp
      exact k _ _ ((k1.trans k2).trans k3) (DwL.tp (SqT.of upd_same) (.cons (.str _) (.cons ((h1'.kp0 k2).kp0 k3) (.cons (hr2.kp0 k3) (.cons ((h3'.kp0 k2).kp0 k3) .nil)))))
    · rw [if_neg hlt] at k
      refine ifd (fun c => absurd c (by omega)) fun _ => ?_
      walk_at "rd"
      have e3 : ((i : Int) - (Sm.sizes y : Int)) = ((i - Sm.sizes y : Nat) : Int) := by omega
      rw [e3]
      refine ⟨x3, u, z, i - Sm.sizes y, so, rfl, h3', hps z (List.mem_cons_of_mem _ (List.mem_cons_self ..)), by omega, by omega, hu', hso, fun H2 r2 k2 hr2 => ?_⟩
      walk_at "rd"
      refine ⟨by walk_at "sz", fun p hp => ?_⟩
      have k3 : Kp [] H2 (upd H2 p (.tup [.str "if", x1, x2, r2])) := Kp.nil.new hp
      exact k _ _ ((k1.trans k2).trans k3) (DwL.tp (SqT.of upd_same) (.cons (.str _) (.cons ((h1'.kp0 k2).kp0 k3) (.cons ((h2'.kp0 k2).kp0 k3) (.cons (hr2.kp0 k3) .nil)))))
theorem ok_moved (D : Df K mg "moved" smoved Pmoved) (B : Blt mg) : Has P w K mg base CX0 "moved" Pmoved 1 (spMoved K) := by
  refine D.has scmoved (fun vs H Q E h => ?_) (fun f cdv A outer s H vs Q E hr h => ?_)
  · obtain ⟨a, fx, p, g, c, rfl, _⟩ := h
    rfl
  obtain ⟨a, fx, p, g, c, rfl, hT, hl, k⟩ := h
  refine ⟨_, (pss_cons (ps_setLc (i := 4) (own := [("held", 5)]) (g := gName 5) (by rfl) scmoved.nd rfl rfl (sw_true rfl rfl rfl (by decide +kernel)) (pi_tup (pv 0)) (blkOk_by (own := [("held", 5)]) (N := Nmoved) (sc := defScope smoved) (by decide +kernel)) (fun _ _ _ _ _ => (pg_name (i := 5) scmoved.nd rfl (Or.inl rfl))) (fun _ _ _ _ _ => (pts_one (pt_cmpR op_lt (pv 5) (pv 1) (nomark _)))) (fun _ _ _ _ _ => (pv 5)))
      (pss_one (ps_ret (pe_callTy c_tup (by rfl) B.tuple (by decide +kernel) (pa_cons (pe_op op_cat (pv 4) (pe_lc (own := [("held", 5)]) (g := gName 5) (by rfl) scmoved.nd (pi_tup (pv 0)) (blkOk_by (own := [("held", 5)]) (N := Nmoved) (sc := defScope smoved) (by decide +kernel)) (fun _ _ _ _ _ => (pg_name (i := 5) scmoved.nd rfl (Or.inl rfl))) (fun _ _ _ _ _ => (pts_one (pt_cmpR op_ge (pv 5) (pe_op op_add (pv 1) (pv 2)) (nomark _)))) (fun _ _ _ _ _ => (pe_op op_sub (pe_op op_add (pv 5) (pv 3)) (pv 2))))) pa_nil))))), ?_⟩
  walk_at "rd"
  refine lc_intsF (fun h => decide (h < p)) (fun h => h) hT (by omega) (fun x H' R _ _ hR => ?_) (fun x H' R _ hR => ?_) (fun _ => rfl) fun q H1 hq k1 h1 => ?_
  · walk_at "rd"
    exact hR
  · walk_at "rd"
    exact hR
  have hT1 := sqT_kp k1 hT
  walk_at "rd"
  refine lc_intsF (fun h => decide (p + g ≤ h)) (fun h => h + c - g) hT1 (by omega) (fun x H' R _ _ hR => ?_) (fun x H' R _ hR => ?_) (fun _ => rfl) fun q2 H2 hq2 k2 h2 => ?_
  · walk_at "rd"
    exact hR
  · walk_at "rd"
    exact hR
  have h12 := k2.get h1 (by simp)
  have l1 := List.length_filter_le (fun h => decide (h < p)) fx
  have l2 := List.length_filter_le (fun h => decide (p + g ≤ h)) fx
  have e1 : ((fx.filter fun h => decide (h < p)).map fun h => h) = fx.filter fun h => decide (h < p) := List.map_id' _
  rw [e1] at h12
  refine r_cat h12 h2 (by rw [List.length_map, List.length_map, List.length_map, sizeLine_eq]; omega) fun p3 hp3 => ?_
  rw [← List.map_append]
  have k3 : Kp [] H2 (upd H2 p3 (.lst ((pinsL fx p g c).map V.int))) := Kp.nil.new hp3
  have h3 : upd H2 p3 (.lst ((pinsL fx p g c).map V.int)) p3 = some (.lst ((pinsL fx p g c).map V.int)) := upd_same
  show tNil _ (upd H2 p3 (.lst ((pinsL fx p g c).map V.int))) _
  generalize upd H2 p3 (.lst ((pinsL fx p g c).map V.int)) = H3 at k3 h3 ⊢
  walk_at "rd"
  refine r_tupL (SqL.of h3) fun l hl => ?_
  walk_at "rd"
  exact k _ l (((k1.trans k2).trans k3).trans (Kp.nil.new hl)) (SqT.of upd_same)
theorem ok_added {A : ErA} (D : Df K mg "added" sadded Padded) (B : Blt mg) (Gneed_program : Has P w K mg base (L2.CX P w) "need_program" ["value"] 13 (spNeed K A.B)) : Has P w K mg base (L2.CX P w) "added" Padded 14 (spAdded K A) := by
  refine D.hasX scadded (fun vs H Q E h => ?_) (fun f cdv A0 outer s H vs Q E hr h => ?_)
  · obtain ⟨v, s, a, b, fx, d, rfl, _⟩ := h
    rfl
  obtain ⟨v, s, a, b, fx, d, rfl, hB, hs, hz, k⟩ := h
  refine ⟨_, (pss_one (ps_ret (pe_tup (pa_cons (pe_f Gneed_program (hr.mono (by omega)) (by rfl) (passC (takes_of rfl rfl rfl rfl)) (pa_cons (pe_op op_catA (pv 0) (pe_tup (pa_cons (pv 2) pa_nil))) pa_nil)) (pa_cons (pv 1) pa_nil))))), ?_⟩
  have hl := dszs_len (Sm.ds b)
  have hq := hB.vp.dsz
  walk_at "rd"
  refine ⟨by walk_at "sz", fun p hp => ?_⟩
  have k2 : Kp [] H (upd H p (.tup [s])) := Kp.nil.new hp
  have hp2 : Dw [] K (upd H p (.tup [s])) (.ref p) (.tuple [d]) := DwL.tp (SqT.of upd_same) (DwL.cons (hs.kp0 k2) DwL.nil)
  refine r_catW (hB.dw.kp0 k2) hp2 (by simp; omega) fun H3 w3 k3 hw3 => ?_
  have k13 := k2.trans k3
  have hB3 := hB.kp k13
  walk_at "rd"
  refine ⟨w3, _, rfl, hw3, by rw [dsz, dszs_app, dszs, dszs]; omega, fun he H4 k4 => ?_, fun he H4 e z k4 hn hx hz4 => ?_⟩
  · have e1 : dueE b fx (.add d) = .ok (Sm.ds b ++ [d]) fx := needD_ok he
    rw [e1] at k
    walk_at "rd"
    refine ⟨by walk_at "sz", fun q hq => ?_⟩
    have k5 : Kp [] H4 (upd H4 q (.tup [w3, .ref a])) := Kp.nil.new hq
    exact k _ q a w3 ((k13.trans k4).trans k5) (SqT.of upd_same) ((hw3.kp0 k4).kp0 k5) (sqT_kp k5 (sqT_kp k4 hB3.sq))
  · have e1 : dueE b fx (.add d) = .bad (perr (.tuple (Sm.ds b ++ [d]))) := needD_bad he
    rw [e1] at k
    exact k H4 e z (k13.trans k4) (k13.freeM Ms.nil hn) hx hz4
theorem ok_dropped {A : ErA} (D : Df K mg "dropped" sdropped Pdropped) (B : Blt mg) (Gneed_program : Has P w K mg base (L2.CX P w) "need_program" ["value"] 13 (spNeed K A.B)) (Gplaced_at : Has P w K mg base (L2.CX P w) "placed_at" ["program", "place"] 7 (spPlacedAt K A.N))
    (Gsize_of : Has P w K mg base CX0 "size_of" ["statement"] 12 (spSize K 3)) (Gwith_others : Has P w K mg base CX0 "with_others" ["block", "place", "some"] 13 (spPutB K 4)) (Gmoved : Has P w K mg base CX0 "moved" ["fix", "place", "gone", "come"] 1 (spMoved K)) :
    Has P w K mg base (L2.CX P w) "dropped" Pdropped 14 (spDropped K A) := by
  refine D.hasX scdropped (fun vs H Q E h => ?_) (fun f cdv A0 outer s H vs Q E hr h => ?_)
  · obtain ⟨v, s, a, b, fx, d, rfl, _⟩ := h
    rfl
  obtain ⟨v, u, a, b, fx, p, rfl, hB, hu, k⟩ := h
  refine ⟨_, (pss_cons (ps_set (i := 3) scdropped.nd rfl (Or.inl rfl) (pe_f Gsize_of (hr.mono (by omega)) (by rfl) pass0 (pa_cons (pe_f Gplaced_at (hr.mono (by omega)) (by rfl) (passC (takes_of rfl rfl rfl rfl)) (pa_cons (pv 0) (pa_cons (pv 2) pa_nil))) pa_nil)))
      (pss_one (ps_ret (pe_tup (pa_cons (pe_f Gneed_program (hr.mono (by omega)) (by rfl) (passC (takes_of rfl rfl rfl rfl)) (pa_cons (pe_f Gwith_others (hr.mono (by omega)) (by rfl) pass0 (pa_cons (pv 0) (pa_cons (pv 2) (pa_cons (pe_tup pa_nil) pa_nil)))) pa_nil)) (pa_cons (pe_f Gmoved (hr.mono (by omega)) (by rfl) pass0 (pa_cons (pv 1) (pa_cons (pv 2) (pa_cons (pv 3) (pa_cons pe_int pa_nil))))) pa_nil)))))), ?_⟩
  have hq := hB.vp.dsz
  have hsz := hB.vp.size
  walk_at "rd"
  refine ⟨v, u, b, p, rfl, hB.dw, hB.vp.b4, by omega, hu, fun i st hpi hst H1 r k1 hr1 => ?_, fun hw => ?_⟩
  rotate_left
  · rw [(due_no hw).1] at k
    exact k
  subst hpi
  obtain rfl := hu.isInt
  have hil : i < Sm.sizes b := by
    have := (List.getElem?_eq_some_iff.mp hst).1
    rwa [Sm.als_len] at this
  rw [(due_at hst).1] at k
  have hmem := List.mem_of_getElem? hst
  have hss := als_size b st hmem
  walk_at "rd"
  refine ⟨[], r, st, rfl, hr1, als_vd b 4 hB.vp.b4 (by omega) st hmem, by omega, fun H2 k2 => ?_⟩
  have hB2 := (hB.kp k1).kp k2
  have k12 := k1.trans k2
  walk_at "rd"
  refine ⟨by decide, fun q hq0 => ?_⟩
  have k3 : Kp [] H2 (upd H2 q (.tup [])) := Kp.nil.new hq0
  have hq3 : Dw [] K (upd H2 q (.tup [])) (.ref q) (.tuple []) := DwL.tp (SqT.of upd_same) DwL.nil
  refine ⟨v, .ref q, b, i, [], rfl, (hB2.kp k3).dw, hB.vp.b4, by omega, hil, hq3, by simp, fun H4 w4 k4 hw4 => ?_⟩
  have k14 := (k12.trans k3).trans k4
  have hB4 := (hB2.kp k3).kp k4
  have hpd := putB_dsz b i []
  walk_at "rd"
  refine ⟨w4, _, rfl, hw4, by rw [dsz]; rw [dszs] at hpd; omega, fun he H5 k5 => ?_, fun he H5 e z k5 hn hx hz5 => ?_⟩
  · rw [needD_ok he] at k
    walk_at "rd"
    refine ⟨a, fx, (i : Int), (st.size : Int), 0, rfl, (hB4.kp k5).sq, by have := hB.len; omega, fun H6 r6 k6 hr6 => ?_⟩
    walk_at "rd"
    refine ⟨by walk_at "sz", fun q2 hq2 => ?_⟩
    have k7 : Kp [] H6 (upd H6 q2 (.tup [w4, .ref r6])) := Kp.nil.new hq2
    exact k _ q2 r6 w4 (((k14.trans k5).trans k6).trans k7) (SqT.of upd_same) (((hw4.kp0 k5).kp0 k6).kp0 k7) (sqT_kp k7 hr6)
  · rw [needD_bad he] at k
    exact k H5 e z (k14.trans k5) (k14.freeM Ms.nil hn) hx hz5
theorem ok_changed {A : ErA} (D : Df K mg "changed" schanged Pchanged) (B : Blt mg) (Gneed_program : Has P w K mg base (L2.CX P w) "need_program" ["value"] 13 (spNeed K A.B)) (Gplaced_at : Has P w K mg base (L2.CX P w) "placed_at" ["program", "place"] 7 (spPlacedAt K A.N))
    (Gsize_of : Has P w K mg base CX0 "size_of" ["statement"] 12 (spSize K 3)) (Gwith_others : Has P w K mg base CX0 "with_others" ["block", "place", "some"] 13 (spPutB K 4)) (Gmoved : Has P w K mg base CX0 "moved" ["fix", "place", "gone", "come"] 1 (spMoved K)) :
    Has P w K mg base (L2.CX P w) "changed" Pchanged 14 (spChanged K A) := by
  refine D.hasX scchanged (fun vs H Q E h => ?_) (fun f cdv A0 outer s H vs Q E hr h => ?_)
  · obtain ⟨v, s, u, a, b, fx, p, d, rfl, _⟩ := h
    rfl
  obtain ⟨v, u, sv, a, b, fx, p, d, rfl, hB, hu, hs, hdz, k⟩ := h
  refine ⟨_, (pss_cons (ps_set (i := 4) scchanged.nd rfl (Or.inl rfl) (pe_f Gsize_of (hr.mono (by omega)) (by rfl) pass0 (pa_cons (pe_f Gplaced_at (hr.mono (by omega)) (by rfl) (passC (takes_of rfl rfl rfl rfl)) (pa_cons (pv 0) (pa_cons (pv 2) pa_nil))) pa_nil)))
      (pss_cons (ps_set (i := 5) scchanged.nd rfl (Or.inl rfl) (pe_f Gneed_program (hr.mono (by omega)) (by rfl) (passC (takes_of rfl rfl rfl rfl)) (pa_cons (pe_f Gwith_others (hr.mono (by omega)) (by rfl) pass0 (pa_cons (pv 0) (pa_cons (pv 2) (pa_cons (pe_tup (pa_cons (pv 3) pa_nil)) pa_nil)))) pa_nil)))
      (pss_one (ps_ret (pe_tup (pa_cons (pv 5) (pa_cons (pe_f Gmoved (hr.mono (by omega)) (by rfl) pass0 (pa_cons (pv 1) (pa_cons (pv 2) (pa_cons (pv 4) (pa_cons (pe_f Gsize_of (hr.mono (by omega)) (by rfl) pass0 (pa_cons (pv 3) pa_nil)) pa_nil))))) pa_nil))))))), ?_⟩
  have hq := hB.vp.dsz
  have hsz := hB.vp.size
  walk_at "rd"
  refine ⟨v, u, b, p, rfl, hB.dw, hB.vp.b4, by omega, hu, fun i st hpi hst H1 r k1 hr1 => ?_, fun hw => ?_⟩
  rotate_left
  · rw [(due_no hw).2.1] at k
    exact k
  subst hpi
  obtain rfl := hu.isInt
  have hil : i < Sm.sizes b := by
    have := (List.getElem?_eq_some_iff.mp hst).1
    rwa [Sm.als_len] at this
  rw [(due_at hst).2.1] at k
  have hmem := List.mem_of_getElem? hst
  have hss := als_size b st hmem
  walk_at "rd"
  refine ⟨[], r, st, rfl, hr1, als_vd b 4 hB.vp.b4 (by omega) st hmem, by omega, fun H2 k2 => ?_⟩
  have hB2 := (hB.kp k1).kp k2
  have k12 := k1.trans k2
  walk_at "rd"
  refine ⟨by walk_at "sz", fun q hq0 => ?_⟩
  have k3 : Kp [] H2 (upd H2 q (.tup [sv])) := Kp.nil.new hq0
  have hq3 : Dw [] K (upd H2 q (.tup [sv])) (.ref q) (.tuple [d]) := DwL.tp (SqT.of upd_same) (DwL.cons (((hs.kp0 k1).kp0 k2).kp0 k3) DwL.nil)
  refine ⟨v, .ref q, b, i, [d], rfl, (hB2.kp k3).dw, hB.vp.b4, by omega, hil, hq3, by simp, fun H4 w4 k4 hw4 => ?_⟩
  have k14 := (k12.trans k3).trans k4
  have hB4 := (hB2.kp k3).kp k4
  have hs4 := hs.kp0 k14
  have hpd := putB_dsz b i [d]
  walk_at "rd"
  refine ⟨w4, _, rfl, hw4, by rw [dsz]; rw [dszs, dszs] at hpd; omega, fun he H5 k5 => ?_, fun he H5 e z k5 hn hx hz5 => ?_⟩
  · rw [needD_ok he] at k
    obtain ⟨b2, eb, hv2⟩ := VP.of he
    obtain ⟨t, rfl, htm⟩ := putB_stmt b i d b2 hil eb
    have htz := als_size b2 t htm
    have hvz := hv2.size
    rw [smOf_d] at k
    have hw5 := hw4.kp0 k5
    walk_at "rd"
    refine ⟨[], sv, t, rfl, hs4.kp0 k5, als_vd b2 4 hv2.b4 (by omega) t htm, by omega, fun H6 k6 => ?_⟩
    refine ⟨a, fx, (i : Int), (st.size : Int), (t.size : Int), rfl, ((hB4.kp k5).kp k6).sq, by have := hB.len; omega, fun H7 r7 k7 hr7 => ?_⟩
    walk_at "rd"
    refine ⟨by walk_at "sz", fun q2 hq2 => ?_⟩
    have k8 : Kp [] H7 (upd H7 q2 (.tup [w4, .ref r7])) := Kp.nil.new hq2
    exact k _ q2 r7 w4 ((((k14.trans k5).trans k6).trans k7).trans k8) (SqT.of upd_same) (((hw5.kp0 k6).kp0 k7).kp0 k8) (sqT_kp k8 hr7)
  · rw [needD_bad he] at k
    exact k H5 e z (k14.trans k5) (k14.freeM Ms.nil hn) hx hz5
theorem ok_held_too {A : ErA} {R : Addr} (D : Df K mg "held_too" sheld_too Pheld_too) (B : Blt mg) (g_READERS_benchedits : mg "READERS_benchedits" = some (.ref R)) (hR : ∀ H, SqT K H R (RDS.map V.str)) (Gplaced_at : Has P w K mg base (L2.CX P w) "placed_at" ["program", "place"] 7 (spPlacedAt K A.N))
    (GNoReader : HasH P w K mg base "NoReader" A.R ["self", "place"] 1 (spErr A.R "place")) (GIsHeld : HasH P w K mg base "IsHeld" A.I ["self", "place"] 1 (spErr A.I "place")) :
    Has P w K mg base (L2.CX P w) "held_too" Pheld_too 8 (spHeld K A) := by
  refine D.hasX scheld_too (fun vs H Q E h => ?_) (fun f cdv A0 outer s H vs Q E hr h => ?_)
  · obtain ⟨v, s, a, b, fx, d, rfl, _⟩ := h
    rfl
  obtain ⟨v, u, a, b, fx, p, rfl, hB, hu, k⟩ := h
  refine ⟨_, (pss_cons (ps_if (pt_cmpR op_notIn_seq (pe_ix ix_tup (pe_f Gplaced_at (hr.mono (by omega)) (by rfl) (passC (takes_of rfl rfl rfl rfl)) (pa_cons (pv 0) (pa_cons (pv 2) pa_nil))) pe_int (fun _ _ => rfl)) (pe_gref (by rfl) g_READERS_benchedits) (by rfl)) (pss_one (ps_raise rfl (takes_of rfl rfl rfl rfl) (pmk_errH GNoReader (hr.mono (by omega)) (by rfl) (pa_cons (pv 2) pa_nil))))
        pss_nil)
      (pss_cons (ps_if (pt_cmpR op_in_seq (pv 2) (pv 1) (by rfl)) (pss_one (ps_raise rfl (takes_of rfl rfl rfl rfl) (pmk_errH GIsHeld (hr.mono (by omega)) (by rfl) (pa_cons (pv 2) pa_nil))))
        pss_nil)
      (pss_one (ps_ret (pe_tup (pa_cons (pv 0) (pa_cons (pe_callTy c_tup (by rfl) B.tuple (by decide +kernel) (pa_cons (pe_callB (cr_sortedT (K := K) rfl) (by rfl) B.sorted (by decide +kernel) (pa_cons (pe_op op_catA (pv 1) (pe_tup (pa_cons (pv 2) pa_nil))) pa_nil)) pa_nil)) pa_nil))))))), ?_⟩
  have hsz := hB.vp.size
  walk_at "rd"
  refine ⟨v, u, b, p, rfl, hB.dw, hB.vp.b4, by omega, hu, fun i st hpi hst H1 r k1 hr1 => ?_, fun hw => ?_⟩
  rotate_left
  · rw [(due_no hw).2.2.1] at k
    exact k
  subst hpi
  obtain rfl := hu.isInt
  rw [(due_at hst).2.2.1] at k
  have hmem := List.mem_of_getElem? hst
  have hvd := als_vd b 4 hB.vp.b4 (by omega) st hmem
  obtain ⟨ar, ys, rfl, hT, _⟩ := hr1.head hvd.is.1
  have hat : atI (V.str (headS st.d) :: ys) 0 = some (V.str (headS st.d)) := at_nn (Int.le_refl 0) rfl
  have hB1 := hB.kp k1
  have hl := hB.len
  walk_at "rd"
  refine r_ninB (.inr (hR H1)) rfl (flat_strs _) ?_
  rw [inV_strs]
  cases hrd : RDS.contains (headS st.d) with
  | false =>
    rw [if_neg (by rw [hrd]; decide)] at k
    walk_at "rd"
    refine r_err ?_
    walk_at "rd"
    exact r_ErrQ (Lv.use k k1)
  | true =>
    rw [if_pos hrd] at k
    walk_at "rd"
    refine r_inB (.inr hB1.sq) rfl (flat_ints _) ?_
    rw [inV_ints]
    by_cases hin : (i : Int) ∈ fx
    · rw [if_pos hin] at k
      rw [decide_eq_true hin]
      walk_at "rd"
      refine r_err ?_
      walk_at "rd"
      exact r_ErrQ (Lv.use k k1)
    · rw [if_neg hin] at k
      rw [decide_eq_false hin]
      walk_at "rd"
      refine ⟨by walk_at "sz", fun q hq => ?_⟩
      have k2 : Kp [] H1 (upd H1 q (.tup [.int (i : Nat)])) := Kp.nil.new hq
      have hq2 : Dw [] K (upd H1 q (.tup [.int (i : Nat)])) (.ref q) (.tuple (([(i : Int)]).map PyData.int)) := Dw.ints (fx := [(i : Int)]) (SqT.of upd_same)
      refine r_catW (Dw.ints (sqT_kp k2 hB1.sq)) hq2 (by simp; omega) fun H3 w3 k3 hw3 => ?_
      rw [← List.map_append] at hw3
      obtain ⟨a3, rfl, hT3⟩ := hw3.intsT
      walk_at "rd"
      refine r_sortedT hT3 (by simp; omega) fun ns' q4 hp hsr hq4 => ?_
      have e1 := insS_sorted hB.asc hin hp hsr
      subst e1
      have k4 : Kp [] H3 (upd H3 q4 (.lst ((insS fx i).map V.int))) := Kp.nil.new hq4
      have h4 : upd H3 q4 (.lst ((insS fx i).map V.int)) q4 = some (.lst ((insS fx i).map V.int)) := upd_same
      generalize upd H3 q4 (.lst ((insS fx i).map V.int)) = H4 at k4 h4 ⊢
      walk_at "rd"
      refine r_tupL (SqL.of h4) fun l hl5 => ?_
      have k5 : Kp [] H4 (upd H4 l (.tup ((insS fx i).map V.int))) := Kp.nil.new hl5
      have h5 : SqT K (upd H4 l (.tup ((insS fx i).map V.int))) l ((insS fx i).map V.int) := SqT.of upd_same
      generalize upd H4 l (.tup ((insS fx i).map V.int)) = H5 at k5 h5 ⊢
      have k15 := ((k1.trans k2).trans k3).trans (k4.trans k5)
      walk_at "rd"
      refine ⟨by walk_at "sz", fun q6 hq6 => ?_⟩
      have k6 : Kp [] H5 (upd H5 q6 (.tup [v, .ref l])) := Kp.nil.new hq6
      exact k _ q6 l v (k15.trans k6) (SqT.of upd_same) (hB.dw.kp0 (k15.trans k6)) (sqT_kp k6 h5)
theorem ok_freed {A : ErA} (D : Df K mg "freed" sfreed Pfreed) (B : Blt mg) (Gplaced_at : Has P w K mg base (L2.CX P w) "placed_at" ["program", "place"] 7 (spPlacedAt K A.N))
    (GNotHeld : HasH P w K mg base "NotHeld" A.F ["self", "place"] 1 (spErr A.F "place")) : Has P w K mg base (L2.CX P w) "freed" Pfreed 8 (spFreed K A) := by
  refine D.hasX scfreed (fun vs H Q E h => ?_) (fun f cdv A0 outer s H vs Q E hr h => ?_)
  · obtain ⟨v, s, a, b, fx, d, rfl, _⟩ := h
    rfl
  obtain ⟨v, u, a, b, fx, p, rfl, hB, hu, k⟩ := h
  refine ⟨_, (pss_cons (ps_expr (pe_f Gplaced_at (hr.mono (by omega)) (by rfl) (passC (takes_of rfl rfl rfl rfl)) (pa_cons (pv 0) (pa_cons (pv 2) pa_nil))))
      (pss_cons (ps_if (pt_cmpR op_notIn_seq (pv 2) (pv 1) (by rfl)) (pss_one (ps_raise rfl (takes_of rfl rfl rfl rfl) (pmk_errH GNotHeld (hr.mono (by omega)) (by rfl) (pa_cons (pv 2) pa_nil))))
        pss_nil)
      (pss_one (ps_ret (pe_tup (pa_cons (pv 0) (pa_cons (pe_callTy c_tup (by rfl) B.tuple (by decide +kernel) (pa_cons (pe_lc (own := [("held", 3)]) (g := gName 3) (by rfl) scfreed.nd (pi_tup (pv 1)) (blkOk_by (own := [("held", 3)]) (N := Nfreed) (sc := defScope sfreed) (by decide +kernel)) (fun _ _ _ _ _ => (pg_name (i := 3) scfreed.nd rfl (Or.inl rfl))) (fun _ _ _ _ _ => (pts_one (pt_cmpR op_ne (pv 3) (pv 2) (nomark _)))) (fun _ _ _ _ _ => (pv 3))) pa_nil)) pa_nil))))))), ?_⟩
  have hsz := hB.vp.size
  walk_at "rd"
  refine ⟨v, u, b, p, rfl, hB.dw, hB.vp.b4, by omega, hu, fun i st hpi hst H1 r k1 hr1 => ?_, fun hw => ?_⟩
  rotate_left
  · rw [(due_no hw).2.2.2] at k
    exact k
  subst hpi
  obtain rfl := hu.isInt
  rw [(due_at hst).2.2.2] at k
  have hB1 := hB.kp k1
  have hl := hB.len
  walk_at "rd"
  refine r_ninB (.inr hB1.sq) rfl (flat_ints _) ?_
  rw [inV_ints]
  by_cases hin : (i : Int) ∈ fx
  rotate_left
  · rw [if_neg hin] at k
    rw [decide_eq_false hin]
    walk_at "rd"
    refine r_err ?_
    walk_at "rd"
    exact r_ErrQ (Lv.use k k1)
  rw [if_pos hin] at k
  rw [decide_eq_true hin]
  walk_at "rd"
  refine lc_intsF (fun x => decide (x ≠ (i : Int))) (fun x => x) hB1.sq (by omega) (fun x H' R _ _ hR => ?_) (fun x H' R _ hR => ?_) (fun _ => rfl) fun q H2 hq k2 h2 => ?_
  · walk_at "rd"
    have e0 : (!decide (V.int x = V.int (i : Int))) = decide (x ≠ (i : Int)) := by
      by_cases hx : x = (i : Int)
      · rw [hx]
        simp
      · rw [decide_eq_false (fun z => hx (V.int.inj z)), decide_eq_true hx]
        rfl
    rw [e0]
    exact hR
  · walk_at "rd"
    exact hR
  have e1 : ((fx.filter fun x => decide (x ≠ (i : Int))).map fun x => x) = fx.filter fun x => decide (x ≠ (i : Int)) := List.map_id' _
  rw [e1] at h2
  walk_at "rd"
  refine r_tupL (SqL.of h2) fun l hl5 => ?_
  have k5 : Kp [] H2 (upd H2 l (.tup ((fx.filter fun x => decide (x ≠ (i : Int))).map V.int))) := Kp.nil.new hl5
  have h5 : SqT K (upd H2 l (.tup ((fx.filter fun x => decide (x ≠ (i : Int))).map V.int))) l ((fx.filter fun x => decide (x ≠ (i : Int))).map V.int) := SqT.of upd_same
  generalize upd H2 l (.tup ((fx.filter fun x => decide (x ≠ (i : Int))).map V.int)) = H5 at k5 h5 ⊢
  have k15 := (k1.trans k2).trans k5
  walk_at "rd"
  refine ⟨by walk_at "sz", fun q6 hq6 => ?_⟩
  have k6 : Kp [] H5 (upd H5 q6 (.tup [v, .ref l])) := Kp.nil.new hq6
  exact k _ q6 l v (k15.trans k6) (SqT.of upd_same) (hB.dw.kp0 (k15.trans k6)) (sqT_kp k6 h5)
theorem ok_edited {A : ErA} (D : Df K mg "edited" sedited Pedited) (B : Blt mg) (Gadded : Has P w K mg base (L2.CX P w) "added" ["program", "fix", "statement"] 14 (spAdded K A)) (Gdropped : Has P w K mg base (L2.CX P w) "dropped" ["program", "fix", "place"] 14 (spDropped K A))
    (Gchanged : Has P w K mg base (L2.CX P w) "changed" ["program", "fix", "place", "statement"] 14 (spChanged K A)) (Gheld_too : Has P w K mg base (L2.CX P w) "held_too" ["program", "fix", "place"] 8 (spHeld K A)) (Gfreed : Has P w K mg base (L2.CX P w) "freed" ["program", "fix", "place"] 8 (spFreed K A)) :
    Has P w K mg base (L2.CX P w) "edited" Pedited 15 (spEdited K A) := by
  refine D.hasX scedited (fun vs H Q E h => ?_) (fun f cdv A0 outer s H vs Q E hr h => ?_)
  · obtain ⟨v, u, a, e, b, fx, x, rfl, _⟩ := h
    rfl
  obtain ⟨v, u, a, e, b, fx, x, rfl, hB, hV, k⟩ := h
  refine ⟨_, (pss_cons (ps_asg (pe_slice sl_tupA (pv 2) po_none (po_some pe_int)) (pg_tup rfl (pgs_cons (pg_name (i := 3) scedited.nd rfl (Or.inl rfl)) (pgs_cons (pg_name (i := 4) scedited.nd rfl (Or.inl rfl)) pgs_nil))))
      (pss_cons (ps_if (pt_cmpR op_eq (pv 3) pe_str (nomark _)) (pss_one (ps_ret (pe_f Gadded (hr.mono (by omega)) (by rfl) (passC (takes_of rfl rfl rfl rfl)) (pa_cons (pv 0) (pa_cons (pv 1) (pa_cons (pv 4) pa_nil))))))
        pss_nil)
      (pss_cons (ps_if (pt_cmpR op_eq (pv 3) pe_str (nomark _)) (pss_one (ps_ret (pe_f Gdropped (hr.mono (by omega)) (by rfl) (passC (takes_of rfl rfl rfl rfl)) (pa_cons (pv 0) (pa_cons (pv 1) (pa_cons (pv 4) pa_nil))))))
        pss_nil)
      (pss_cons (ps_if (pt_cmpR op_eq (pv 3) pe_str (nomark _)) (pss_one (ps_ret (pe_f Gchanged (hr.mono (by omega)) (by rfl) (passC (takes_of rfl rfl rfl rfl)) (pa_cons (pv 0) (pa_cons (pv 1) (pa_cons (pv 4) (pa_cons (pe_ix ix_tup (pv 2) pe_int (fun _ _ => rfl)) pa_nil)))))))
        pss_nil)
      (pss_one (ps_ret (pe_ifExp (pt_cmpR op_eq (pv 3) pe_str (nomark _)) (pe_f Gheld_too (hr.mono (by omega)) (by rfl) (passC (takes_of rfl rfl rfl rfl)) (pa_cons (pv 0) (pa_cons (pv 1) (pa_cons (pv 4) pa_nil)))) (pe_f Gfreed (hr.mono (by omega)) (by rfl) (passC (takes_of rfl rfl rfl rfl)) (pa_cons (pv 0) (pa_cons (pv 1) (pa_cons (pv 4) pa_nil))))))))))), ?_⟩
  cases hV with
  | @add s d hT hs hz =>
    walk_at "rd"
    refine r_sl2 hT fun H1 c k1 hc => ?_
    have hB1 := hB.kp k1
    have hk := EdK.kp k k1
    have hT1 := sqT_kp k1 hT
    walk_at "rd"
    exact ⟨v, s, a, b, fx, d, rfl, hB1, hs.kp0 k1, hz, hk⟩
  | @drop _ p hT hu =>
    walk_at "rd"
    refine r_sl2 hT fun H1 c k1 hc => ?_
    have hB1 := hB.kp k1
    have hk := EdK.kp k k1
    have hT1 := sqT_kp k1 hT
    walk_at "rd"
    exact ⟨v, u, a, b, fx, p, rfl, hB1, hu.kp0 k1, hk⟩
  | @change _ s p d hT hu hs hz =>
    walk_at "rd"
    refine r_sl2 hT fun H1 c k1 hc => ?_
    have hB1 := hB.kp k1
    have hk := EdK.kp k k1
    have hT1 := sqT_kp k1 hT
    walk_at "rd"
    exact ⟨v, u, s, a, b, fx, p, d, rfl, hB1, hu.kp0 k1, hs.kp0 k1, hz, hk⟩
  | @hold _ p hT hu =>
    walk_at "rd"
    refine r_sl2 hT fun H1 c k1 hc => ?_
    have hB1 := hB.kp k1
    have hk := EdK.kp k k1
    have hT1 := sqT_kp k1 hT
    walk_at "rd"
    exact ⟨v, u, a, b, fx, p, rfl, hB1, hu.kp0 k1, hk⟩
  | @free _ p hT hu =>
    walk_at "rd"
    refine r_sl2 hT fun H1 c k1 hc => ?_
    have hB1 := hB.kp k1
    have hk := EdK.kp k k1
    have hT1 := sqT_kp k1 hT
    walk_at "rd"
    exact ⟨v, u, a, b, fx, p, rfl, hB1, hu.kp0 k1, hk⟩
theorem ok_BadProgram_init {C CR : Addr} (D : DfM K C "__init__" "BadProgram.__init__" sBadProgram___init__ PBadProgram___init__) (B : Blt mg) (T : OexC K C) (hno : PySem.W.findIn K (.ref C) "error" = some none) (g_R : mg "ReadError" = some (.ref CR)) (rd : PySem.W.readsIn K CR (.type "type") = true)
    (sp : PySem.W.specialIn K (.ref CR) "__getattribute__" = some (some (.builtin "type.__getattribute__"))) (vV : PySem.W.findCls K (.ref CR) (.type "type") "__init__" = some (.val (.builtin "ValueError.__init__"))) :
    HasM P w K mg base CX0 C "__init__" PBadProgram___init__ 1 (spErr C "error") := by
  refine D.has scBadProgram___init__ (fun vs H Q E h => ?_) (fun f cdv A outer s H vs Q E hr h => ?_)
  · obtain ⟨a, v, rfl, _⟩ := h
    rfl
  obtain ⟨a, v, rfl, ha, k⟩ := h
  refine ⟨_, (pss_cons (ps_expr (pe_reinit (by rfl) g_R rd sp vV (pa_cons (pv 0) (pa_cons pe_str pa_nil)))) (pss_one (ps_ost (pv 0) (pv 1)))), ?_⟩
  refine ⟨_, rfl, ?_⟩
  refine ⟨a, C, [.str "BadProgram"], rfl, by simp, T, ha, ?_⟩
  refine ⟨_, rfl, _, rfl, a, C, rfl, T, hno, .inl ⟨ha, fun dx hdx hne => ?_⟩⟩
  exact k dx hdx hne
theorem ok_NoReader_init {C CR : Addr} (D : DfM K C "__init__" "NoReader.__init__" sNoReader___init__ PNoReader___init__) (B : Blt mg) (T : OexC K C) (hno : PySem.W.findIn K (.ref C) "place" = some none) (g_R : mg "ReadError" = some (.ref CR)) (rd : PySem.W.readsIn K CR (.type "type") = true)
    (sp : PySem.W.specialIn K (.ref CR) "__getattribute__" = some (some (.builtin "type.__getattribute__"))) (vV : PySem.W.findCls K (.ref CR) (.type "type") "__init__" = some (.val (.builtin "ValueError.__init__"))) :
    HasM P w K mg base CX0 C "__init__" PNoReader___init__ 1 (spErr C "place") := by
  refine D.has scNoReader___init__ (fun vs H Q E h => ?_) (fun f cdv A outer s H vs Q E hr h => ?_)
  · obtain ⟨a, v, rfl, _⟩ := h
    rfl
  obtain ⟨a, v, rfl, ha, k⟩ := h
  refine ⟨_, (pss_cons (ps_expr (pe_reinit (by rfl) g_R rd sp vV (pa_cons (pv 0) (pa_cons pe_str pa_nil)))) (pss_one (ps_ost (pv 0) (pv 1)))), ?_⟩
  refine ⟨_, rfl, ?_⟩
  refine ⟨a, C, [.str "NoReader"], rfl, by simp, T, ha, ?_⟩
  refine ⟨_, rfl, _, rfl, a, C, rfl, T, hno, .inl ⟨ha, fun dx hdx hne => ?_⟩⟩
  exact k dx hdx hne
theorem ok_IsHeld_init {C CR : Addr} (D : DfM K C "__init__" "IsHeld.__init__" sIsHeld___init__ PIsHeld___init__) (B : Blt mg) (T : OexC K C) (hno : PySem.W.findIn K (.ref C) "place" = some none) (g_R : mg "ReadError" = some (.ref CR)) (rd : PySem.W.readsIn K CR (.type "type") = true)
    (sp : PySem.W.specialIn K (.ref CR) "__getattribute__" = some (some (.builtin "type.__getattribute__"))) (vV : PySem.W.findCls K (.ref CR) (.type "type") "__init__" = some (.val (.builtin "ValueError.__init__"))) :
    HasM P w K mg base CX0 C "__init__" PIsHeld___init__ 1 (spErr C "place") := by
  refine D.has scIsHeld___init__ (fun vs H Q E h => ?_) (fun f cdv A outer s H vs Q E hr h => ?_)
  · obtain ⟨a, v, rfl, _⟩ := h
    rfl
  obtain ⟨a, v, rfl, ha, k⟩ := h
  refine ⟨_, (pss_cons (ps_expr (pe_reinit (by rfl) g_R rd sp vV (pa_cons (pv 0) (pa_cons pe_str pa_nil)))) (pss_one (ps_ost (pv 0) (pv 1)))), ?_⟩
  refine ⟨_, rfl, ?_⟩
  refine ⟨a, C, [.str "IsHeld"], rfl, by simp, T, ha, ?_⟩
  refine ⟨_, rfl, _, rfl, a, C, rfl, T, hno, .inl ⟨ha, fun dx hdx hne => ?_⟩⟩
  exact k dx hdx hne
theorem ok_NotHeld_init {C CR : Addr} (D : DfM K C "__init__" "NotHeld.__init__" sNotHeld___init__ PNotHeld___init__) (B : Blt mg) (T : OexC K C) (hno : PySem.W.findIn K (.ref C) "place" = some none) (g_R : mg "ReadError" = some (.ref CR)) (rd : PySem.W.readsIn K CR (.type "type") = true)
    (sp : PySem.W.specialIn K (.ref CR) "__getattribute__" = some (some (.builtin "type.__getattribute__"))) (vV : PySem.W.findCls K (.ref CR) (.type "type") "__init__" = some (.val (.builtin "ValueError.__init__"))) :
    HasM P w K mg base CX0 C "__init__" PNotHeld___init__ 1 (spErr C "place") := by
  refine D.has scNotHeld___init__ (fun vs H Q E h => ?_) (fun f cdv A outer s H vs Q E hr h => ?_)
  · obtain ⟨a, v, rfl, _⟩ := h
    rfl
  obtain ⟨a, v, rfl, ha, k⟩ := h
  refine ⟨_, (pss_cons (ps_expr (pe_reinit (by rfl) g_R rd sp vV (pa_cons (pv 0) (pa_cons pe_str pa_nil)))) (pss_one (ps_ost (pv 0) (pv 1)))), ?_⟩
  refine ⟨_, rfl, ?_⟩
  refine ⟨a, C, [.str "NotHeld"], rfl, by simp, T, ha, ?_⟩
  refine ⟨_, rfl, _, rfl, a, C, rfl, T, hno, .inl ⟨ha, fun dx hdx hne => ?_⟩⟩
  exact k dx hdx hne
theorem ok_statement_at (D : Df K mg "statement_at" sstatement_at Pstatement_at) (B : Blt mg) (Grows_of_programs : Has P w K mg base CX0 "rows_of_programs" ["program"] 3 (spRows K)) (Gis_whole : Has P w K mg base CX0 "is_whole" ["value", "least", "most"] 1 (spWhole K)) :
    Has P w K mg base CX0 "statement_at" Pstatement_at 4 (spStAt K) := by
  refine D.has scstatement_at (fun vs H Q E h => ?_) (fun f cdv A outer s H vs Q E hr h => ?_)
  · obtain ⟨v, b, i, rfl, _⟩ := h
    rfl
  obtain ⟨v, b, i, rfl, hd, hv, hz, hi, k⟩ := h
  refine ⟨_, (pss_cons (ps_set (i := 2) scstatement_at.nd rfl (Or.inl rfl) (pe_f Grows_of_programs (hr.mono (by omega)) (by rfl) pass0 (pa_cons (pv 0) pa_nil)))
      (pss_cons (ps_if (pt_not (pt_val (pe_f Gis_whole (hr.mono (by omega)) (by rfl) pass0 (pa_cons (pv 1) (pa_cons pe_int (pa_cons (pe_op op_sub (pe_callB c_len (by rfl) B.len (by decide +kernel) (pa_cons (pv 2) pa_nil)) pe_int) pa_nil)))))) (pss_one ps_void)
        pss_nil)
      (pss_one (ps_ret (pe_ix ix_tup (pe_ix ix_list (pv 2) (pv 1) (fun _ _ => rfl)) pe_int (fun _ _ => rfl)))))), ?_⟩
  walk_at "rd"
  refine ⟨[], v, b, rfl, hd, fun s hs => ⟨3, hv s hs⟩, ?_, fun H1 r us _ k1 hr1 hS => ?_⟩
  · have q := (Sm.vd.doks 4 b hv).sz
    omega
  · have hl : us.length = Sm.sizes b := by rw [hS.len, Sm.rowsL_len]
    walk_at "rd"
    refine ⟨.int (i : Nat), .int (i : Nat), 0, _, rfl, .int _, ?_⟩
    rw [hl, whole_nat hi]
    obtain ⟨u, hu⟩ : ∃ u, us[i]? = some u := ⟨_, List.getElem?_eq_getElem (by rw [hl]; exact hi)⟩
    have hst := stAt_d hi
    obtain ⟨p, hp, hp2⟩ : ∃ p, (Sm.rowsL 0 b)[i]? = some p ∧ p.2 = (stAt b i).d := by
      have q : ((Sm.rowsL 0 b).map (·.2))[i]? = some (stAt b i).d := by rw [Sm.rowsL_als, Sm.ds_map, List.getElem?_map, hst]; rfl
      rw [List.getElem?_map] at q
      obtain ⟨p, h1, h2⟩ := Option.map_eq_some_iff.mp q
      exact ⟨p, h1, h2⟩
    obtain ⟨a, y, rfl, ha, hy⟩ := hS.all i u p hu hp
    rw [hp2] at hy
    have hat : atI us ((i : Nat) : Int) = some (.ref a) := atI_nat hu
    have hat1 : atI [V.int p.1, y] 1 = some y := at_nn (by decide) rfl
    walk_at "rd"
    exact k H1 y k1 hy
theorem ok_NoPlace_init {C : Addr} (D : DfM K C "__init__" "NoPlace.__init__" sNoPlace___init__ PNoPlace___init__) (B : Blt mg) (hLE : mg "LookupError" = none) (T : GexC K "LookupError.__new__" leT C) (hno : PySem.W.findIn K (.ref C) "place" = some none)
    (vV : PySem.W.findCls K (.type "LookupError") (.type "type") "__init__" = some (.val (.builtin "LookupError.__init__"))) :
    HasM P w K mg base CX0 C "__init__" PNoPlace___init__ 1 (spErr C "place") := by
  refine D.has scNoPlace___init__ (fun vs H Q E h => ?_) (fun f cdv A outer s H vs Q E hr h => ?_)
  · obtain ⟨a, v, rfl, _⟩ := h
    rfl
  obtain ⟨a, v, rfl, ha, k⟩ := h
  refine ⟨_, (pss_cons (ps_expr (pe_leinit (by rfl) hLE vV (pa_cons (pv 0) (pa_cons pe_str pa_nil)))) (pss_one (ps_gst leF (pv 0) (pv 1)))), ?_⟩
  refine ⟨_, rfl, ?_⟩
  refine ⟨a, C, [.str "NoPlace"], rfl, by simp, T, ha, ?_⟩
  refine ⟨_, rfl, _, rfl, a, C, rfl, T, hno, ha, fun dx hdx hne => ?_⟩
  exact k dx hdx hne
theorem ok_Bench_stand {C : Addr} (D : DfM K C "stand" "Bench.stand" sBench_stand PBench_stand) (B : Blt mg) (T : BnT K C) : HasM P w K mg base CX0 C "stand" PBench_stand 1 (spStand K C) := by
  refine D.has scBench_stand (fun vs H Q E h => ?_) (fun f cdv A outer s H vs Q E hr h => ?_)
  · obtain ⟨a, dx, f, g, l, u, l2, p, f2, v, w, xs, rfl, _⟩ := h
    rfl
  obtain ⟨a, dx, f1, g, l, u, l2, p, f2, v, w1, xs, rfl, hI, hL, hE, hP, hx, k⟩ := h
  refine ⟨_, (pss_cons (ps_fld (pv 0) (pv 1) rfl)
      (pss_cons (ps_asg (pe_ifExp (pt_cmpR (op_neNil hr.h64) (pv 1) (pe_lst pa_nil) (nomark _)) (pe_ix ix_tup (pe_ix ix_list (pv 1) (pe_un un_neg pe_int) (fun _ _ => rfl)) pe_int (fun _ _ => rfl)) (pe_fld (pv 0) rfl)) (pg_tup rfl (pgs_cons (pg_fld (pv 0)) (pgs_cons (pg_fld (pv 0)) pgs_nil))))
      (pss_one (ps_ret (pe_callB c_len (by rfl) B.len (by decide +kernel) (pa_cons (pv 1) pa_nil)))))), ?_⟩
  walk_at "rd"
  have cC := T.cl
  have hal : l2 ∉ [a] := fun m => by
    rw [List.mem_singleton.mp m, hI] at hL
    cases hL
  refine r_SFld hI cC T.nS (by show 6 < 1000; decide) ?_
  rw [bn_putS]
  show tSeq _ _ _ _ (upd H a (.ins C dx (bnF v f1 g l2 u)))
  have k1 : Kp [a] H (upd H a (.ins C dx (bnF v f1 g l2 u))) := kpW2 hI trivial
  have hI1 : upd H a (.ins C dx (bnF v f1 g l2 u)) a = some (.ins C dx (bnF v f1 g l2 u)) := upd_same
  have hL1 := k1.get hL hal
  have hP1 := sqT_kp k1 hP
  generalize upd H a (.ins C dx (bnF v f1 g l2 u)) = H1 at k1 hI1 hL1 hP1 ⊢
  walk_at "rd"
  refine ⟨by decide, fun q hq => ?_⟩
  have k2 : Kp [] H1 (upd H1 q (.lst [])) := Kp.nil.new hq
  have hI2 := k2.get hI1 (by simp)
  have hL2 := k2.get hL1 (by simp)
  have hP2 := sqT_kp k2 hP1
  have hq2 : upd H1 q (.lst []) q = some (.lst []) := upd_same
  have k12 : Kp [a] H (upd H1 q (.lst [])) := k1.new hq
  generalize upd H1 q (.lst []) = H2 at k2 hI2 hL2 hP2 hq2 k12 ⊢
  refine r_neNL (SqL.of hL2) (SqL.of hq2) ?_
  rcases hE with ⟨rfl, hpg⟩ | ⟨ys, e, ed, rfl, hE⟩
  · have hpg' := hpg.symm
    subst hpg'
    have e0 : (!([] : List V).isEmpty) = false := rfl
    rw [e0]
    walk_at "rd"
    refine r_Fld hI2 cC T.nB bn_getB ?_
    walk_at "rd"
    refine r_gfld ?_
    walk_at "rd"
    refine r_GFld hI2 cC T.nP (by show 6 < 1000; decide) ?_
    rw [bn_putP]
    have k3 : Kp [a] H2 (upd H2 a (.ins C dx (bnF w1 f1 g l2 u))) := kpW2 hI2 trivial
    have hI3 : upd H2 a (.ins C dx (bnF w1 f1 g l2 u)) a = some (.ins C dx (bnF w1 f1 g l2 u)) := upd_same
    have hL3 := k3.get hL2 hal
    generalize upd H2 a (.ins C dx (bnF w1 f1 g l2 u)) = H3 at k3 hI3 hL3 ⊢
    walk_at "rd"
    refine r_gfld ?_
    walk_at "rd"
    refine r_GFld hI3 cC T.nF (by show 6 < 1000; decide) ?_
    rw [bn_putF]
    have k4 : Kp [a] H3 (upd H3 a (.ins C dx (bnF w1 f2 g l2 u))) := kpW2 hI3 trivial
    have hI4 : upd H3 a (.ins C dx (bnF w1 f2 g l2 u)) a = some (.ins C dx (bnF w1 f2 g l2 u)) := upd_same
    have hL4 := k4.get hL3 hal
    generalize upd H3 a (.ins C dx (bnF w1 f2 g l2 u)) = H4 at k4 hI4 hL4 ⊢
    walk_at "rd"
    exact k H4 ((k12.trans k3).trans k4) hI4
  · have hE2 := sqT_kp k2 (sqT_kp k1 hE)
    have hne : (!(ys ++ [V.ref e]).isEmpty) = true := by cases ys <;> rfl
    rw [hne]
    have hat := at_lastV ys (.ref e)
    walk_at "rd"
    refine r_gfld ?_
    walk_at "rd"
    refine r_GFld hI2 cC T.nP (by show 6 < 1000; decide) ?_
    rw [bn_putP]
    have k3 : Kp [a] H2 (upd H2 a (.ins C dx (bnF w1 f1 g l2 u))) := kpW2 hI2 trivial
    have hI3 : upd H2 a (.ins C dx (bnF w1 f1 g l2 u)) a = some (.ins C dx (bnF w1 f1 g l2 u)) := upd_same
    have hL3 := k3.get hL2 hal
    generalize upd H2 a (.ins C dx (bnF w1 f1 g l2 u)) = H3 at k3 hI3 hL3 ⊢
    walk_at "rd"
    refine r_gfld ?_
    walk_at "rd"
    refine r_GFld hI3 cC T.nF (by show 6 < 1000; decide) ?_
    rw [bn_putF]
    have k4 : Kp [a] H3 (upd H3 a (.ins C dx (bnF w1 f2 g l2 u))) := kpW2 hI3 trivial
    have hI4 : upd H3 a (.ins C dx (bnF w1 f2 g l2 u)) a = some (.ins C dx (bnF w1 f2 g l2 u)) := upd_same
    have hL4 := k4.get hL3 hal
    generalize upd H3 a (.ins C dx (bnF w1 f2 g l2 u)) = H4 at k4 hI4 hL4 ⊢
    walk_at "rd"
    exact k H4 ((k12.trans k3).trans k4) hI4
theorem ok_Bench_idle {C : Addr} (D : DfM K C "idle" "Bench.idle" sBench_idle PBench_idle) (B : Blt mg) (T : BnT K C) : HasM P w K mg base CX0 C "idle" PBench_idle 1 (spIdle K C) := by
  refine D.has scBench_idle (fun vs H Q E h => ?_) (fun f cdv A outer s H vs Q E hr h => ?_)
  · obtain ⟨a, dx, f, g, l, u, v, rfl, _⟩ := h
    rfl
  obtain ⟨a, dx, f1, g, l, u, v, rfl, hI, k⟩ := h
  have cC := T.cl
  refine ⟨_, (pss_one (ps_if (pt_truth (pe_fld (pv 0) rfl) (by intro _; rfl)) (pss_one ps_void)
        pss_nil)), ?_⟩
  walk_at "rd"
  refine r_Fld hI cC T.nW bn_getW ⟨false, ?_, ?_⟩
  · show false = false
    rfl
  · walk_at "rd"
    exact k
theorem ok_Bench_ready {C : Addr} (D : DfM K C "ready" "Bench.ready" sBench_ready PBench_ready) (B : Blt mg) (T : BnT K C) {t1 : Tok} (g_MAX_EDITS : mg "MAX_EDITS" = some (.int 60 t1)) (GB_idle : HasM P w K mg base CX0 C "idle" ["self"] 1 (spIdle K C)) :
    HasM P w K mg base CX0 C "ready" PBench_ready 2 (spReady K C) := by
  refine D.has scBench_ready (fun vs H Q E h => ?_) (fun f cdv A outer s H vs Q E hr h => ?_)
  · obtain ⟨a, dx, f, g, l, u, v, xs, rfl, _⟩ := h
    rfl
  obtain ⟨a, dx, f1, g, l, u, v, xs, rfl, hI, hL, hx, k⟩ := h
  have cC := T.cl
  refine ⟨_, (pss_cons (ps_expr (pe_m0 GB_idle cC (hr.mono (by omega)) pass0 (pv 0)))
      (pss_one (ps_if (pt_cmpR op_ge (pe_callB c_len (by rfl) B.len (by decide +kernel) (pa_cons (pe_fld (pv 0) rfl) pa_nil)) (pe_gint (by rfl) g_MAX_EDITS) (nomark _)) (pss_one ps_void)
        pss_nil))), ?_⟩
  walk_at "rd"
  refine ⟨a, dx, f1, g, l, u, v, rfl, hI, ?_⟩
  walk_at "rd"
  refine r_Fld hI cC T.nS bn_getS ?_
  walk_at "rd"
  refine ifd (fun c => absurd c (by omega)) fun _ => ?_
  walk_at "rd"
  exact k
theorem ok_Bench_judge {C : Addr} (D : DfM K C "judge" "Bench.judge" sBench_judge PBench_judge) (B : Blt mg) : HasM P w K mg base CX0 C "judge" PBench_judge 1 spJudge := by
  refine D.has scBench_judge (fun vs H Q E h => ?_) (fun f cdv A outer s H vs Q E hr h => ?_)
  · obtain ⟨x, y, rfl, _⟩ := h
    rfl
  obtain ⟨x, y, rfl, k⟩ := h
  refine ⟨_, (pss_one (ps_ret pe_non)), ?_⟩
  walk_at "rd"
  exact k
theorem ok_Bench_settle {C : Addr} (D : DfM K C "settle" "Bench.settle" sBench_settle PBench_settle) (B : Blt mg) (T : BnT K C) (GB_judge : HasM P w K mg base CX0 C "judge" ["self", "pair"] 1 spJudge) (GB_stand : HasM P w K mg base CX0 C "stand" ["self", "standing"] 1 (spStand K C)) :
    HasM P w K mg base CX0 C "settle" PBench_settle 2 (spSettle K C) := by
  refine D.has scBench_settle (fun vs H Q E h => ?_) (fun f cdv A outer s H vs Q E hr h => ?_)
  · obtain ⟨a, dx, f, g, l, u, p, f2, v, ed, w, xs, rfl, _⟩ := h
    rfl
  obtain ⟨a, dx, f1, g, l, u, p, f2, v, ed, w1, xs, rfl, hI, hL, hP, hx, k⟩ := h
  have cC := T.cl
  refine ⟨_, (pss_cons (ps_expr (pe_m GB_judge cC (hr.mono (by omega)) pass0 (pv 0) (pa_cons (pv 2) pa_nil)))
      (pss_cons (ps_fld (pv 0) (pe_lst pa_nil) rfl)
      (pss_one (ps_ret (pe_m GB_stand cC (hr.mono (by omega)) pass0 (pv 0) (pa_cons (pe_op op_cat (pe_fld (pv 0) rfl) (pe_lst (pa_cons (pe_tup (pa_cons (pv 1) (pa_cons (pv 2) pa_nil))) pa_nil))) pa_nil)))))), ?_⟩
  walk_at "rd"
  refine ⟨_, _, rfl, ?_⟩
  walk_at "rd"
  refine ⟨by decide, fun q hq => ?_⟩
  have k1 : Kp [] H (upd H q (.lst [])) := Kp.nil.new hq
  have hI1 := k1.get hI (by simp)
  have hL1 := k1.get hL (by simp)
  have hP1 := sqT_kp k1 hP
  have hU1 : upd H q (.lst []) q = some (.lst []) := upd_same
  have haq : q ∉ [a] := fun m => by
    rw [List.mem_singleton.mp m, hI] at hq
    cases hq
  have k1a : Kp [a] H (upd H q (.lst [])) := (Kp.reflM (Ms.cons hI trivial Ms.nil)).new hq
  generalize upd H q (.lst []) = H1 at k1 hI1 hL1 hP1 hU1 k1a ⊢
  walk_at "rd"
  refine r_SFld hI1 cC T.nU (by show 6 < 1000; decide) ?_
  rw [bn_putU]
  have hal : l ∉ [a] := fun m => by
    rw [List.mem_singleton.mp m, hI] at hL
    cases hL
  have k2 : Kp [a] H1 (upd H1 a (.ins C dx (bnF v f1 g l q))) := kpW2 hI1 trivial
  have hI2 : upd H1 a (.ins C dx (bnF v f1 g l q)) a = some (.ins C dx (bnF v f1 g l q)) := upd_same
  have hL2 := k2.get hL1 hal
  have hP2 := sqT_kp k2 hP1
  have hU2 := k2.get hU1 haq
  dsimp only
  generalize upd H1 a (.ins C dx (bnF v f1 g l q)) = H2 at k2 hI2 hL2 hP2 hU2 ⊢
  walk_at "rd"
  refine r_Fld hI2 cC T.nS bn_getS ?_
  walk_at "rd"
  refine ⟨by walk_at "sz", fun e he => ?_⟩
  have k3 : Kp [] H2 (upd H2 e (.tup [ed, .ref p])) := Kp.nil.new he
  have hI3 := k3.get hI2 (by simp)
  have hL3 := k3.get hL2 (by simp)
  have hP3 := sqT_kp k3 hP2
  have hU3 := k3.get hU2 (by simp)
  have hE3 : SqT K (upd H2 e (.tup [ed, .ref p])) e [ed, .ref p] := SqT.of upd_same
  generalize upd H2 e (.tup [ed, .ref p]) = H3 at k3 hI3 hL3 hP3 hE3 hU3 ⊢
  walk_at "rd"
  refine ⟨by walk_at "sz", fun l1 hl1 => ?_⟩
  have k4 : Kp [] H3 (upd H3 l1 (.lst [.ref e])) := Kp.nil.new hl1
  have hI4 := k4.get hI3 (by simp)
  have hL4 := k4.get hL3 (by simp)
  have hP4 := sqT_kp k4 hP3
  have hE4 := sqT_kp k4 hE3
  have hU4 := k4.get hU3 (by simp)
  have hM4 : upd H3 l1 (.lst [.ref e]) l1 = some (.lst [.ref e]) := upd_same
  generalize upd H3 l1 (.lst [.ref e]) = H4 at k4 hI4 hL4 hP4 hE4 hM4 hU4 ⊢
  refine r_cat hL4 hM4 (by rw [sizeLine_eq]; simp; omega) fun l2 hl2 => ?_
  have k5 : Kp [] H4 (upd H4 l2 (.lst (xs ++ [.ref e]))) := Kp.nil.new hl2
  have hI5 := k5.get hI4 (by simp)
  have hP5 := sqT_kp k5 hP4
  have hE5 := sqT_kp k5 hE4
  have hU5 := k5.get hU4 (by simp)
  have hM5 : upd H4 l2 (.lst (xs ++ [.ref e])) l2 = some (.lst (xs ++ [.ref e])) := upd_same
  have hal2 : l2 ∉ [a] := fun m => by
    rw [List.mem_singleton.mp m] at hl2
    rw [hI4] at hl2
    cases hl2
  generalize upd H4 l2 (.lst (xs ++ [.ref e])) = H5 at k5 hI5 hP5 hE5 hM5 hU5 ⊢
  walk_at "rd"
  refine ⟨a, dx, f1, g, l, q, l2, p, f2, v, w1, xs ++ [.ref e], rfl, hI5, hM5, .inr ⟨xs, e, ed, rfl, hE5⟩, hP5, by simp; omega, fun H6 k6 hI6 => ?_⟩
  have e6 : (xs ++ [V.ref e]).length = xs.length + 1 := by simp
  rw [e6]
  have hl2H : H l2 = none := ((k1a.trans k2).trans ((k3.trans k4).subM (Ms.cons hI2 trivial Ms.nil) (by simp))).freeM (Ms.cons hI4 trivial Ms.nil) hl2
  refine k H6 l2 q e hl2H ((k1a.trans k2).trans (((((k3.trans k4).trans k5).subM (Ms.cons hI2 trivial Ms.nil) (by simp))).trans k6)) hI6 (k6.get hM5 hal2) (sqT_kp k6 hE5) (k6.get hU5 haq) hq
theorem ok_Bench_do {C : Addr} {A : ErA} (D : DfM K C "do" "Bench.do" sBench_do PBench_do) (B : Blt mg) (T : BnT K C) (GB_ready : HasM P w K mg base CX0 C "ready" ["self"] 2 (spReady K C)) (GB_settle : HasM P w K mg base CX0 C "settle" ["self", "edit", "pair"] 2 (spSettle K C))
    (Gedited : Has P w K mg base (L2.CX P w) "edited" ["program", "fix", "edit"] 15 (spEdited K A)) : HasM P w K mg base (L2.CX P w) C "do" PBench_do 16 (spDo K A C) := by
  refine D.hasX scBench_do (fun vs H Q E h => ?_) (fun f cdv A0 outer s H vs Q E hr h => ?_)
  · obtain ⟨a, dx, f, g, l, un, e, v, u, xs, b, fx, x, rfl, _⟩ := h
    rfl
  obtain ⟨a, dx, f1, g, l, un, e, v, u, xs, b, fx, x, rfl, hB, hx, hV, k⟩ := h
  have cC := T.cl
  have hI := hB.ins
  refine ⟨_, (pss_cons (ps_expr (pe_m0 GB_ready cC (hr.mono (by omega)) pass0 (pv 0)))
      (pss_one (ps_ret (pe_m GB_settle cC (hr.mono (by omega)) pass0 (pv 0) (pa_cons (pv 1) (pa_cons (pe_f Gedited (hr.mono (by omega)) (by rfl) (passC (takes_of rfl rfl rfl rfl)) (pa_cons (pe_fld (pv 0) rfl) (pa_cons (pe_fld (pv 0) rfl) (pa_cons (pv 1) pa_nil)))) pa_nil)))))), ?_⟩
  walk_at "rd"
  refine ⟨a, dx, f1, g, l, un, v, xs, rfl, hI, hB.lst, hx, ?_⟩
  walk_at "rd"
  refine r_Fld hI cC T.nP bn_getP ?_
  walk_at "rd"
  refine r_Fld hI cC T.nF bn_getF ?_
  walk_at "rd"
  refine ⟨v, u, f1, e, b, fx, x, rfl, hB.st, hV, ?_⟩
  cases hr2 : dueE b fx x with
  | ok ds fx2 =>
    rw [hr2] at k
    intro H1 p a2 w1 k1 hp hw ha
    have hB1 := hB.kp k1
    walk_at "rd"
    refine ⟨a, dx, f1, g, l, un, p, a2, v, .ref e, w1, xs, rfl, hB1.ins, hB1.lst, hp, by omega, fun H2 l2 u2 e2 hn2 k2 hI2 hL2 hE2 hU2 hnu => ?_⟩
    obtain ⟨c, rfl, hS⟩ := hB.st.due hr2 hw ha
    have hS2 := hS.kpM k2
    have hev := (hV.dw).dt (due_tpl hr2)
    exact k H2 w1 (.ref e) a2 l2 u2 e2 p (k1.freeM Ms.nil hn2) (k1.freeM Ms.nil hnu) ((k1.subM (Ms.cons hI trivial Ms.nil) (by simp)).trans k2) hI2 hL2 hU2 hE2 (sqT_kp k2 hp) ((hev.kp k1).kp k2).dw hS2.dw hS2.sq
  | _ =>
    rw [hr2] at k
    exact k
theorem ok_Bench_add {C : Addr} {A : ErA} (D : DfM K C "add" "Bench.add" sBench_add PBench_add) (B : Blt mg) (T : BnT K C) (GB_do : HasM P w K mg base (L2.CX P w) C "do" ["self", "edit"] 16 (spDo K A C)) : HasM P w K mg base (L2.CX P w) C "add" PBench_add 17 (spEdM K A C "add") := by
  refine D.hasX scBench_add (fun vs H Q E h => ?_) (fun f cdv A0 outer s H vs Q E hr h => ?_)
  · obtain ⟨a, dx, f, g, l, un, v, u, us, xs, b, fx, x, rfl, _, _, hV, _⟩ := h
    cases hV with
    | add => rfl
  obtain ⟨a, dx, f1, g, l, un, v, u, us, xs, b, fx, x, rfl, hB, hx, hV, k⟩ := h
  have cC := T.cl
  refine ⟨_, (pss_one (ps_ret (pe_m GB_do cC (hr.mono (by omega)) (passC (takes_of rfl rfl rfl rfl)) (pv 0) (pa_cons (pe_tup (pa_cons pe_str (pa_cons (pv 1) pa_nil))) pa_nil)))), ?_⟩
  have hI := hB.ins
  have hV0 := hV
  cases hV0 with
  | @add s1 d1 h1 h2 =>
    walk_at "rd"
    refine ⟨by walk_at "sz", fun e he => ?_⟩
    have k1 : Kp [] H (upd H e (.tup [.str "add", s1])) := Kp.nil.new he
    walk_at "rd"
    exact ⟨a, dx, f1, g, l, un, e, v, _, xs, b, fx, _, rfl, hB.kp k1, hx, hV.ed k1 (SqT.of upd_same), BnK.kp hB.ins k k1⟩
theorem ok_Bench_drop {C : Addr} {A : ErA} (D : DfM K C "drop" "Bench.drop" sBench_drop PBench_drop) (B : Blt mg) (T : BnT K C) (GB_do : HasM P w K mg base (L2.CX P w) C "do" ["self", "edit"] 16 (spDo K A C)) : HasM P w K mg base (L2.CX P w) C "drop" PBench_drop 17 (spEdM K A C "drop") := by
  refine D.hasX scBench_drop (fun vs H Q E h => ?_) (fun f cdv A0 outer s H vs Q E hr h => ?_)
  · obtain ⟨a, dx, f, g, l, un, v, u, us, xs, b, fx, x, rfl, _, _, hV, _⟩ := h
    cases hV with
    | drop => rfl
  obtain ⟨a, dx, f1, g, l, un, v, u, us, xs, b, fx, x, rfl, hB, hx, hV, k⟩ := h
  have cC := T.cl
  refine ⟨_, (pss_one (ps_ret (pe_m GB_do cC (hr.mono (by omega)) (passC (takes_of rfl rfl rfl rfl)) (pv 0) (pa_cons (pe_tup (pa_cons pe_str (pa_cons (pv 1) pa_nil))) pa_nil)))), ?_⟩
  have hI := hB.ins
  have hV0 := hV
  cases hV0 with
  | @drop _ p1 h1 =>
    walk_at "rd"
    refine ⟨by walk_at "sz", fun e he => ?_⟩
    have k1 : Kp [] H (upd H e (.tup [.str "drop", u])) := Kp.nil.new he
    walk_at "rd"
    exact ⟨a, dx, f1, g, l, un, e, v, _, xs, b, fx, _, rfl, hB.kp k1, hx, hV.ed k1 (SqT.of upd_same), BnK.kp hB.ins k k1⟩
theorem ok_Bench_change {C : Addr} {A : ErA} (D : DfM K C "change" "Bench.change" sBench_change PBench_change) (B : Blt mg) (T : BnT K C) (GB_do : HasM P w K mg base (L2.CX P w) C "do" ["self", "edit"] 16 (spDo K A C)) : HasM P w K mg base (L2.CX P w) C "change" PBench_change 17 (spEdM K A C "change") := by
  refine D.hasX scBench_change (fun vs H Q E h => ?_) (fun f cdv A0 outer s H vs Q E hr h => ?_)
  · obtain ⟨a, dx, f, g, l, un, v, u, us, xs, b, fx, x, rfl, _, _, hV, _⟩ := h
    cases hV with
    | change => rfl
  obtain ⟨a, dx, f1, g, l, un, v, u, us, xs, b, fx, x, rfl, hB, hx, hV, k⟩ := h
  have cC := T.cl
  refine ⟨_, (pss_one (ps_ret (pe_m GB_do cC (hr.mono (by omega)) (passC (takes_of rfl rfl rfl rfl)) (pv 0) (pa_cons (pe_tup (pa_cons pe_str (pa_cons (pv 1) (pa_cons (pv 2) pa_nil)))) pa_nil)))), ?_⟩
  have hI := hB.ins
  have hV0 := hV
  cases hV0 with
  | @change _ s1 p1 d1 h1 h2 h3 =>
    walk_at "rd"
    refine ⟨by walk_at "sz", fun e he => ?_⟩
    have k1 : Kp [] H (upd H e (.tup [.str "change", u, s1])) := Kp.nil.new he
    walk_at "rd"
    exact ⟨a, dx, f1, g, l, un, e, v, _, xs, b, fx, _, rfl, hB.kp k1, hx, hV.ed k1 (SqT.of upd_same), BnK.kp hB.ins k k1⟩
theorem ok_Bench_hold {C : Addr} {A : ErA} (D : DfM K C "hold" "Bench.hold" sBench_hold PBench_hold) (B : Blt mg) (T : BnT K C) (GB_do : HasM P w K mg base (L2.CX P w) C "do" ["self", "edit"] 16 (spDo K A C)) : HasM P w K mg base (L2.CX P w) C "hold" PBench_hold 17 (spEdM K A C "hold") := by
  refine D.hasX scBench_hold (fun vs H Q E h => ?_) (fun f cdv A0 outer s H vs Q E hr h => ?_)
  · obtain ⟨a, dx, f, g, l, un, v, u, us, xs, b, fx, x, rfl, _, _, hV, _⟩ := h
    cases hV with
    | hold => rfl
  obtain ⟨a, dx, f1, g, l, un, v, u, us, xs, b, fx, x, rfl, hB, hx, hV, k⟩ := h
  have cC := T.cl
  refine ⟨_, (pss_one (ps_ret (pe_m GB_do cC (hr.mono (by omega)) (passC (takes_of rfl rfl rfl rfl)) (pv 0) (pa_cons (pe_tup (pa_cons pe_str (pa_cons (pv 1) pa_nil))) pa_nil)))), ?_⟩
  have hI := hB.ins
  have hV0 := hV
  cases hV0 with
  | @hold _ p1 h1 =>
    walk_at "rd"
    refine ⟨by walk_at "sz", fun e he => ?_⟩
    have k1 : Kp [] H (upd H e (.tup [.str "hold", u])) := Kp.nil.new he
    walk_at "rd"
    exact ⟨a, dx, f1, g, l, un, e, v, _, xs, b, fx, _, rfl, hB.kp k1, hx, hV.ed k1 (SqT.of upd_same), BnK.kp hB.ins k k1⟩
theorem ok_Bench_free {C : Addr} {A : ErA} (D : DfM K C "free" "Bench.free" sBench_free PBench_free) (B : Blt mg) (T : BnT K C) (GB_do : HasM P w K mg base (L2.CX P w) C "do" ["self", "edit"] 16 (spDo K A C)) : HasM P w K mg base (L2.CX P w) C "free" PBench_free 17 (spEdM K A C "free") := by
  refine D.hasX scBench_free (fun vs H Q E h => ?_) (fun f cdv A0 outer s H vs Q E hr h => ?_)
  · obtain ⟨a, dx, f, g, l, un, v, u, us, xs, b, fx, x, rfl, _, _, hV, _⟩ := h
    cases hV with
    | free => rfl
  obtain ⟨a, dx, f1, g, l, un, v, u, us, xs, b, fx, x, rfl, hB, hx, hV, k⟩ := h
  have cC := T.cl
  refine ⟨_, (pss_one (ps_ret (pe_m GB_do cC (hr.mono (by omega)) (passC (takes_of rfl rfl rfl rfl)) (pv 0) (pa_cons (pe_tup (pa_cons pe_str (pa_cons (pv 1) pa_nil))) pa_nil)))), ?_⟩
  have hI := hB.ins
  have hV0 := hV
  cases hV0 with
  | @free _ p1 h1 =>
    walk_at "rd"
    refine ⟨by walk_at "sz", fun e he => ?_⟩
    have k1 : Kp [] H (upd H e (.tup [.str "free", u])) := Kp.nil.new he
    walk_at "rd"
    exact ⟨a, dx, f1, g, l, un, e, v, _, xs, b, fx, _, rfl, hB.kp k1, hx, hV.ed k1 (SqT.of upd_same), BnK.kp hB.ins k k1⟩
theorem ok_Bench_len {C : Addr} (D : DfM K C "__len__" "Bench.__len__" sBench___len__ PBench___len__) (B : Blt mg) (T : BnT K C) : HasM P w K mg base CX0 C "__len__" PBench___len__ 1 (spLenB C) := by
  refine D.has scBench___len__ (fun vs H Q E h => ?_) (fun f cdv A outer s H vs Q E hr h => ?_)
  · obtain ⟨a, dx, f, g, l, un, v, xs, rfl, _⟩ := h
    rfl
  obtain ⟨a, dx, f1, g, l, un, v, xs, rfl, hI, hL, hx, k⟩ := h
  have cC := T.cl
  refine ⟨_, (pss_one (ps_ret (pe_callB c_len (by rfl) B.len (by decide +kernel) (pa_cons (pe_fld (pv 0) rfl) pa_nil)))), ?_⟩
  walk_at "rd"
  refine r_Fld hI cC T.nS bn_getS ?_
  walk_at "rd"
  exact k
theorem ok_Bench_init {C : Addr} {CB : Addr} (D : DfMD K C "__init__" "Bench.__init__" sBench___init__ PBench___init__) (B : Blt mg) (T : BnT K C) (Gneed_program : Has P w K mg base (L2.CX P w) "need_program" ["value"] 13 (spNeed K CB))
    (Gis_fix : Has P w K mg base CX0 "is_fix" ["program", "value"] 8 (spFixT K)) : HasM P w K mg base CX0 C "__init__" PBench___init__ 14 (spInitB K C) := by
  refine D.has scBench___init__ (fun vs H Q E h => ?_) (fun f cdv A outer s H vs Q E hr h => ?_)
  · obtain ⟨a, dx, f, v, b, fx, rfl, _⟩ := h
    rfl
  obtain ⟨a, dx, f1, v, b, fx, rfl, hI, hB, hf, k⟩ := h
  have cC := T.cl
  have hq := hB.vp.dsz
  have hsz := hB.vp.size
  refine ⟨_, (pss_cons (ps_expr (pe_f Gneed_program (hr.mono (by omega)) (by rfl) passQ (pa_cons (pv 1) pa_nil)))
      (pss_cons (ps_if (pt_not (pt_val (pe_f Gis_fix (hr.mono (by omega)) (by rfl) pass0 (pa_cons (pv 1) (pa_cons (pv 2) pa_nil))))) (pss_one ps_void)
        pss_nil)
      (pss_cons (ps_fld (pv 0) (pv 1) rfl)
      (pss_cons (ps_fld (pv 0) (pv 2) rfl)
      (pss_cons (ps_fld (pv 0) (pe_tup (pa_cons (pv 1) (pa_cons (pv 2) pa_nil))) rfl)
      (pss_cons (ps_fld (pv 0) (pe_lst pa_nil) rfl)
      (pss_cons (ps_fld (pv 0) (pe_lst pa_nil) rfl)
      (pss_one (ps_fld (pv 0) pe_bl rfl))))))))), ?_⟩
  walk_at "rd"
  refine ⟨v, .tuple (Sm.ds b), rfl, hB.dw, by rw [dsz]; omega, fun _ H1 k1 => ?_, fun z => absurd hB.vp.ok z⟩
  have hB1 := hB.kp k1
  walk_at "rd"
  refine ⟨[], v, b, f1, fx, rfl, hB1.dw, hB.vp.ex, by omega, by omega, hB1.sq, by have := hB.len; omega, hf, hB.asc, fun H2 k2 => ?_⟩
  have hI2 := k2.get (k1.get hI (by simp)) (by simp)
  have ka : Kp [a] H H2 := (k1.trans k2).subM (Ms.cons hI trivial Ms.nil) (by simp)
  walk_at "rd"
  refine r_SFld hI2 cC T.nP (by simp) ?_
  rw [bn_i1]
  dsimp only
  have kb : Kp [a] H (upd H2 a (.ins C dx [("program", v)])) := ka.trans (kpW2 hI2 trivial)
  have hI3 : upd H2 a (.ins C dx [("program", v)]) a = some (.ins C dx [("program", v)]) := upd_same
  generalize upd H2 a (.ins C dx [("program", v)]) = H3 at kb hI3 ⊢
  clear ka hI2 k2 k1 hB1
  walk_at "rd"
  refine r_SFld hI3 cC T.nF (by simp) ?_
  rw [bn_i2]
  dsimp only
  have ka : Kp [a] H (upd H3 a (.ins C dx [("program", v), ("fix", .ref f1)])) := kb.trans (kpW2 hI3 trivial)
  have hI4 : upd H3 a (.ins C dx [("program", v), ("fix", .ref f1)]) a = some (.ins C dx [("program", v), ("fix", .ref f1)]) := upd_same
  generalize upd H3 a (.ins C dx [("program", v), ("fix", .ref f1)]) = H4 at ka hI4 ⊢
  clear kb hI3
  walk_at "rd"
  refine ⟨by walk_at "sz", fun g hg => ?_⟩
  have k5 : Kp [] H4 (upd H4 g (.tup [v, .ref f1])) := Kp.nil.new hg
  have hI5 := k5.get hI4 (by simp)
  have k5a : Kp [a] H (upd H4 g (.tup [v, .ref f1])) := ka.new hg
  have hG5 : SqT K (upd H4 g (.tup [v, .ref f1])) g [v, .ref f1] := SqT.of upd_same
  generalize upd H4 g (.tup [v, .ref f1]) = H5 at k5 hI5 k5a hG5 ⊢
  clear ka hI4 hg k5
  walk_at "rd"
  refine r_SFld hI5 cC T.nB (by simp) ?_
  rw [bn_i3]
  dsimp only
  have k6 : Kp [a] H (upd H5 a (.ins C dx [("program", v), ("fix", .ref f1), ("begun", .ref g)])) := k5a.trans (kpW2 hI5 trivial)
  have hI6 : upd H5 a (.ins C dx [("program", v), ("fix", .ref f1), ("begun", .ref g)]) a = some (.ins C dx [("program", v), ("fix", .ref f1), ("begun", .ref g)]) := upd_same
  have hG6 : SqT K (upd H5 a (.ins C dx [("program", v), ("fix", .ref f1), ("begun", .ref g)])) g [v, .ref f1] := sqT_kp (kpW2 hI5 trivial) hG5
  generalize upd H5 a (.ins C dx [("program", v), ("fix", .ref f1), ("begun", .ref g)]) = H6 at k6 hI6 hG6 ⊢
  clear k5a hI5
  walk_at "rd"
  refine ⟨by walk_at "sz", fun l hl => ?_⟩
  have k7 : Kp [] H6 (upd H6 l (.lst [])) := Kp.nil.new hl
  have hI7 := k7.get hI6 (by simp)
  have hL7 : upd H6 l (.lst []) l = some (.lst []) := upd_same
  have k7a : Kp [a] H (upd H6 l (.lst [])) := k6.new hl
  have hG7 := sqT_kp k7 hG6
  generalize upd H6 l (.lst []) = H7 at k7 hI7 hL7 k7a hG7 ⊢
  have hlH : H l = none := k6.freeM (Ms.cons hI6 trivial Ms.nil) hl
  have hla : l ∉ [a] := fun m => by
    rw [List.mem_singleton.mp m, hI6] at hl
    cases hl
  clear k6 hI6 hl k7
  walk_at "rd"
  refine r_SFld hI7 cC T.nS (by simp) ?_
  rw [bn_i4]
  dsimp only
  have kk8 : Kp [a] H7 (upd H7 a (.ins C dx [("program", v), ("fix", .ref f1), ("begun", .ref g), ("standing", .ref l)])) := kpW2 hI7 trivial
  have hL8 := kk8.get hL7 hla
  have hG8 := sqT_kp kk8 hG7
  have k8 := k7a.trans kk8
  have hI8 : upd H7 a (.ins C dx [("program", v), ("fix", .ref f1), ("begun", .ref g), ("standing", .ref l)]) a = some (.ins C dx [("program", v), ("fix", .ref f1), ("begun", .ref g), ("standing", .ref l)]) := upd_same
  generalize upd H7 a (.ins C dx [("program", v), ("fix", .ref f1), ("begun", .ref g), ("standing", .ref l)]) = H8 at k8 hI8 hL8 hG8 ⊢
  clear kk8 k7a hI7 hL7
  walk_at "rd"
  refine ⟨by walk_at "sz", fun un hun => ?_⟩
  have k9 : Kp [] H8 (upd H8 un (.lst [])) := Kp.nil.new hun
  have hI9 := k9.get hI8 (by simp)
  have hL9 := k9.get hL8 (by simp)
  have hU9 : upd H8 un (.lst []) un = some (.lst []) := upd_same
  have hG9 := sqT_kp k9 hG8
  have hunH : H un = none := k8.freeM (Ms.cons hI8 trivial Ms.nil) hun
  have huna : un ∉ [a] := fun m => by
    rw [List.mem_singleton.mp m, hI8] at hun
    cases hun
  have k9a : Kp [a] H (upd H8 un (.lst [])) := k8.new hun
  generalize upd H8 un (.lst []) = H9 at hI9 hL9 hU9 hG9 k9a ⊢
  clear k9 k8 hI8 hL8 hun
  walk_at "rd"
  refine r_SFld hI9 cC T.nU (by simp) ?_
  rw [bn_i5]
  dsimp only
  have kkb : Kp [a] H9 (upd H9 a (.ins C dx [("program", v), ("fix", .ref f1), ("begun", .ref g), ("standing", .ref l), ("undone", .ref un)])) := kpW2 hI9 trivial
  have hLb := kkb.get hL9 hla
  have hUb := kkb.get hU9 huna
  have hGb := sqT_kp kkb hG9
  have kb := k9a.trans kkb
  have hIb : upd H9 a (.ins C dx [("program", v), ("fix", .ref f1), ("begun", .ref g), ("standing", .ref l), ("undone", .ref un)]) a = some (.ins C dx [("program", v), ("fix", .ref f1), ("begun", .ref g), ("standing", .ref l), ("undone", .ref un)]) := upd_same
  generalize upd H9 a (.ins C dx [("program", v), ("fix", .ref f1), ("begun", .ref g), ("standing", .ref l), ("undone", .ref un)]) = Hb at kb hIb hLb hUb hGb ⊢
  clear kkb k9a hI9 hL9
  walk_at "rd"
  refine r_SFld hIb cC T.nW (by simp) ?_
  rw [bn_i6]
  have kkc : Kp [a] Hb (upd Hb a (.ins C dx (bnF v f1 g l un))) := kpW2 hIb trivial
  exact k _ g l un hlH hunH (kb.trans kkc) upd_same (kkc.get hLb hla) (kkc.get hUb huna) (sqT_kp kkc hGb)
theorem ok_Bench_undo {C U : Addr} (D : DfM K C "undo" "Bench.undo" sBench_undo PBench_undo) (B : Blt mg) (T : BnT K C) (eU : Er0 K mg "NothingToUndo" U) (GB_idle : HasM P w K mg base CX0 C "idle" ["self"] 1 (spIdle K C)) (GB_stand : HasM P w K mg base CX0 C "stand" ["self", "standing"] 1 (spStand K C)) :
    HasM P w K mg base (L2.CX P w) C "undo" PBench_undo 2 (spUndo K C U) := by
  refine D.hasX scBench_undo (fun vs H Q E h => ?_) (fun f cdv A0 outer s H vs Q E hr h => ?_)
  · obtain ⟨a, dx, l, un, x0, xs, us, rfl, _⟩ := h
    rfl
  obtain ⟨a, dx, l, un, x0, xs, us, rfl, hB, hx, hu, k0, k⟩ := h
  have cC := T.cl
  obtain ⟨v, w0, f1, g, f0, ys, zs, hI, hL, hU, hR, hS, hg, hS0, hSc⟩ := hB.ex
  refine ⟨_, (pss_cons (ps_expr (pe_m0 GB_idle cC (hr.mono (by omega)) pass0 (pv 0)))
      (pss_cons (ps_if (pt_cmpR (op_eqNil hr.h64) (pe_fld (pv 0) rfl) (pe_lst pa_nil) (nomark _)) (pss_one (ps_raise rfl (takes_of rfl rfl rfl rfl) (pmk_er0 eU (by rfl))))
        pss_nil)
      (pss_cons (ps_fld (pv 0) (pe_op op_cat (pe_fld (pv 0) rfl) (pe_slice sl_list (pe_fld (pv 0) rfl) (po_some (pe_un un_neg pe_int)) po_none)) rfl)
      (pss_one (ps_ret (pe_m GB_stand cC (hr.mono (by omega)) pass0 (pv 0) (pa_cons (pe_slice sl_list (pe_fld (pv 0) rfl) po_none (po_some (pe_un un_neg pe_int))) pa_nil))))))), ?_⟩
  walk_at "rd"
  refine ⟨a, dx, f1, g, l, un, v, rfl, hI, ?_⟩
  walk_at "rd"
  refine r_Fld hI cC T.nS bn_getS ?_
  walk_at "rd"
  refine ⟨by decide, fun p hp => ?_⟩
  have k1 : Kp [] H (upd H p (.lst [])) := Kp.nil.new hp
  have hI1 := k1.get hI (by simp)
  have hL1 := k1.get hL (by simp)
  have hU1 := k1.get hU (by simp)
  refine r_eqNL (SqL.of hL1) (SqL.of upd_same) ?_
  generalize upd H p (.lst []) = H1 at k1 hI1 hL1 hU1 ⊢
  rcases List.eq_nil_or_concat xs with rfl | ⟨xs', x, rfl⟩
  · obtain rfl : ys = [] := List.length_eq_zero_iff.mp hR.len
    have e0 : ([] : List V).isEmpty = true := rfl
    rw [e0]
    walk_at "rd"
    exact k0 rfl H1 k1
  · rw [List.concat_eq_append] at hR k hx
    obtain ⟨ys', y, rfl, hR', hy⟩ := hR.last
    have hyl := hR'.len
    have hzl := hS.len
    have e0 : (ys' ++ [y]).isEmpty = false := by cases ys' <;> rfl
    rw [e0]
    rw [List.length_append, List.length_singleton] at hx
    walk_at "rd"
    refine r_Fld hI1 cC T.nU bn_getU ?_
    walk_at "rd"
    refine r_Fld hI1 cC T.nS bn_getS ?_
    walk_at "rd"
    refine r_slL (SqL.of hL1) fun q hq => ?_
    rw [cutV_last]
    have k2 : Kp [] H1 (upd H1 q (.lst [y])) := Kp.nil.new hq
    have hq2 : upd H1 q (.lst [y]) q = some (.lst [y]) := upd_same
    have hI2 := k2.get hI1 (by simp)
    have hL2 := k2.get hL1 (by simp)
    have hU2 := k2.get hU1 (by simp)
    generalize upd H1 q (.lst [y]) = H2 at k2 hq2 hI2 hL2 hU2 ⊢
    refine r_cat hU2 hq2 (by rw [sizeLine_eq]; simp; omega) fun un2 hun2 => ?_
    have k3 : Kp [] H2 (upd H2 un2 (.lst (zs ++ [y]))) := Kp.nil.new hun2
    have hN3 : upd H2 un2 (.lst (zs ++ [y])) un2 = some (.lst (zs ++ [y])) := upd_same
    have hI3 := k3.get hI2 (by simp)
    have hL3 := k3.get hL2 (by simp)
    have k13 := (k1.trans k2).trans k3
    have hunH : H un2 = none := (k1.trans k2).freeM Ms.nil hun2
    generalize upd H2 un2 (.lst (zs ++ [y])) = H3 at hN3 hI3 hL3 k13 ⊢
    clear k1 k2 k3 hI1 hI2 hL1 hL2 hU1 hU2 hq2
    walk_at "rd"
    refine r_SFld hI3 cC T.nU (by show 6 < 1000; decide) ?_
    rw [bn_putU]
    dsimp only
    have kk4 : Kp [a] H3 (upd H3 a (.ins C dx (bnF v f1 g l un2))) := kpW2 hI3 trivial
    have hI4 : upd H3 a (.ins C dx (bnF v f1 g l un2)) a = some (.ins C dx (bnF v f1 g l un2)) := upd_same
    have hL4 := kk4.get hL3 (lst_ne hL3 hI3)
    have hN4 := kk4.get hN3 (lst_ne hN3 hI3)
    have k4 : Kp [a] H (upd H3 a (.ins C dx (bnF v f1 g l un2))) := (k13.subM (Ms.cons hI trivial Ms.nil) (by simp)).trans kk4
    generalize upd H3 a (.ins C dx (bnF v f1 g l un2)) = H4 at hI4 hL4 hN4 k4 ⊢
    clear kk4 hI3 hL3 hN3 k13
    walk_at "rd"
    refine r_Fld hI4 cC T.nS bn_getS ?_
    walk_at "rd"
    refine r_slL (SqL.of hL4) fun l2 hl2 => ?_
    rw [cutV_init]
    have k5 : Kp [] H4 (upd H4 l2 (.lst ys')) := Kp.nil.new hl2
    have hL5 : upd H4 l2 (.lst ys') l2 = some (.lst ys') := upd_same
    have hI5 := k5.get hI4 (by simp)
    have hN5 := k5.get hN4 (by simp)
    have kk5 : Kp [a] H (upd H4 l2 (.lst ys')) := k4.new hl2
    have hlH : H l2 = none := k4.freeM (Ms.cons hI4 trivial Ms.nil) hl2
    generalize upd H4 l2 (.lst ys') = H5 at hL5 hI5 hN5 kk5 ⊢
    have hR5 : Row2 (StE K H5) ys' xs' := hR'.imp fun _ _ q => q.kp kk5
    have hg5 := sqT_kp kk5 hg
    have hS5 := hS0.kpM kk5
    obtain ⟨p6, f6, w6, h6, hp6, hs6⟩ := cur_pair hR5 hg5 hS5
    walk_at "rd"
    refine ⟨a, dx, f1, g, l, un2, l2, p6, f6, v, w6, ys', rfl, hI5, hL5, h6, hp6, by omega, fun H6 k6 hI6 => ?_⟩
    have kk6 := kk5.trans k6
    rw [hyl]
    exact k xs' x rfl H6 l2 un2 hlH hunH kk6 ⟨w6, w0, f6, g, f0, ys', zs ++ [y], hI6, k6.get hL5 (lst_ne hL5 hI5), k6.get hN5 (lst_ne hN5 hI5), hR5.imp fun _ _ q => q.kp k6, (hS.imp fun _ _ q => q.kp kk6).snoc (hy.kp kk6), sqT_kp k6 hg5, hS5.kpM k6, hs6.kpM k6⟩
theorem ok_Bench_state {C : Addr} (D : DfMK K C "state" "Bench.state" sBench_state PBench_state [.non]) (B : Blt mg) (T : BnT K C) : HasMK P w K mg base CX0 C "state" PBench_state [.non] 1 (spState0 K C) := by
  refine D.has scBench_state (fun vs H Q E h => ?_) (fun f cdv A outer s H vs Q E hr h => ?_)
  · obtain ⟨a, dx, l, un, x0, xs, us, rfl, _⟩ := h
    rfl
  obtain ⟨a, dx, l, un, x0, xs, us, rfl, hB, k⟩ := h
  have cC := T.cl
  obtain ⟨v, w0, f1, g, f0, ys, zs, hI, hL, hU, hR, hS, hg, hS0, hSc⟩ := hB.ex
  refine ⟨_, (pss_cons (ps_if (pt_cmpR op_isN (pv 1) pe_non (nomark _)) (pss_one (ps_ret (pe_tup (pa_cons (pe_fld (pv 0) rfl) (pa_cons (pe_fld (pv 0) rfl) pa_nil)))))
        pss_nil)
      (pss_cons (ps_if (PW.pt (pw_or (pt_not (pt_val (pe_callB c_is2 (by rfl) B.isinstance (by decide +kernel) (pa_cons (pv 1) (pa_cons (pe_ty (T := "int") (by rfl) B.int (by decide +kernel)) pa_nil))))) (pw_or (pt_val (pe_callB c_is2 (by rfl) B.isinstance (by decide +kernel) (pa_cons (pv 1) (pa_cons (pe_ty (T := "bool") (by rfl) B.bool (by decide +kernel)) pa_nil)))) (pw_or1 (pt_not (pt_chain op_le op_le pe_int (pv 1) (pe_callB c_len (by rfl) B.len (by decide +kernel) (pa_cons (pe_fld (pv 0) rfl) pa_nil)))))))) (pss_one ps_void)
        pss_nil)
      (pss_one (ps_ret (pe_ifExp (pt_cmpR op_eq (pv 1) pe_int (nomark _)) (pe_fld (pv 0) rfl) (pe_ix ix_tup (pe_ix ix_list (pe_fld (pv 0) rfl) (pe_op op_sub (pv 1) pe_int) (fun _ _ => rfl)) pe_int (fun _ _ => rfl))))))), ?_⟩
  walk_at "rd"
  refine ⟨rfl, ?_⟩
  walk_at "rd"
  refine ifd (fun _ => ?_) fun c => absurd rfl c
  walk_at "rd"
  refine r_Fld hI cC T.nP bn_getP ?_
  walk_at "rd"
  refine r_Fld hI cC T.nF bn_getF ?_
  walk_at "rd"
  refine ⟨by walk_at "sz", fun p hp => ?_⟩
  have k1 : Kp [] H (upd H p (.tup [v, .ref f1])) := Kp.nil.new hp
  exact k _ p f1 v k1 (SqT.of upd_same) (hSc.kp k1)
theorem ok_law_deck (D : Df K mg "_law_deck" s_law_deck P_law_deck) (B : Blt mg) : Has P w K mg base CX0 "_law_deck" P_law_deck 1 (spDeck K) := by
  refine D.has sc_law_deck (fun vs H Q E h => ?_) (fun f cdv A outer s H vs Q E hr h => ?_)
  · obtain ⟨a, ns, rfl, _⟩ := h
    rfl
  obtain ⟨a, ns, rfl, hS, hl, k⟩ := h
  refine ⟨_, (pss_one (ps_ret (pe_lst (pa_cons (pe_lc (own := [("_law_cell", 1)]) (g := gName 1) (by rfl) sc_law_deck.nd (pi_list (pe_slice sl_list (pv 0) po_none (po_some pe_int))) (blkOk_by (own := [("_law_cell", 1)]) (N := N_law_deck) (sc := defScope s_law_deck) (by decide +kernel)) (fun _ _ _ _ _ => (pg_name (i := 1) sc_law_deck.nd rfl (Or.inl rfl))) (fun _ _ _ _ _ => pts_nil) (fun _ _ _ _ _ => (pe_callB c_abs (by rfl) B.abs (by decide +kernel) (pa_cons (pv 1) pa_nil)))) (pa_cons pe_int pa_nil))))), ?_⟩
  walk_at "rd"
  refine r_slL hS fun p hp => ?_
  obtain ⟨ms, e, hm, _⟩ := cutV_map V.int ns none (some 63)
  rw [e]
  have k1 : Kp [] H (upd H p (.lst (ms.map V.int))) := Kp.nil.new hp
  have h1 : upd H p (.lst (ms.map V.int)) p = some (.lst (ms.map V.int)) := upd_same
  generalize upd H p (.lst (ms.map V.int)) = H1 at k1 h1 ⊢
  refine r_LcL (SqL.of h1) fun c hc => ?_
  refine ⟨fun i H' => ∃ cs : List Int, H' c = some (.lst (cs.map V.int)) ∧ (∀ x ∈ cs, 0 ≤ x) ∧ cs.length = i ∧ Kp [] H1 H', ⟨[], upd_same, (fun _ h => (nomatch h)), rfl, Kp.nil.new hc⟩,
    fun i H' ⟨_, _, _, _, kk⟩ => SqL.of (kk.get h1 (by simp)), ?_, ?_⟩
  · rintro i x H2 hx ⟨cs, h2, h3, h4, k2⟩
    rw [List.getElem?_map] at hx
    obtain ⟨y, hy, rfl⟩ := Option.map_eq_some_iff.mp hx
    have hi : i < ms.length := (List.getElem?_eq_some_iff.mp hy).1
    walk_at "rd"
    refine r_LcEnd h2 (by walk_at "sz") ⟨cs ++ [if y < 0 then -y else y], ?_, ?_, ?_, k2.own hc⟩
    · rw [upd_same, List.map_append]
      rfl
    · intro z hz
      rcases List.mem_append.mp hz with hz | hz
      · exact h3 z hz
      · rw [List.mem_singleton.mp hz]
        split <;> omega
    · rw [List.length_append, h4]
      rfl
  · rintro H2 ⟨cs, h2, h3, h4, k2⟩
    rw [List.length_map] at h4
    walk_at "rd"
    refine ⟨by simp [sizeLine_eq], fun d hd => ?_⟩
    have hcd : d ≠ c := Ne.symm (ne_of_none h2 hd)
    refine k _ d c ((k1.trans k2).same.free hd) (k1.same.free hc) ⟨upd_same, ⟨cs, ?_, h3, by omega⟩, hcd, by omega⟩ ((k1.trans k2).new hd)
    rw [upd_ne hcd.symm]
    exact h2
theorem ok_law_draw (D : Df K mg "_law_draw" s_law_draw P_law_draw) (B : Blt mg) : Has P w K mg base CX0 "_law_draw" P_law_draw 1 spDraw := by
  refine D.has sc_law_draw (fun vs H Q E h => ?_) (fun f cdv A outer s H vs Q E hr h => ?_)
  · obtain ⟨d, c, n, m, rfl, _⟩ := h
    rfl
  obtain ⟨d, c, n, m, rfl, Dk, hn, h1, h2, k⟩ := h
  refine ⟨_, (pss_cons (ps_asg (pe_op op_add (pe_ix ix_list (pv 0) pe_int (fun _ _ => rfl)) pe_int) (pg_sub (pv 0) pe_int set_list))
      (pss_cons (ps_asg (pe_tup (pa_cons pe_int (pa_cons (pe_un un_neg pe_int) pa_nil))) (pg_tup rfl (pgs_cons (pg_name (i := 2) sc_law_draw.nd rfl (Or.inl rfl)) (pgs_cons (pg_name (i := 3) sc_law_draw.nd rfl (Or.inl rfl)) pgs_nil))))
      (pss_cons (ps_if (pt_cmpR op_gt (pe_callB c_len (by rfl) B.len (by decide +kernel) (pa_cons (pe_ix ix_list (pv 0) pe_int (fun _ _ => rfl)) pa_nil)) pe_int (nomark _)) (pss_cons (ps_set (i := 3) sc_law_draw.nd rfl (Or.inl rfl) (pe_op op_mod (pe_callTy c_int (by rfl) B.int (by decide +kernel) (pa_cons (pe_ix ix_list (pv 0) pe_int (fun _ _ => rfl)) pa_nil)) (pe_callB c_len (by rfl) B.len (by decide +kernel) (pa_cons (pe_ix ix_list (pv 0) pe_int (fun _ _ => rfl)) pa_nil))))
      (pss_one (ps_set (i := 2) sc_law_draw.nd rfl (Or.inl rfl) (pe_ix ix_list (pe_ix ix_list (pv 0) pe_int (fun _ _ => rfl)) (pv 3) (fun _ _ => rfl)))))
        pss_nil)
      (pss_cons (ps_if (pt_cmpR op_ge (pv 2) (pe_op op_pow pe_int pe_int) (nomark _)) (pss_cons (ps_asg (pe_op op_fdiv (pe_callTy c_int (by rfl) B.int (by decide +kernel) (pa_cons (pv 2) pa_nil)) (pv 1)) (pg_sub (pe_ix ix_list (pv 0) pe_int (fun _ _ => rfl)) (pv 3) set_list))
      (pss_one (ps_ret (pe_op op_mod (pe_callTy c_int (by rfl) B.int (by decide +kernel) (pa_cons (pv 2) pa_nil)) (pv 1)))))
        pss_nil)
      (pss_cons (ps_set (i := 4) sc_law_draw.nd rfl (Or.inl rfl) (pe_op op_add (pe_op op_add (pe_op op_mod (pe_callTy c_int (by rfl) B.int (by decide +kernel) (pa_cons (pv 2) pa_nil)) pe_int) (pe_op op_mul pe_int (pe_ix ix_list (pv 0) pe_int (fun _ _ => rfl)))) pe_int))
      (pss_one (ps_ret (pe_op op_mod (pe_callTy c_int (by rfl) B.int (by decide +kernel) (pa_cons (pe_op op_mod (pe_callTy c_int (by rfl) B.int (by decide +kernel) (pa_cons (pe_op op_pow (pv 4) pe_int) pa_nil)) pe_int) pa_nil)) (pv 1))))))))), ?_⟩
  obtain ⟨hd, ⟨cs, hc, hp, hl⟩, ne, n0⟩ := Dk
  walk_at "rd"
  refine ⟨by decide, fun p hp' => ?_⟩
  have pd : p ≠ d := fun z => by
    rw [z, upd_same] at hp'
    cases hp'
  have pH : H p = none := by
    rw [upd_ne pd] at hp'
    exact hp'
  have pc : p ≠ c := Ne.symm (ne_of_none hc pH)
  generalize eH : upd (upd H d (HO.lst ([V.ref c, V.int n].set (Int.toNat 1) (V.int (n + 1))))) p (HO.tup [V.int 0, V.int (-1)]) = H1
  have hT : H1 p = some (.tup [V.int 0, V.int (-1)]) := by rw [← eH]; exact upd_same
  have hd1 : H1 d = some (.lst [V.ref c, V.int (n + 1)]) := by
    rw [← eH, upd_ne pd.symm]
    exact upd_same
  have hc1 : H1 c = some (.lst (cs.map V.int)) := by
    rw [← eH, upd_ne pc.symm, upd_ne ne.symm]
    exact hc
  have kp : Kp [d, c] H H1 := by
    rw [← eH]
    exact ((Kp.refl (Deck.ls ⟨hd, ⟨cs, hc, hp, hl⟩, ne, n0⟩)).write (by simp)).new hp'
  walk_at "rd"
  have last : ∀ (x : Int), 0 ≤ x → ∀ (y : Int), y = x % 2147483563 + 8117 * (n + 1) + 3 → y.natAbs < 2 ^ 64 := by
    intro x hx y e
    omega
  refine ifd (fun c1 => ?_) (fun c1 => ?_)
  · rw [List.length_map] at c1
    have hlt : ((n + 1) % (cs.length : Int)).toNat < cs.length := by
      have q1 := Int.emod_nonneg (n + 1) (show (cs.length : Int) ≠ 0 by omega)
      have q2 := Int.emod_lt_of_pos (n + 1) c1
      omega
    have h0 := Int.emod_nonneg (n + 1) (show (cs.length : Int) ≠ 0 by omega)
    have hlt2 := Int.emod_lt_of_pos (n + 1) c1
    have hat : atI (cs.map V.int) ((n + 1) % ((cs.map V.int).length : Nat)) = some (.int cs[((n + 1) % (cs.length : Int)).toNat]) := by
      rw [List.length_map]
      refine at_of (j := ((n + 1) % (cs.length : Int)).toNat) (by omega) ?_
      rw [List.getElem?_map, List.getElem?_eq_getElem hlt]
      rfl
    have hset : ixN (cs.map V.int).length ((n + 1) % ((cs.map V.int).length : Nat)) = some ((n + 1) % (cs.length : Int)).toNat := by
      unfold ixN
      rw [List.length_map, if_pos h0, if_pos hlt2]
    have hx := hp _ (List.getElem_mem hlt)
    generalize cs[((n + 1) % (cs.length : Int)).toNat] = x at hat hx
    walk_at "rd"
    refine ifd (fun c2 => ?_) (fun c2 => ?_)
    all_goals walk_at "rd"
    · refine k _ _ (Int.emod_nonneg _ (by omega)) (Int.emod_lt_of_pos _ (by omega)) ⟨?_, ⟨cs.set ((n + 1) % (cs.length : Int)).toNat (x / m), ?_, ?_, ?_⟩, ne, by omega⟩ (kp.write (by simp))
      · rw [upd_ne ne]
        exact hd1
      · rw [upd_same, List.map_set]
      · intro y hy
        rcases List.mem_or_eq_of_mem_set hy with hy | rfl
        · exact hp y hy
        · exact Int.ediv_nonneg hx (by omega)
      · rw [List.length_set]
        exact hl
    · walk_at "sc"
    · walk_at "sc"
    · exact k _ _ (Int.emod_nonneg _ (by omega)) (Int.emod_lt_of_pos _ (by omega)) ⟨hd1, ⟨cs, hc1, hp, hl⟩, ne, by omega⟩ kp
    · walk_at "sc"
    · walk_at "sc"
    · walk_at "sc"
    · walk_at "sc"
    · walk_at "sc"
    · walk_at "sc"
    · rw [List.length_map]
      exact c1
  · walk_at "rd"
    · refine ifd (fun c2 => ?_) (fun c2 => ?_)
      · exact absurd c2 (by decide)
      · walk_at "rd"
        · exact k _ _ (Int.emod_nonneg _ (by omega)) (Int.emod_lt_of_pos _ (by omega)) ⟨hd1, ⟨cs, hc1, hp, hl⟩, ne, by omega⟩ kp
        all_goals walk_at "sc"
    · walk_at "sc"
theorem ok_law_one (D : Df K mg "_law_one" s_law_one P_law_one) (B : Blt mg)
    (G_law_draw : Has P w K mg base CX0 "_law_draw" ["_law_deck_here", "_law_many"] 1 spDraw) : Has P w K mg base CX0 "_law_one" P_law_one 2 (spOne K) := by
  refine D.has sc_law_one (fun vs H Q E h => ?_) (fun f cdv A outer s H vs Q E hr h => ?_)
  · rcases h with ⟨d, c, a, n, xs, rfl, _⟩ | ⟨d, c, n, z, rfl, _⟩ <;> rfl
  refine ⟨_, (pss_one (ps_ret (pe_ix ix_seq (pv 1) (pe_f G_law_draw (hr.mono (by omega)) (by rfl) pass0 (pa_cons (pv 0) (pa_cons (pe_callB c_len (by rfl) B.len (by decide +kernel) (pa_cons (pv 1) pa_nil)) pa_nil))) (fun _ _ => rfl)))), ?_⟩
  rcases h with ⟨d, c, a, n, xs, rfl, Dk, hn, hS, h1, h2, h3, h4, k⟩ | ⟨d, c, n, z, rfl, Dk, hn, h3, h4, k⟩
  · walk_at "rd"
    refine spDraw.use Dk hn (by omega) (by omega) fun H1 r r0 r1 D1 k1 => ?_
    have hlt : r.toNat < xs.length := by omega
    refine .inl (r_ixL (sqL_kp k1 (by simp [h1, h2]) hS) (at_of (j := r.toNat) (by omega) (List.getElem?_eq_getElem hlt)) ?_)
    exact k _ r.toNat _ (List.getElem?_eq_getElem hlt) D1 k1
  · have hz : z.length ≤ sizeLine := by rw [sizeLine_eq]; omega
    have hsz : z.cps.toList.length = z.length := by rw [Array.length_toList]; rfl
    walk_at "rd"
    · refine spDraw.use Dk hn (by omega) (by omega) fun H1 r r0 r1 D1 k1 => ?_
      have hlt : r.toNat < z.cps.toList.length := by omega
      refine .inr (.inr (r_ixS (c := z.cps.toList[r.toNat]) hz ?_ ?_))
      · exact at_nn r0 (List.getElem?_eq_getElem hlt)
      · exact k _ _ (List.getElem_mem hlt) D1 k1
    · exact hz
theorem ok_law_rows1 (D : Df K mg "_law_rows" s_law_rows P_law_rows) (B : Blt mg) {n lv : Nat} {sp2 : Sp}
    (G_law_rows : Has P w K mg base CX0 "_law_rows" P_law_rows lv sp2) (hs : ∀ m, n = m + 1 → sp2 = spRowsB K m) : Has P w K mg base CX0 "_law_rows" P_law_rows (lv + 1) (spRowsB K n) := by
  refine D.has sc_law_rows (fun vs H Q E h => ?_) (fun f cdv A outer s H vs Q E hr h => ?_)
  · obtain ⟨v, b, rfl, _⟩ := h
    rfl
  obtain ⟨v, b, rfl, hd, hv, hz, k⟩ := h
  refine ⟨_, (pss_cons (ps_set (i := 1) sc_law_rows.nd rfl (Or.inl rfl) (pe_lst pa_nil))
      (pss_cons (ps_for PassesOwn.never rfl (pi_tup (pv 0)) (pg_name (i := 2) sc_law_rows.nd rfl (Or.inl rfl))
        (pss_cons (ps_expr (pe_bm PySem.F.plainAttrs_list PySem.F.slot_list_append PySem.F.type_list_append mt_append (pv 1) (pa_cons (pv 2) pa_nil)))
      (pss_one (ps_if (pt_cmpR op_in_seq (pe_ix ix_tup (pv 2) pe_int (fun _ _ => rfl)) (pe_lst (pa_cons pe_str (pa_cons pe_str pa_nil))) (by rfl)) (pss_one (ps_for PassesOwn.never rfl (pi_tup (pe_slice sl_tupA (pv 2) (po_some pe_int) po_none)) (pg_name (i := 3) sc_law_rows.nd rfl (Or.inl rfl))
        (pss_one (ps_expr (pe_bm PySem.F.plainAttrs_list PySem.F.slot_list_extend PySem.F.type_list_extend mt_extend (pv 1) (pa_cons (pe_f G_law_rows (hr.mono (by omega)) (by rfl) pass0 (pa_cons (pv 3) pa_nil)) pa_nil))))))
        pss_nil))))
      (pss_one (ps_ret (pv 1))))), ?_⟩
  obtain ⟨a, xs, rfl, hT, hL⟩ := hd.items
  have hlen : xs.length = b.length := by rw [hL.len, Sm.ds_map, List.length_map]
  walk_at "rd"
  refine ⟨by decide, fun p0 hp0 => ?_⟩
  have k0 : Kp [] H (upd H p0 (.lst [])) := Kp.nil.new hp0
  have h0 : upd H p0 (.lst []) p0 = some (.lst []) := upd_same
  generalize upd H p0 (.lst []) = H0 at k0 h0 ⊢
  walk_at "rd"
  refine r_ForT (xs := xs) (sqT_kp k0 hT) (fun i σ H' => ∃ (ws : List V) (sx ix : Option V), σ = [some (.ref a), some (.ref p0), sx, ix] ∧ Kp [] H H' ∧ H' p0 = some (.lst ws) ∧ DwL [] K H' ws (Sm.ds (Sm.als (b.take i)))) ⟨[], none, none, rfl, k0, h0, by rw [List.take_zero, Sm.als, Sm.ds]; exact DwL.nil⟩
    (fun i σ H' ⟨_, _, _, _, q, _⟩ => sqT_kp q hT) ?_ ?_
  · rintro i x σ H1 hx ⟨ws, sx, ix, rfl, k1, hp1, hw⟩
    obtain ⟨dd, hdd, hxd⟩ := hL.get hx
    rw [Sm.ds_map, List.getElem?_map] at hdd
    obtain ⟨sm, hsm, rfl⟩ := Option.map_eq_some_iff.mp hdd
    have hmem : sm ∈ b := List.mem_of_getElem? hsm
    have hsz := Sm.sizes_mem hmem
    obtain ⟨m, rfl⟩ : ∃ m, n = m + 1 := by
      cases n with
      | zero =>
        rw [show b = [] from hv] at hmem
        cases hmem
      | succ m => exact ⟨m, rfl⟩
    have hsv : Sm.vd m sm := hv sm hmem
    obtain rfl := hs m rfl
    have hx1 := hxd.kp0 k1
    have hil : i < b.length := (List.getElem?_eq_some_iff.mp hsm).1
    have hwl : ws.length < 1000 := by
      rw [hw.len, Sm.ds_map, List.length_map, Sm.als_len]
      have q := Sm.sizes_app (b.take i) (b.drop i)
      rw [List.take_append_drop] at q
      omega
    obtain ⟨ax, u, y0, d0, ys, es, rfl, esm, hT1, _, hyl, hys, hcu, hes⟩ := stm_view hx1
    have hat : atI (V.str u :: y0 :: ys) 0 = some (V.str u) := at_nn (Int.le_refl 0) rfl
    walk_at "rd"
    · have k2 : Kp [p0] H1 (upd H1 p0 (.lst (ws ++ [V.ref ax]))) := kpW2 hp1 trivial
      have kk2 : Kp [] H (upd H1 p0 (.lst (ws ++ [V.ref ax]))) := k1.own hp0
      have hp2 : upd H1 p0 (.lst (ws ++ [V.ref ax])) p0 = some (.lst (ws ++ [V.ref ax])) := upd_same
      have hT2 := sqT_kp k2 hT1
      have hx2 : Dw [] K (upd H1 p0 (.lst (ws ++ [V.ref ax]))) (.ref ax) sm.d := ((hx1.stm).kp k2).dw
      have hw2 : DwL [] K (upd H1 p0 (.lst (ws ++ [V.ref ax]))) (ws ++ [V.ref ax]) (Sm.ds (Sm.als (b.take i)) ++ [sm.d]) := (hw.stms k2).app (DwL.cons hx2 DwL.nil)
      have hy2 : ∀ (j : Nat) (y : V) (pt : List Sm), ys[j]? = some y → sm.parts[j]? = some pt → Dw [] K (upd H1 p0 (.lst (ws ++ [V.ref ax]))) y (.tuple (Sm.ds pt)) := fun j y pt e1 e2 => by
        have hne : sm.parts.isEmpty = false := by
          cases hp : sm.parts with
          | nil => rw [hp] at e2; simp at e2
          | cons _ _ => rfl
        have q := hys.all j y (.tuple (Sm.ds pt)) e1 (by rw [hes hne, List.getElem?_map, e2]; rfl)
        exact ((q.prog).kp k2).dw
      have hyl2 : sm.parts.isEmpty = false → ys.length = sm.parts.length := fun hne => by rw [hys.len, hes hne, List.length_map]
      generalize upd H1 p0 (.lst (ws ++ [V.ref ax])) = H2 at kk2 hp2 hT2 hx2 hw2 hy2 ⊢
      clear k2 hp1 hw hx1 hT1 k1 hxd hys
      walk_at "rd"
      refine ⟨by decide, fun p3 hp3 => ?_⟩
      have k3 : Kp [] H2 (upd H2 p3 (.lst [.str "if", .str "repeat"])) := Kp.nil.new hp3
      have h3 : upd H2 p3 (.lst [.str "if", .str "repeat"]) p3 = some (.lst [.str "if", .str "repeat"]) := upd_same
      refine r_inB (.inl (SqL.of h3)) rfl (by rfl) ?_
      have hin : inV (.str u) [.str "if", .str "repeat"] = (["if", "repeat"] : List Str).contains u := inV_strs u ["if", "repeat"]
      rw [hin, hcu]
      have hp3' := k3.get hp2 (by simp)
      have hT3 := sqT_kp k3 hT2
      have hw3 := hw2.kp0 k3
      have hy3 : ∀ (j : Nat) (y : V) (pt : List Sm), ys[j]? = some y → sm.parts[j]? = some pt → Dw [] K (upd H2 p3 (.lst [.str "if", .str "repeat"])) y (.tuple (Sm.ds pt)) := fun j y pt e1 e2 => (hy2 j y pt e1 e2).kp0 k3
      have kk3 := kk2.trans k3
      generalize upd H2 p3 (.lst [.str "if", .str "repeat"]) = H3 at kk3 hp3' hT3 hw3 hy3 ⊢
      clear k3 h3 hp3 hp2 hT2 hx2 hw2 hy2 kk2
      have ex0 : Sm.ds (Sm.als (b.take i)) ++ [sm.d] = Sm.ds (Sm.als (b.take i) ++ [sm]) := by rw [Sm.ds_app, Sm.ds, Sm.ds]
      rw [ex0] at hw3
      cases hne : sm.parts.isEmpty with
      | true =>
        walk_at "rd"
        refine ⟨_, _, _, rfl, kk3, hp3', ?_⟩
        rw [Sm.als_take_snoc hsm, Sm.al_parts, List.isEmpty_iff.mp hne]
        exact hw3
      | false =>
        walk_at "rd"
        refine r_slF2 hT3 fun H4 c k4 hc => ?_
        walk_at "rd"
        refine r_ForT (xs := ys) hc (fun j σ H' => ∃ (ws4 : List V) (jx : Option V), σ = [some (.ref a), some (.ref p0), some (.ref ax), jx] ∧ Kp [] H H' ∧ SqT K H' c ys ∧ H' p0 = some (.lst ws4) ∧ DwL [] K H' ws4 (Sm.ds (Sm.als (b.take i) ++ (sm :: ((sm.parts.take j).map Sm.als).flatten))) ∧
            ∀ (j : Nat) (y : V) (pt : List Sm), ys[j]? = some y → sm.parts[j]? = some pt → Dw [] K H' y (.tuple (Sm.ds pt)))
          ⟨_, ix, rfl, kk3.trans k4, hc, k4.get hp3' (by simp), hw3.kp0 k4, fun j y pt e1 e2 => (hy3 j y pt e1 e2).kp0 k4⟩ (fun j σ H' ⟨_, _, _, _, z, _⟩ => z) ?_ ?_
        · rintro j y σ H5 hy ⟨ws5, jx, rfl, k5, hc5, hp5, hw5, hy5⟩
          have hjl : j < sm.parts.length := by
            rw [← hyl2 hne]
            exact (List.getElem?_eq_some_iff.mp hy).1
          have hpt : sm.parts[j]? = some sm.parts[j] := List.getElem?_eq_getElem hjl
          generalize sm.parts[j] = pt at hpt
          have hpm : pt ∈ sm.parts := List.mem_of_getElem? hpt
          have hps := Sm.parts_sizes hpm
          walk_at "rd"
          refine ⟨y, pt, rfl, hy5 j y pt hy hpt, hsv.parts pt hpm, by omega, fun H6 q6 zs hq6 k6 hq6' hzs => ?_⟩
          have hp6 := k6.get hp5 (by simp)
          have hlen5 : ws5.length + zs.length < 1000 := by
            rw [hw5.len, hzs.len, Sm.ds_map, Sm.ds_map, List.length_map, List.length_map, List.length_append, List.length_cons, Sm.als_len, Sm.als_len]
            have q := Sm.sizes_app (b.take i) (b.drop i)
            rw [List.take_append_drop] at q
            have q0 := Sm.split_at hsm
            have q9 := congrArg Sm.sizes q0
            rw [Sm.sizes_app, Sm.sizes] at q9
            have q1 := congrArg List.length (Sm.al_parts sm)
            rw [Sm.al_len, List.length_cons] at q1
            have q2 := congrArg List.length (congrArg List.flatten (congrArg (List.map Sm.als) (List.take_append_drop (j + 1) sm.parts)))
            rw [List.map_append, List.flatten_append, List.length_append, List.take_add_one, hpt, List.map_append, List.flatten_append, List.length_append] at q2
            simp only [Option.toList_some, List.map_cons, List.map_nil, List.flatten_cons, List.flatten_nil, List.append_nil, Sm.als_len] at q2
            omega
          walk_at "rd"
          · have k7 : Kp [p0] H6 (upd H6 p0 (.lst (ws5 ++ zs))) := kpW2 hp6 trivial
            refine ⟨ws5 ++ zs, _, rfl, (k5.trans k6).own hp0, sqT_kp k7 (sqT_kp k6 hc5), upd_same, ?_, fun j y pt e1 e2 => (((hy5 j y pt e1 e2).kp0 k6).prog.kp k7).dw⟩
            have q := ((hw5.kp0 k6).stms k7).app (hzs.stms k7)
            rw [← Sm.ds_app] at q
            rw [List.take_add_one, hpt, List.map_append, List.flatten_append]
            have e5 : Sm.als (b.take i) ++ (sm :: (((sm.parts.take j).map Sm.als).flatten ++ ((some pt).toList.map Sm.als).flatten)) = Sm.als (b.take i) ++ (sm :: ((sm.parts.take j).map Sm.als).flatten) ++ Sm.als pt := by simp
            rw [e5]
            exact q
          · rw [sizeLine_eq]
            omega
        · rintro σ H5 ⟨ws5, jx, rfl, k5, hc5, hp5, hw5, hy5⟩
          refine ⟨ws5, _, _, rfl, k5, hp5, ?_⟩
          rw [hyl2 hne, List.take_length, ← Sm.al_parts, ← Sm.als_take_snoc hsm] at hw5
          exact hw5
    · rw [sizeLine_eq]
      omega
  · rintro σ H1 ⟨ws, sx, ix, rfl, k1, hp1, hw⟩
    walk_at "rd"
    rw [hlen, List.take_length] at hw
    exact k _ p0 ws hp0 k1 hp1 hw
theorem ok_law_marked_set (D : Df K mg "_law_marked_set" s_law_marked_set P_law_marked_set) (B : Blt mg) (G_law_one : Has P w K mg base CX0 "_law_one" ["_law_deck_here", "_law_items"] 2 (spOne K)) :
    Has P w K mg base CX0 "_law_marked_set" P_law_marked_set 3 (spMkSet K) := by
  refine D.has sc_law_marked_set (fun vs H Q E h => ?_) (fun f cdv A outer s H vs Q E hr h => ?_)
  · obtain ⟨d, c, mk, n, m, rfl, _⟩ := h
    rfl
  obtain ⟨d, c, mk, n, m, rfl, Dk, hn, hM, hm, n1, n2, k⟩ := h
  refine ⟨_, (pss_cons (ps_expr (pe_bm PySem.F.plainAttrs_list PySem.F.slot_list_append PySem.F.type_list_append mt_append (pv 1) (pa_cons (pe_op op_addS pe_str (pe_callTy c_str (by rfl) B.str (by decide +kernel) (pa_cons (pe_callB c_len (by rfl) B.len (by decide +kernel) (pa_cons (pv 1) pa_nil)) pa_nil))) pa_nil)))
      (pss_one (ps_ret (pe_tup (pa_cons pe_str (pa_cons (pe_ix ix_list (pv 1) (pe_un un_neg pe_int) (fun _ _ => rfl)) (pa_cons (pe_f G_law_one (hr.mono (by omega)) (by rfl) pass0 (pa_cons (pv 0) (pa_cons (pe_lst (pa_cons pe_str (pa_cons pe_str (pa_cons pe_int (pa_cons (pe_tup (pa_cons pe_str (pa_cons pe_str (pa_cons pe_int pa_nil)))) pa_nil))))) pa_nil))) pa_nil))))))), ?_⟩
  have hl := mksV_len m
  walk_at "rd"
  · rw [hl]
    have hat := at_lastV (mksV m) (.str ("h" ++ Str.ofString (toString ((m : Nat) : Int))))
    have k1 : Kp [mk] H (upd H mk (.lst (mksV m ++ [.str ("h" ++ Str.ofString (toString ((m : Nat) : Int)))]))) := kpW hM
    have h1 : upd H mk (.lst (mksV m ++ [.str ("h" ++ Str.ofString (toString ((m : Nat) : Int)))])) mk = some (.lst (mksV m ++ [.str ("h" ++ Str.ofString (toString ((m : Nat) : Int)))])) := upd_same
    have D1 := Dk.kp k1 (by simp [Ne.symm n1]) (by simp [Ne.symm n2])
    have kk1 : Kp [d, c, mk] H (upd H mk (.lst (mksV m ++ [.str ("h" ++ Str.ofString (toString ((m : Nat) : Int)))]))) := k1.sub (Dk.ls3 hM) (by simp)
    generalize upd H mk (.lst (mksV m ++ [.str ("h" ++ Str.ofString (toString ((m : Nat) : Int)))])) = H1 at h1 D1 kk1 ⊢
    refine r_ixL (SqL.of h1) hat ?_
    with_reducible refine r_cons ?_
    refine call_one (K := K) (M := []) (ds := MKE) D1 (by omega) rfl (D1.ocM (Oc.nil0 (H := H1))) ?a1 (by unfold MKE; simp) (by unfold MKE; simp) fun H2 x e he hx D2 k2 => ?_
    case a1 =>
      unfold MKE
      walk_at "cw"
    obtain ⟨ee, rfl, hev⟩ := mke_ex he
    have hxt := hx.dt (mke_tpl he)
    walk_at "rd"
    refine ⟨by walk_at "sz", fun p hp => ?_⟩
    have k3 : Kp [] H2 (upd H2 p (.tup [.str "set", .str ("h" ++ Str.ofString (toString ((m : Nat) : Int))), x])) := Kp.nil.new hp
    have kk2 : Kp [d, c, mk] H H2 := kk1.trans (k2.sub (D1.ls3 h1) (by simp))
    refine k _ _ ee _ (D2.kp k3 (by simp) (by simp)) (by omega) (by omega) (kk2.new hp) ?_ ?_ ⟨mkN_name (by omega), hev⟩
    · show MkS _ mk (m + 1)
      unfold MkS
      rw [mksV_succ]
      exact k3.get (k2.get h1 (by simp [n1, n2])) (by simp)
    · rw [Sm.d, Pl.d]
      exact .tup (SqT.of upd_same) rfl fun i v d e e' => by
        match i, e, e' with
        | 0, e, e' => cases e; cases e'; exact .str _
        | 1, e, e' => cases e; cases e'; exact .str _
        | 2, e, e' => cases e; cases e'; exact hxt.kp k3
  · rw [hl, sizeLine_eq]
    omega
  · rw [hl, sizeLine_eq]
    have := mk_len hm
    omega
  · rw [hl]
    exact mk_log hm
theorem ok_law_tree1 (D : Df K mg "_law_tree" s_law_tree P_law_tree) (B : Blt mg) {k lv : Nat} {sp2 : Sp} (hlv : 3 ≤ lv) (hk3 : k ≤ 3)
    (G_law_draw : Has P w K mg base CX0 "_law_draw" ["_law_deck_here", "_law_many"] 1 spDraw) (G_law_one : Has P w K mg base CX0 "_law_one" ["_law_deck_here", "_law_items"] 2 (spOne K))
    (G_law_marked_set : Has P w K mg base CX0 "_law_marked_set" ["_law_deck_here", "_law_marks_here"] 3 (spMkSet K)) (G_law_tree : Has P w K mg base CX0 "_law_tree" P_law_tree lv sp2) (hs : ∀ m, k = m + 1 → sp2 = spTree K m) :
    Has P w K mg base CX0 "_law_tree" P_law_tree (lv + 1) (spTree K k) := by
  refine D.has sc_law_tree (fun vs H Q E h => ?_) (fun f cdv A outer s H vs Q E hr h => ?_)
  · obtain ⟨d, c, mk, n, dp, m, rfl, _⟩ := h
    rfl
  obtain ⟨d, c, mk, n, dp, m, rfl, hdp, Dk, hn, hM, hm, n1, n2, kk⟩ := h
  have n0 := Dk.n0
  have pc := prC_nn k
  have pz := prZ_le k
  have tc := trC_le k hk3
  refine ⟨_, (pss_cons (ps_set (i := 3) sc_law_tree.nd rfl (Or.inl rfl) (pe_lst pa_nil))
      (pss_cons (ps_for PassesOwn.never rfl (pi_range1 (by rfl) B.range (pa_cons (pe_op op_add pe_int (pe_f G_law_draw (hr.mono (by omega)) (by rfl) pass0 (pa_cons (pv 0) (pa_cons pe_int pa_nil)))) pa_nil)) (pg_name (i := 4) sc_law_tree.nd rfl (Or.inl rfl))
        (pss_cons (ps_set (i := 5) sc_law_tree.nd rfl (Or.inl rfl) (pe_f G_law_draw (hr.mono (by omega)) (by rfl) pass0 (pa_cons (pv 0) (pa_cons pe_int pa_nil))))
      (pss_one (ps_if (PW.pt (pw_and (pt_cmpR op_eq (pv 5) pe_int (nomark _)) (pw_and1 (pt_cmpR op_lt (pv 2) pe_int (nomark _))))) (pss_cons (ps_par (i := 6) (j := 7) (by rfl) sc_law_tree.nd rfl rfl (by decide) rfl rfl (pa_cons (pe_f G_law_tree (hr.mono (by omega)) (by rfl) pass0 (pa_cons (pv 0) (pa_cons (pv 1) (pa_cons (pe_op op_add (pv 2) pe_int) pa_nil)))) (pa_cons (pe_f G_law_tree (hr.mono (by omega)) (by rfl) pass0 (pa_cons (pv 0) (pa_cons (pv 1) (pa_cons (pe_op op_add (pv 2) pe_int) pa_nil)))) pa_nil)) (by rfl))
      (pss_cons (ps_set (i := 8) sc_law_tree.nd rfl (Or.inl rfl) (pe_f G_law_one (hr.mono (by omega)) (by rfl) pass0 (pa_cons (pv 0) (pa_cons (pe_lst (pa_cons (pe_tup (pa_cons pe_str (pa_cons pe_str pa_nil))) (pa_cons (pe_tup (pa_cons pe_str (pa_cons pe_str pa_nil))) (pa_cons (pe_tup (pa_cons pe_str (pa_cons pe_str (pa_cons pe_int pa_nil)))) pa_nil)))) pa_nil))))
      (pss_one (ps_expr (pe_bm PySem.F.plainAttrs_list PySem.F.slot_list_append PySem.F.type_list_append mt_append (pv 3) (pa_cons (pe_tup (pa_cons pe_str (pa_cons (pv 8) (pa_cons (pv 6) (pa_cons (pe_ifExp (pt_cmpR op_eq (pe_f G_law_draw (hr.mono (by omega)) (by rfl) pass0 (pa_cons (pv 0) (pa_cons pe_int pa_nil))) pe_int (nomark _)) (pv 7) (pe_tup pa_nil)) pa_nil))))) pa_nil))))))
        (pss_one (ps_if (PW.pt (pw_and (pt_cmpR op_eq (pv 5) pe_int (nomark _)) (pw_and1 (pt_cmpR op_lt (pv 2) pe_int (nomark _))))) (pss_one (ps_expr (pe_bm PySem.F.plainAttrs_list PySem.F.slot_list_append PySem.F.type_list_append mt_append (pv 3) (pa_cons (pe_tup (pa_cons pe_str (pa_cons (pe_f G_law_draw (hr.mono (by omega)) (by rfl) pass0 (pa_cons (pv 0) (pa_cons pe_int pa_nil))) (pa_cons (pe_f G_law_tree (hr.mono (by omega)) (by rfl) pass0 (pa_cons (pv 0) (pa_cons (pv 1) (pa_cons (pe_op op_add (pv 2) pe_int) pa_nil)))) pa_nil)))) pa_nil))))
        (pss_one (ps_if (PW.pt (pw_and (pt_cmpR op_lt (pv 5) pe_int (nomark _)) (pw_and1 (pt_cmpR op_lt (pe_callB c_len (by rfl) B.len (by decide +kernel) (pa_cons (pv 1) pa_nil)) pe_int (nomark _))))) (pss_one (ps_expr (pe_bm PySem.F.plainAttrs_list PySem.F.slot_list_append PySem.F.type_list_append mt_append (pv 3) (pa_cons (pe_f G_law_marked_set (hr.mono (by omega)) (by rfl) pass0 (pa_cons (pv 0) (pa_cons (pv 1) pa_nil))) pa_nil))))
        (pss_one (ps_expr (pe_bm PySem.F.plainAttrs_list PySem.F.slot_list_append PySem.F.type_list_append mt_append (pv 3) (pa_cons (pe_f G_law_one (hr.mono (by omega)) (by rfl) pass0 (pa_cons (pv 0) (pa_cons (pe_lst (pa_cons (pe_tup (pa_cons pe_str (pa_cons pe_str pa_nil))) (pa_cons (pe_tup (pa_cons pe_str (pa_cons pe_str pa_nil))) (pa_cons (pe_tup (pa_cons pe_str (pa_cons pe_str pa_nil))) pa_nil)))) pa_nil))) pa_nil))))))))))))
      (pss_one (ps_ret (pe_callTy c_tup (by rfl) B.tuple (by decide +kernel) (pa_cons (pv 3) pa_nil)))))), ?_⟩
  walk_at "rd"
  refine ⟨by decide, fun fa hfa => ?_⟩
  have k0 : Kp [] H (upd H fa (.lst [])) := Kp.nil.new hfa
  have hfa0 : upd H fa (.lst []) fa = some (.lst []) := upd_same
  have D0 := Dk.kp k0 (by simp) (by simp)
  have M0 := hM.kp k0 (by simp)
  have ff := Dk.fresh hfa
  have fm : fa ≠ mk := Ne.symm (ne_of_none hM hfa)
  have kk0 : Kp [d, c, mk] H (upd H fa (.lst [])) := k0.sub (Dk.ls3 hM) (by simp)
  generalize upd H fa (.lst []) = H0 at k0 hfa0 D0 M0 kk0 ⊢
  walk_at "rd"
  refine spDraw.use D0 (by omega) (by omega) (by omega) fun H1 u u0 u1 D1 k1 => ?_
  have M1 := M0.kp k1 (by simp [n1, n2])
  have hf1 := k1.get hfa0 (by simp [ff.1, ff.2])
  have kk1 : Kp [d, c, mk] H H1 := kk0.trans (k1.sub (D0.ls3 M0) (by simp))
  walk_at "rd"
  refine r_ForR (fun i σ H' => ∃ (n' : Int) (m' : Nat) (b : List Sm) (vs : List V) (y4 y5 y6 y7 y8 : Option V), σ = [some (.ref d), some (.ref mk), some (.int dp), some (.ref fa), y4, y5, y6, y7, y8] ∧ Deck H' d c n' ∧ n ≤ n' ∧ n' ≤ n + 1 + i * (2 * prC k + 6) ∧ Kp [d, c, mk] H H' ∧ MkS H' mk m' ∧ (m' = m ∨ m' ≤ 90) ∧
      NwL m m' (labs b) ∧ H' fa = some (.lst vs) ∧ DtL K H' vs (Sm.ds b) ∧ b.length = i ∧ dszs (Sm.ds b) ≤ i * (2 * prZ k + 110)) (by omega) (by omega)
    ⟨n + 1, m, [], [], _, _, _, _, _, rfl, D1, by omega, by omega, kk1, M1, .inl rfl, by rw [labs_nil]; exact NwL.nil (Nat.le_refl _), hf1, by rw [Sm.ds]; exact DtL.nil, rfl, by rw [Sm.ds, dszs]; exact Nat.zero_le _⟩ ?_ ?_
  · rintro i σ Ha hi ⟨na, ma, b, vs, y4, y5, y6, y7, y8, rfl, Da, hna0, hna, ka, Ma, hma, hnw, hfa1, hvs, hbl, hbz⟩
    have hi3 : i < 3 := by omega
    clear D0 M0 kk0 D1 M1 kk1 hf1 k0 k1
    walk_at "rd"
    have hq : (i : Int) * (2 * prC k + 6) ≤ 2 * (2 * prC k + 6) := Int.mul_le_mul_of_nonneg_right (by omega) (by omega)
    have hX1 : ((i + 1 : Nat) : Int) * (2 * prC k + 6) = (i : Int) * (2 * prC k + 6) + (2 * prC k + 6) := by
      rw [Int.natCast_add, Int.add_mul]
      omega
    have hZ1 : (i + 1) * (2 * prZ k + 110) = i * (2 * prZ k + 110) + (2 * prZ k + 110) := by rw [Nat.add_mul, Nat.one_mul]
    have fin : ∀ (H' : Hp) (n' : Int) (m' : Nat) (s : Sm) (v : V) (y4 y5 y6 y7 y8 : Option V), Deck H' d c n' → na ≤ n' → n' ≤ na + (2 * prC k + 6) → Kp [d, c, mk] Ha H' → MkS H' mk m' → (m' = ma ∨ m' ≤ 90) → NwL ma m' (labs [s]) → Dt K H' v s.d → dsz s.d ≤ 2 * prZ k + 110 →
        ∃ (n' : Int) (m' : Nat) (b2 : List Sm) (vs2 : List V) (z4 z5 z6 z7 z8 : Option V), [some (.ref d), some (.ref mk), some (.int dp), some (.ref fa), y4, y5, y6, y7, y8] = [some (.ref d), some (.ref mk), some (.int dp), some (.ref fa), z4, z5, z6, z7, z8] ∧ Deck (upd H' fa (.lst (vs ++ [v]))) d c n' ∧ n ≤ n' ∧ n' ≤ n + 1 + ((i + 1 : Nat) : Int) * (2 * prC k + 6) ∧ Kp [d, c, mk] H (upd H' fa (.lst (vs ++ [v]))) ∧ MkS (upd H' fa (.lst (vs ++ [v]))) mk m' ∧ (m' = m ∨ m' ≤ 90) ∧
        NwL m m' (labs b2) ∧ upd H' fa (.lst (vs ++ [v])) fa = some (.lst vs2) ∧ DtL K (upd H' fa (.lst (vs ++ [v]))) vs2 (Sm.ds b2) ∧ b2.length = i + 1 ∧ dszs (Sm.ds b2) ≤ (i + 1) * (2 * prZ k + 110) := fun H' n' m' s v y4 y5 y6 y7 y8 D' q1 q2 k' M' q3 q4 q5 q6 => by
      have hf' := k'.get hfa1 (by simp [ff.1, ff.2, fm])
      have kf : Kp [fa] H' (upd H' fa (.lst (vs ++ [v]))) := kpW hf'
      have e : Sm.ds [s] = [s.d] := by rw [Sm.ds, Sm.ds]
      refine ⟨n', m', b ++ [s], vs ++ [v], _, _, _, _, _, rfl, D'.kp kf (by simp [Ne.symm ff.1]) (by simp [Ne.symm ff.2]), by omega, by rw [hX1]; omega, (ka.trans k').own hfa, M'.kp kf (by simp [Ne.symm fm]), by omega, ?_, upd_same, ?_, by rw [List.length_append, hbl]; rfl, ?_⟩
      · rw [labs_app]
        exact hnw.app q4 (by have := hnw.le; omega)
      · rw [Sm.ds_app, e]
        exact ((hvs.kp k').kp kf).app (DtL.cons (q5.kp kf) DtL.nil)
      · rw [Sm.ds_app, e, dszs_app, dszs, dszs, hZ1]
        omega
    refine spDraw.use Da (by omega) (by omega) (by omega) fun Hb way w0 w1 Db kb => ?_
    have Mb := Ma.kp kb (by simp [n1, n2])
    have hfb := kb.get hfa1 (by simp [ff.1, ff.2])
    have kab : Kp [d, c, mk] Ha Hb := kb.sub (Da.ls3 Ma) (by simp)
    have hvl := hvs.len
    rw [Sm.ds_map, List.length_map] at hvl
    walk_at "rd"
    refine ite2 (fun cw => ?_) (fun cw => ?_)
    · rw [Bool.and_eq_true, decide_eq_true_eq, decide_eq_true_eq] at cw
      obtain ⟨j, rfl⟩ : ∃ j, k = j + 1 := ⟨k - 1, by omega⟩
      obtain rfl := hs j rfl
      have pe : prC (j + 1) = trC j := rfl
      have pz2 : prZ (j + 1) = trZ j := rfl
      rw [pe, pz2] at fin
      rw [pe] at hq hX1 hna pc
      walk_at "rd"
      refine ⟨d, c, mk, _, dp + 1, ma, rfl, by omega, Db, by omega, Mb, by omega, n1, n2, fun Hc vy y m1 nc Dc a1 a2 kc Mc am an hy _ hyz => ?_⟩
      walk_at "rd"
      refine ⟨d, c, mk, _, dp + 1, m1, rfl, by omega, Dc, by omega, Mc, by omega, n1, n2, fun Hd vz z m2 nd Dd b1 b2 kd Md bm bn hz _ hzz => ?_⟩
      have kad : Kp [d, c, mk] Ha Hd := (kab.trans kc).trans kd
      have hyd := hy.kp kd
      have anl := an.le
      have bnl := bn.le
      refine ⟨_, _, rfl, ?_⟩
      with_reducible refine r_seq ?_
      with_reducible refine r_asg ?_
      refine call_one (K := K) (M := []) (ds := TTE) Dd (by omega) rfl (Dd.ocM (Oc.nil0 (H := Hd))) ?a1 (by unfold TTE; simp) (by unfold TTE; simp) fun He x e he hx De ke => ?_
      case a1 =>
        unfold TTE
        walk_at "cw"
      obtain ⟨t, rfl, htz, htt⟩ := tte_ts he
      have hxt := hx.dt htt
      have Me := Md.kp ke (by simp [n1, n2])
      have kae : Kp [d, c, mk] Ha He := kad.trans (ke.sub (Dd.ls3 Md) (by simp))
      have hfe := kae.get hfa1 (by simp [ff.1, ff.2, fm])
      have hye := hyd.kp ke
      have hze := hz.kp ke
      walk_at "rd"
      refine spDraw.use De (by omega) (by omega) (by omega) fun Hf r r0 r1 Df kf => ?_
      have Mf := Me.kp kf (by simp [n1, n2])
      have kaf : Kp [d, c, mk] Ha Hf := kae.trans (kf.sub (De.ls3 Me) (by simp))
      have hff := kaf.get hfa1 (by simp [ff.1, ff.2, fm])
      have hxf := hxt.kp kf
      have hyf := hye.kp kf
      have hzf := hze.kp kf
      have dz : ∀ z' : List Sm, dszs (Sm.ds z') ≤ trZ j → dsz (Sm.ifs t y z').d ≤ 2 * trZ j + 110 := fun z' q => by
        rw [Sm.d, dsz, dszs, dszs, dszs, dszs, dszs, dsz, dsz, dsz]
        have : ("if" : Str).length = 2 := by decide +kernel
        omega
      walk_at "rd"
      refine ifd (fun cr => ?_) (fun cr => ?_)
      · walk_at "rd"
        refine ⟨by walk_at "sz", fun p hp => ?_⟩
        have kp : Kp [] Hf (upd Hf p (.tup [.str "if", x, vy, vz])) := Kp.nil.new hp
        have hfp := kp.get hff (by simp)
        walk_at "rd"
        rotate_left
        · rw [sizeLine_eq]
          omega
        refine fin _ _ m2 (.ifs t y z) _ _ _ _ _ _ (Df.kp kp (by simp) (by simp)) (by omega) (by omega) (kaf.new hp) (Mf.kp kp (by simp)) (by omega) ?_ ?_ (dz z hzz)
        · rw [labs_if]
          exact (an.app bn (by omega)).none
        · rw [Sm.d]
          exact (DtL.cons (.str _) (DtL.cons (hxf.kp kp) (DtL.cons (hyf.kp kp) (DtL.cons (hzf.kp kp) DtL.nil)))).tup upd_same
      · walk_at "rd"
        refine ⟨by decide, fun q hq => ?_⟩
        have kq : Kp [] Hf (upd Hf q (.tup [])) := Kp.nil.new hq
        have hqq : Dt K (upd Hf q (.tup [])) (.ref q) (.tuple (Sm.ds [])) := by
          rw [Sm.ds]
          exact DtL.nil.tup upd_same
        have Dq := Df.kp kq (by simp) (by simp)
        have Mq := Mf.kp kq (by simp)
        have kaq := kaf.new (o := .tup []) hq
        have hfq := kq.get hff (by simp)
        have hxq := hxf.kp kq
        have hyq := hyf.kp kq
        generalize upd Hf q (.tup []) = Hq at kq hqq Dq Mq kaq hfq hxq hyq ⊢
        walk_at "rd"
        refine ⟨by walk_at "sz", fun p hp => ?_⟩
        have kp : Kp [] Hq (upd Hq p (.tup [.str "if", x, vy, .ref q])) := Kp.nil.new hp
        have hfp := kp.get hfq (by simp)
        walk_at "rd"
        rotate_left
        · rw [sizeLine_eq]
          omega
        refine fin _ _ m2 (.ifs t y []) _ _ _ _ _ _ (Dq.kp kp (by simp) (by simp)) (by omega) (by omega) (kaq.new hp) (Mq.kp kp (by simp)) (by omega) ?_ ?_ (dz [] (by rw [Sm.ds, dszs]; omega))
        · rw [labs_if, labs_nil, List.append_nil]
          exact (an.up bnl).none
        · rw [Sm.d]
          exact (DtL.cons (.str _) (DtL.cons (hxq.kp kp) (DtL.cons (hyq.kp kp) (DtL.cons (hqq.kp kp) DtL.nil)))).tup upd_same
    · walk_at "rd"
      refine ite2 (fun cw2 => ?_) (fun cw2 => ?_)
      · rw [Bool.and_eq_true, decide_eq_true_eq, decide_eq_true_eq] at cw2
        obtain ⟨j, rfl⟩ : ∃ j, k = j + 1 := ⟨k - 1, by omega⟩
        obtain rfl := hs j rfl
        have pe : prC (j + 1) = trC j := rfl
        have pz2 : prZ (j + 1) = trZ j := rfl
        rw [pe, pz2] at fin
        rw [pe] at hq hX1 hna pc
        walk_at "rd"
        refine spDraw.use Db (by omega) (by omega) (by omega) fun Hc r r0 r1 Dc kc => ?_
        have Mc := Mb.kp kc (by simp [n1, n2])
        have kac : Kp [d, c, mk] Ha Hc := kab.trans (kc.sub (Db.ls3 Mb) (by simp))
        walk_at "rd"
        refine ⟨d, c, mk, _, dp + 1, ma, rfl, by omega, Dc, by omega, Mc, by omega, n1, n2, fun Hd vy y m1 nd Dd a1 a2 kd Md am an hy _ hyz => ?_⟩
        have kad := kac.trans kd
        have hfd := kad.get hfa1 (by simp [ff.1, ff.2, fm])
        walk_at "rd"
        refine ⟨by walk_at "sz", fun p hp => ?_⟩
        have kp : Kp [] Hd (upd Hd p (.tup [.str "repeat", .int r, vy])) := Kp.nil.new hp
        have hfp := kp.get hfd (by simp)
        walk_at "rd"
        rotate_left
        · rw [sizeLine_eq]
          omega
        refine fin _ _ m1 (.rep r y) _ _ _ _ _ _ (Dd.kp kp (by simp) (by simp)) (by omega) (by omega) (kad.new hp) (Md.kp kp (by simp)) (by omega) ?_ ?_ ?_
        · rw [labs_rep]
          exact an.none
        · rw [Sm.d]
          exact (DtL.cons (.str _) (DtL.cons (.int _) (DtL.cons (hy.kp kp) DtL.nil))).tup upd_same
        · rw [Sm.d, dsz, dszs, dszs, dszs, dszs, dsz, dsz, dsz]
          have : ("repeat" : Str).length = 6 := by decide +kernel
          omega
      · walk_at "rd"
        rw [mksV_len]
        refine ite2 (fun cw3 => ?_) (fun cw3 => ?_)
        · rw [Bool.and_eq_true, decide_eq_true_eq, decide_eq_true_eq] at cw3
          walk_at "rd"
          refine ⟨d, c, mk, _, ma, rfl, Db, by omega, Mb, by omega, n1, n2, fun Hc v e nc Dc a1 a2 kc Mc hv hvd => ?_⟩
          have kac := kab.trans kc
          have hfc := kac.get hfa1 (by simp [ff.1, ff.2, fm])
          walk_at "rd"
          rotate_left
          · rw [sizeLine_eq]
            omega
          refine fin Hc _ (ma + 1) (.pl (.set (mkN ma) e)) v _ _ _ _ _ Dc (by omega) (by omega) kac Mc (by omega) ?_ hv ?_
          · rw [labs_pl]
            exact NwL.one
          · have q := (Pl.vd.dok hvd).sz
            rw [Sm.d]
            omega
        · with_reducible refine r_drop ?_
          with_reducible refine r_BM ?_
          with_reducible refine r_var rfl ?_
          refine r_tyL hfb ?_
          with_reducible refine r_cons ?_
          refine call_one (K := K) (M := []) (ds := TPE) Db (by omega) rfl (Db.ocM (Oc.nil0 (H := Hb))) ?a2 (by unfold TPE; simp) (by unfold TPE; simp) fun Hc x e he hx Dc kc => ?_
          case a2 =>
            unfold TPE
            walk_at "cw"
          obtain ⟨pl, rfl, hpz, hpt, hpl⟩ := tpe_pl he
          have hxt := hx.dt hpt
          have Mc := Mb.kp kc (by simp [n1, n2])
          have kac : Kp [d, c, mk] Ha Hc := kab.trans (kc.sub (Db.ls3 Mb) (by simp))
          have hfc := kac.get hfa1 (by simp [ff.1, ff.2, fm])
          walk_at "rd"
          rotate_left
          · rw [sizeLine_eq]
            omega
          refine fin Hc _ ma (.pl pl) x _ _ _ _ _ Dc (by omega) (by omega) kac Mc (.inl rfl) ?_ hxt (by omega)
          rw [labs_pl, hpl]
          exact (NwL.nil (Nat.le_refl _)).none
  · rintro σ Ha ⟨na, ma, b, vs, y4, y5, y6, y7, y8, rfl, Da, hna0, hna, ka, Ma, hma, hnw, hfa1, hvs, hbl, hbz⟩
    walk_at "rd"
    refine r_tupL (SqL.of hfa1) fun t ht => ?_
    have kt : Kp [] Ha (upd Ha t (.tup vs)) := Kp.nil.new ht
    have hu : ((1 + u).toNat : Int) ≤ 3 := by omega
    refine kk _ _ b ma na (Da.kp kt (by simp) (by simp)) hna0 ?_ (ka.new ht) (Ma.kp kt (by simp)) hma hnw ((hvs.kp kt).tup upd_same) ?_ ?_
    · have q := Int.mul_le_mul_of_nonneg_right hu (show 0 ≤ 2 * prC k + 6 by omega)
      omega
    · intro e
      rw [e] at hbl
      have hbl : (0 : Nat) = (1 + u).toNat := hbl
      omega
    · have q := Nat.mul_le_mul_right (2 * prZ k + 110) (show (1 + u).toNat ≤ 3 by omega)
      omega
theorem ok_law_setters (D : Df K mg "_law_setters" s_law_setters P_law_setters) (B : Blt mg) {lv : Nat} (hlv : 1 ≤ lv) (G_law_rows : Has P w K mg base CX0 "_law_rows" ["_law_block_here"] lv (spRowsB K 4)) :
    Has P w K mg base CX0 "_law_setters" P_law_setters (lv + 1) (spSetters K) := by
  refine D.has sc_law_setters (fun vs H Q E h => ?_) (fun f cdv A outer s H vs Q E hr h => ?_)
  · obtain ⟨v, b, rfl, _⟩ := h
    rfl
  obtain ⟨v, b, rfl, hd, hv, hz, k⟩ := h
  refine ⟨_, (pss_cons (ps_set (i := 1) sc_law_setters.nd rfl (Or.inr rfl) (pe_f G_law_rows (hr.mono (by omega)) (by rfl) pass0 (pa_cons (pv 0) pa_nil)))
      (pss_one (ps_ret (pe_lc (own := [("_law_at", 2)]) (g := gName 2) (by rfl) sc_law_setters.nd (pi_range1 (by rfl) B.range (pa_cons (pe_callB c_len (by rfl) B.len (by decide +kernel) (pa_cons (pv 1) pa_nil)) pa_nil)) (blkOk_by (own := [("_law_at", 2)]) (N := N_law_setters) (sc := defScope s_law_setters) (by decide +kernel)) (fun _ _ _ _ _ => (pg_name (i := 2) sc_law_setters.nd rfl (Or.inl rfl))) (fun _ _ _ _ _ => (pts_one (pt_cmpR op_eq (pe_ix (ix_tupK (K := K) rfl) (pe_ix (ix_listK (K := K) rfl) (pv 1) (pv 2) (fun _ _ => rfl)) pe_int (fun _ _ => rfl)) pe_str (nomark _)))) (fun _ _ _ _ _ => (pv 2)))))), ?_⟩
  walk_at "rd"
  refine ⟨v, b, rfl, hd, hv, by omega, fun H1 q1 ws hq1 k1 hq1' hws => ?_⟩
  have hwl : ws.length = Sm.sizes b := by rw [hws.len, Sm.ds_map, List.length_map, Sm.als_len]
  walk_at "rd"
  rw [hwl]
  refine lc_readers (n := Sm.sizes b) (fun j => isSetS (stAt b j)) (by omega) (fun i H' R hi k' hR => ?_) (fun i H' R hR => ?_) (fun _ => rfl) fun q2 H2 hq2 k2 h2 => ?_
  · have hst := stAt_d hi
    obtain ⟨wv, hwv⟩ : ∃ wv, ws[i]? = some wv := ⟨ws[i]'(by rw [hwl]; exact hi), List.getElem?_eq_getElem _⟩
    have hwd := (hws.kp0 k').all i wv (stAt b i).d hwv (by rw [Sm.ds_map, List.getElem?_map, hst]; rfl)
    have hatw : atI ws ((i : Nat) : Int) = some wv := atI_nat hwv
    have hvd := als_vd b 4 hv (by omega) _ (List.mem_of_getElem? hst)
    obtain ⟨ar, ys, rfl, hTr, _⟩ := hwd.head hvd.is.1
    have hat : atI (V.str (headS (stAt b i).d) :: ys) 0 = some (V.str (headS (stAt b i).d)) := at_nn (Int.le_refl 0) rfl
    have hq := k'.get hq1' (by simp)
    walk_at "rd"
    have e0 : decide (V.str (headS (stAt b i).d) = V.str "set") = isSetS (stAt b i) := decide_eq_decide.mpr ⟨fun e => by injection e, fun e => by rw [e]⟩
    rw [e0]
    exact hR _ Kp.nil
  · walk_at "rd"
    exact hR
  exact k _ q2 (k1.freeM Ms.nil hq2) (k1.trans k2) h2
theorem ok_law_marked (D : Df K mg "_law_marked" s_law_marked P_law_marked) (B : Blt mg) (Gstatement_at : Has P w K mg base CX0 "statement_at" ["program", "place"] 4 (spStAt K)) :
    Has P w K mg base CX0 "_law_marked" P_law_marked 5 (spMarked K) := by
  refine D.has sc_law_marked (fun vs H Q E h => ?_) (fun f cdv A outer s H vs Q E hr h => ?_)
  · obtain ⟨t, f, w, b, fx, m, rfl, _⟩ := h
    rfl
  obtain ⟨t, f1, w1, b, fx, m, rfl, hT, hB, hO, k⟩ := h
  have hz := hB.vp.size
  have hfl := hB.len
  have hsq := hB.sq
  have hat0 : atI [w1, V.ref f1] 0 = some w1 := at_nn (by decide) rfl
  have hat1 : atI [w1, V.ref f1] 1 = some (V.ref f1) := at_nn (by decide) rfl
  refine ⟨_, (pss_one (ps_ret (pe_callB cr_sortedS (by rfl) B.sorted (by decide +kernel) (pa_cons (pe_lc (own := [("_law_place", 1)]) (g := gName 1) (by rfl) sc_law_marked.nd (pi_tup (pe_ix ix_tup (pv 0) pe_int (fun _ _ => rfl))) (blkOk_by (own := [("_law_place", 1)]) (N := N_law_marked) (sc := defScope s_law_marked) (by decide +kernel)) (fun _ _ _ _ _ => (pg_name (i := 1) sc_law_marked.nd rfl (Or.inl rfl))) (fun _ _ _ _ _ => pts_nil) (fun _ _ _ _ _ => (pe_ix (ix_tupK (K := K) rfl) (pe_f Gstatement_at (hr.mono (by omega)) (by rfl) pass0 (pa_cons (pe_ix (ix_tupK (K := K) rfl) (pv 0) pe_int (fun _ _ => rfl)) (pa_cons (pv 1) pa_nil))) pe_int (fun _ _ => rfl)))) pa_nil)))), ?_⟩
  walk_at "rd"
  refine r_LcT hsq fun p hp => ⟨fun i H' => Kp [] H H' ∧ H' p = some (.lst ((nmsL (labs b) (fx.take i)).map V.str)), ⟨Kp.nil.new hp, upd_same⟩, fun i H' ⟨q, _⟩ => sqT_kp q hsq, ?_, ?_⟩
  · rintro i x H1 hx ⟨k1, hp1⟩
    rw [List.getElem?_map] at hx
    obtain ⟨j, hj, rfl⟩ := Option.map_eq_some_iff.mp hx
    have hil : i < fx.length := (List.getElem?_eq_some_iff.mp hj).1
    obtain ⟨h0, x, hx⟩ := hO.st j (List.mem_of_getElem? hj)
    have hjl : j.toNat < Sm.sizes b := by
      have q := (List.getElem?_eq_some_iff.mp hx).1
      rwa [labs_len] at q
    have hxl := labs_at hjl
    rw [hx] at hxl
    obtain ⟨e, he⟩ := lab_set (Option.some.inj hxl).symm
    have hT1 := sqT_kp k1 hT
    obtain ⟨jn, rfl⟩ : ∃ jn : Nat, j = (jn : Int) := ⟨j.toNat, by omega⟩
    have ej : ((jn : Nat) : Int).toNat = jn := by omega
    rw [ej] at hx hjl he
    walk_at "rd"
    refine ⟨w1, b, jn, rfl, (hB.kp k1).dw, hB.vp.b4, hz, hjl, fun H2 r k2 hr => ?_⟩
    rw [he, Sm.d] at hr
    obtain ⟨a, us, rfl, hU, hL⟩ := hr.items
    obtain ⟨u0, us, rfl, hu0, hL⟩ := hL.inv
    obtain ⟨u1, us, rfl, hu1, hL⟩ := hL.inv
    obtain rfl := hu1.isStr
    have hat3 : atI (u0 :: V.str x :: us) 1 = some (V.str x) := at_nn (by decide) rfl
    have hp2 := k2.get hp1 (by simp)
    have htk : fx.take (i + 1) = fx.take i ++ [((jn : Nat) : Int)] := by rw [List.take_add_one, hj]; rfl
    walk_at "rd"
    refine r_LcEnd hp2 (by unfold nmsL; rw [List.length_map, List.length_map, List.length_take, sizeLine_eq]; omega) ⟨(k1.trans k2).own hp, ?_⟩
    rw [upd_same, htk]
    unfold nmsL
    rw [List.map_append, List.map_append, List.map_singleton, List.map_singleton, nm_at (i := ((jn : Nat) : Int)) (x := x) (by rw [ej]; exact hx)]
  · rintro H1 ⟨k1, hp1⟩
    rw [List.length_map, List.take_length] at hp1
    walk_at "rd"
    refine ⟨p, nmsL (labs b) fx, rfl, SqL.of hp1, by unfold nmsL; rw [List.length_map]; omega, fun ys q hpm hso hq => ?_⟩
    exact k _ q ys (k1.freeM Ms.nil hq) (k1.new hq) upd_same hpm hso
theorem ok_law_marks (D : Df K mg "_law_marks" s_law_marks P_law_marks) (B : Blt mg) {lv : Nat} (hlv : 1 ≤ lv) (G_law_rows : Has P w K mg base CX0 "_law_rows" ["_law_block_here"] lv (spRowsB K 4)) :
    Has P w K mg base CX0 "_law_marks" P_law_marks (lv + 1) (spMarks K) := by
  refine D.has sc_law_marks (fun vs H Q E h => ?_) (fun f cdv A outer s H vs Q E hr h => ?_)
  · obtain ⟨u, s, rfl, _⟩ := h
    rfl
  obtain ⟨u, st, rfl, hd, hv, hz, k⟩ := h
  refine ⟨_, (pss_one (ps_ret (pe_lc (own := [("_law_row", 1)]) (g := gName 1) (by rfl) sc_law_marks.nd (pi_list (pe_f G_law_rows (hr.mono (by omega)) (by rfl) pass0 (pa_cons (pe_tup (pa_cons (pv 0) pa_nil)) pa_nil))) (blkOk_by (own := [("_law_row", 1)]) (N := N_law_marks) (sc := defScope s_law_marks) (by decide +kernel)) (fun _ _ _ _ _ => (pg_name (i := 1) sc_law_marks.nd rfl (Or.inl rfl))) (fun _ _ _ _ _ => (pts_one (pt_cmpR op_eq (pe_ix (ix_tupK (K := K) rfl) (pv 1) pe_int (fun _ _ => rfl)) pe_str (nomark _)))) (fun _ _ _ _ _ => (pe_ix (ix_tupK (K := K) rfl) (pv 1) pe_int (fun _ _ => rfl)))))), ?_⟩
  walk_at "rd"
  refine ⟨by walk_at "sz", fun p hp => ?_⟩
  have k1 : Kp [] H (upd H p (.tup [u])) := Kp.nil.new hp
  have e1 : Sm.ds [st] = [st.d] := by rw [Sm.ds, Sm.ds]
  have hd1 : Dw [] K (upd H p (.tup [u])) (.ref p) (.tuple (Sm.ds [st])) := by
    rw [e1]
    exact DwL.tp (SqT.of upd_same) (DwL.cons (hd.kp0 k1) DwL.nil)
  generalize upd H p (.tup [u]) = H1 at k1 hd1 ⊢
  walk_at "rd"
  have hv4 : VdB 4 [st] := fun s hs => by rw [List.mem_singleton.mp hs]; exact hv
  refine ⟨_, [st], rfl, hd1, hv4, by rw [Sm.sizes, Sm.sizes]; omega, fun H2 q1 ws hq1 k2 hq1' hws => ?_⟩
  have ea : Sm.als [st] = Sm.al st := by rw [Sm.als, Sm.als, List.append_nil]
  rw [ea] at hws
  have hwl : ws.length = (Sm.al st).length := by rw [hws.len, Sm.ds_map, List.length_map]
  have hal := Sm.al_len st
  refine r_LcL (SqL.of hq1') fun q hq => ⟨fun i H' => Kp [] H2 H' ∧ H' q = some (.lst ((((Sm.al st).take i).map labS).filterMap id |>.map V.str)), ⟨Kp.nil.new hq, upd_same⟩, fun i H' ⟨z, _⟩ => SqL.of (z.get hq1' (by simp)), ?_, ?_⟩
  · rintro i x H3 hx ⟨k3, hq3⟩
    have hil : i < ws.length := (List.getElem?_eq_some_iff.mp hx).1
    obtain ⟨s, hs⟩ : ∃ s, (Sm.al st)[i]? = some s := ⟨_, List.getElem?_eq_getElem (by omega)⟩
    have hsd : Dw [] K H3 x s.d := (hws.all i x s.d hx (by rw [Sm.ds_map, List.getElem?_map, hs]; rfl)).kp0 k3
    have hvd := als_vd [st] 4 hv4 (Nat.le_refl 4) s (by rw [ea]; exact List.mem_of_getElem? hs)
    have htk : (Sm.al st).take (i + 1) = (Sm.al st).take i ++ [s] := by rw [List.take_add_one, hs]; rfl
    obtain ⟨ar, ys, rfl, hTr, hL⟩ := hsd.head hvd.is.1
    have hat : atI (V.str (headS s.d) :: ys) 0 = some (V.str (headS s.d)) := at_nn (Int.le_refl 0) rfl
    walk_at "rd"
    have e0 : decide (V.str (headS s.d) = V.str "set") = isSetS s := decide_eq_decide.mpr ⟨fun e => by injection e, fun e => by rw [e]⟩
    rw [e0, set_lab]
    cases hlb : labS s with
    | none =>
      refine iteF ?_
      refine ⟨k3, ?_⟩
      rw [htk, List.map_append, List.filterMap_append]
      have e2 : ([s].map labS).filterMap id = [] := by rw [List.map_singleton, hlb]; rfl
      rw [e2, List.append_nil]
      exact hq3
    | some nm =>
      refine iteT ?_
      obtain ⟨e, rfl⟩ := lab_set hlb
      clear hTr hat hL
      rw [Sm.d] at hsd
      obtain ⟨a2, us, ea2, hU, hL2⟩ := hsd.items
      injection ea2 with ea2
      subst ea2
      obtain ⟨u0, us, rfl, hu0, hL2⟩ := hL2.inv
      obtain ⟨u1, us, rfl, hu1, hL2⟩ := hL2.inv
      obtain rfl := hu1.isStr
      have hat3 : atI (u0 :: V.str nm :: us) 1 = some (V.str nm) := at_nn (by decide) rfl
      walk_at "rd"
      refine r_LcEnd hq3 ?_ ⟨k3.own hq, ?_⟩
      · have q1 := List.length_filterMap_le id (((Sm.al st).take i).map labS)
        rw [List.length_map, List.length_take] at q1
        rw [List.length_map, sizeLine_eq]
        omega
      · rw [upd_same, htk, List.map_append, List.filterMap_append, List.map_append]
        rfl
  · rintro H3 ⟨k3, hq3⟩
    rw [hwl, List.take_length] at hq3
    walk_at "rd"
    exact k _ q ((k1.trans k2).freeM Ms.nil hq) ((k1.trans k2).trans k3) hq3
theorem ok_law_step {C : Addr} {A : ErA} (D : Df K mg "_law_step" s_law_step P_law_step) (B : Blt mg) (T : BnT K C) {lv : Nat} (hlv : 17 ≤ lv)
    (G_law_draw : Has P w K mg base CX0 "_law_draw" ["_law_deck_here", "_law_many"] 1 spDraw) (G_law_one : Has P w K mg base CX0 "_law_one" ["_law_deck_here", "_law_items"] 2 (spOne K))
    (G_law_rows : Has P w K mg base CX0 "_law_rows" ["_law_block_here"] lv (spRowsB K 4)) (G_law_tree : Has P w K mg base CX0 "_law_tree" ["_law_deck_here", "_law_marks_here", "_law_depth"] lv (spTree K 1)) (G_law_setters : Has P w K mg base CX0 "_law_setters" ["_law_program_here"] lv (spSetters K))
    (Gprogram_error : Has P w K mg base CX0 "program_error" ["value"] lv (spPerr K)) (G_law_marked_set : Has P w K mg base CX0 "_law_marked_set" ["_law_deck_here", "_law_marks_here"] 3 (spMkSet K)) (G_law_marks : Has P w K mg base CX0 "_law_marks" ["_law_statement_here"] lv (spMarks K))
    (GB_add : HasM P w K mg base (L2.CX P w) C "add" ["self", "statement"] 17 (spEdM K A C "add")) (GB_drop : HasM P w K mg base (L2.CX P w) C "drop" ["self", "place"] 17 (spEdM K A C "drop")) (GB_change : HasM P w K mg base (L2.CX P w) C "change" ["self", "place", "statement"] 17 (spEdM K A C "change"))
    (GB_hold : HasM P w K mg base (L2.CX P w) C "hold" ["self", "place"] 17 (spEdM K A C "hold")) (GB_free : HasM P w K mg base (L2.CX P w) C "free" ["self", "place"] 17 (spEdM K A C "free")) :
    Has P w K mg base CX0 "_law_step" P_law_step (lv + 1) (spStep K C) := by
  refine D.has sc_law_step (fun vs H Q E h => ?_) (fun f cdv A0 outer s H vs Q E hr h => ?_)
  · obtain ⟨d, c, mk, pn, bo, dx, l, un, n, m, x0, xs, us, ss, rfl, _⟩ := h
    rfl
  obtain ⟨d, c, mk, pn, bo, dx, l, un, n, m, x0, xs, us, ss, rfl, Dk, hn, hM, hm, n1, n2, hB, hx, hl, hu, hP, hpn, hO, hPm, k⟩ := h
  have n0 := Dk.n0
  have cC := T.cl
  obtain ⟨v9, w9, f9, g9, h9, ys9, zs9, hI9, hL9, hU9, hR9, hZ9, hG9, hS0, hS9⟩ := id hB.ex
  have hz := hS9.vp.size
  refine ⟨_, (pss_cons (ps_asg (pe_tup (pa_cons (pe_fld (pv 1) rfl) (pa_cons (pe_f G_law_rows (hr.mono (by omega)) (by rfl) pass0 (pa_cons (pe_fld (pv 1) rfl) pa_nil)) pa_nil))) (pg_tup rfl (pgs_cons (pg_name (i := 4) sc_law_step.nd rfl (Or.inl rfl)) (pgs_cons (pg_name (i := 5) sc_law_step.nd rfl (Or.inr rfl)) pgs_nil))))
      (pss_cons (ps_asg (pe_tup (pa_cons (pe_f G_law_draw (hr.mono (by omega)) (by rfl) pass0 (pa_cons (pv 0) (pa_cons pe_int pa_nil))) (pa_cons (pe_f G_law_draw (hr.mono (by omega)) (by rfl) pass0 (pa_cons (pv 0) (pa_cons (pe_callB (call_max2 rfl) (by rfl) B.max (by decide +kernel) (pa_cons pe_int (pa_cons (pe_callB c_len (by rfl) B.len (by decide +kernel) (pa_cons (pv 5) pa_nil)) pa_nil))) pa_nil))) pa_nil))) (pg_tup rfl (pgs_cons (pg_name (i := 6) sc_law_step.nd rfl (Or.inl rfl)) (pgs_cons (pg_name (i := 7) sc_law_step.nd rfl (Or.inr rfl)) pgs_nil))))
      (pss_cons (ps_par (i := 8) (j := 9) (by rfl) sc_law_step.nd rfl rfl (by decide) rfl rfl (pa_cons (pe_ix ix_tup (pe_f G_law_tree (hr.mono (by omega)) (by rfl) pass0 (pa_cons (pv 0) (pa_cons (pv 2) (pa_cons pe_int pa_nil)))) pe_int (fun _ _ => rfl)) (pa_cons (pe_f G_law_setters (hr.mono (by omega)) (by rfl) pass0 (pa_cons (pv 4) pa_nil)) pa_nil)) (by rfl))
      (pss_cons (ps_if (PW.pt (pw_and (pt_cmpR op_eq (pv 6) pe_int (nomark _)) (pw_and1 (pt_cmpR op_isN (pe_f Gprogram_error (hr.mono (by omega)) (by rfl) pass0 (pa_cons (pe_op op_catA (pv 4) (pe_tup (pa_cons (pv 8) pa_nil))) pa_nil)) pe_non (nomark _))))) (pss_one (ps_expr (pe_m GB_add cC (hr.mono (by omega)) passQ (pv 1) (pa_cons (pv 8) pa_nil))))
        (pss_one (ps_if (PW.pt (pw_and (pt_cmpR op_eq (pv 6) pe_int (nomark _)) (pw_and1 (pt_cmpR op_gt (pe_callB c_len (by rfl) B.len (by decide +kernel) (pa_cons (pv 5) pa_nil)) pe_int (nomark _))))) (pss_cons (ps_expr (pe_m GB_drop cC (hr.mono (by omega)) passQ (pv 1) (pa_cons (pv 7) pa_nil)))
      (pss_one (ps_setLc (i := 3) (own := [("_law_pin", 10)]) (g := gName 10) (by rfl) sc_law_step.nd rfl rfl (sw_true rfl rfl rfl (by decide +kernel)) (pi_list (pv 3)) (blkOk_by (own := [("_law_pin", 10)]) (N := N_law_step) (sc := defScope s_law_step) (by decide +kernel)) (fun _ _ _ _ _ => (pg_name (i := 10) sc_law_step.nd rfl (Or.inl rfl))) (fun _ _ _ _ _ => (pts_one (pt_cmpR (op_notinK (K := K) rfl) (pv 10) (pe_f G_law_marks (hr.mono (by omega)) (by rfl) pass0 (pa_cons (pe_ix (ix_listK (K := K) rfl) (pv 5) (pv 7) (fun _ _ => rfl)) pa_nil)) (by rfl)))) (fun _ _ _ _ _ => (pv 10)))))
        (pss_one (ps_if (PW.pt (pw_and (pt_cmpR op_eq (pv 6) pe_int (nomark _)) (pw_and (pt_cmpR (op_neNil hr.h64) (pv 5) (pe_lst pa_nil) (nomark _)) (pw_and1 (pt_cmpR op_notIn_seq (pe_ix ix_tup (pe_ix ix_list (pv 5) (pv 7) (fun _ _ => rfl)) pe_int (fun _ _ => rfl)) (pe_lst (pa_cons pe_str (pa_cons pe_str pa_nil))) (by rfl)))))) (pss_cons (ps_expr (pe_m GB_change cC (hr.mono (by omega)) passQ (pv 1) (pa_cons (pv 7) (pa_cons (pe_ifExp (pt_cmpR op_eq (pe_ix ix_tup (pe_ix ix_list (pv 5) (pv 7) (fun _ _ => rfl)) pe_int (fun _ _ => rfl)) pe_str (nomark _)) (pe_f G_law_marked_set (hr.mono (by omega)) (by rfl) pass0 (pa_cons (pv 0) (pa_cons (pv 2) pa_nil))) (pe_tup (pa_cons pe_str (pa_cons pe_str pa_nil)))) pa_nil))))
      (pss_one (ps_setLc (i := 3) (own := [("_law_pin", 10)]) (g := gName 10) (by rfl) sc_law_step.nd rfl rfl (sw_true rfl rfl rfl (by decide +kernel)) (pi_list (pv 3)) (blkOk_by (own := [("_law_pin", 10)]) (N := N_law_step) (sc := defScope s_law_step) (by decide +kernel)) (fun _ _ _ _ _ => (pg_name (i := 10) sc_law_step.nd rfl (Or.inl rfl))) (fun _ _ _ _ _ => (pts_one (pt_cmpR (op_notinK (K := K) rfl) (pv 10) (pe_f G_law_marks (hr.mono (by omega)) (by rfl) pass0 (pa_cons (pe_ix (ix_listK (K := K) rfl) (pv 5) (pv 7) (fun _ _ => rfl)) pa_nil)) (by rfl)))) (fun _ _ _ _ _ => (pv 10)))))
        (pss_one (ps_if (PW.pt (pw_and (pt_cmpR op_eq (pv 6) pe_int (nomark _)) (pw_and1 (pt_cmpR (op_neNil hr.h64) (pv 9) (pe_lst pa_nil) (nomark _))))) (pss_cons (ps_set (i := 7) sc_law_step.nd rfl (Or.inr rfl) (pe_f G_law_one (hr.mono (by omega)) (by rfl) pass0 (pa_cons (pv 0) (pa_cons (pv 9) pa_nil))))
      (pss_one (ps_if (pt_cmpR op_in_seq (pv 7) (pe_fld (pv 1) rfl) (by rfl)) (pss_cons (ps_expr (pe_m GB_free cC (hr.mono (by omega)) passQ (pv 1) (pa_cons (pv 7) pa_nil)))
      (pss_one (ps_setLc (i := 3) (own := [("_law_pin", 10)]) (g := gName 10) (by rfl) sc_law_step.nd rfl rfl (sw_true rfl rfl rfl (by decide +kernel)) (pi_list (pv 3)) (blkOk_by (own := [("_law_pin", 10)]) (N := N_law_step) (sc := defScope s_law_step) (by decide +kernel)) (fun _ _ _ _ _ => (pg_name (i := 10) sc_law_step.nd rfl (Or.inl rfl))) (fun _ _ _ _ _ => (pts_one (pt_cmpR op_ne (pv 10) (pe_ix (ix_tupK (K := K) rfl) (pe_ix (ix_listK (K := K) rfl) (pv 5) (pv 7) (fun _ _ => rfl)) pe_int (fun _ _ => rfl)) (nomark _)))) (fun _ _ _ _ _ => (pv 10)))))
        (pss_cons (ps_expr (pe_m GB_hold cC (hr.mono (by omega)) passQ (pv 1) (pa_cons (pv 7) pa_nil)))
      (pss_one (ps_set (i := 3) sc_law_step.nd rfl (Or.inl rfl) (pe_op op_cat (pv 3) (pe_lst (pa_cons (pe_ix ix_tup (pe_ix ix_list (pv 5) (pv 7) (fun _ _ => rfl)) pe_int (fun _ _ => rfl)) pa_nil)))))))))
        pss_nil)))))))
      (pss_one (ps_ret (pe_callB cr_sortedS (by rfl) B.sorted (by decide +kernel) (pa_cons (pv 3) pa_nil)))))))), ?_⟩
  walk_at "rd"
  refine r_Fld hI9 cC T.nP bn_getP ?_
  walk_at "rd"
  refine r_Fld hI9 cC T.nP bn_getP ?_
  walk_at "rd"
  generalize hcx : curX x0 xs = cx at hS9 hO hPm hz
  refine ⟨v9, cx.b, rfl, hS9.dw, hS9.vp.b4, by omega, fun H1 R ws hR k1 hR1 hws => ?_⟩
  have hwl : ws.length = Sm.sizes cx.b := by rw [hws.len, Sm.ds_map, List.length_map, Sm.als_len]
  walk_at "rd"
  refine ⟨by walk_at "sz", fun p1 hp1 => ?_⟩
  have k2 : Kp [] H1 (upd H1 p1 (.tup [v9, .ref R])) := Kp.nil.new hp1
  have hT1 : SqT K (upd H1 p1 (.tup [v9, .ref R])) p1 [v9, .ref R] := SqT.of upd_same
  have k12 := k1.trans k2
  have hR2 := k2.get hR1 (by simp)
  have hws2 := hws.kp0 k2
  have fR := Dk.fresh hR
  have fRm : R ≠ mk := Ne.symm (ne_of_none hM hR)
  generalize upd H1 p1 (.tup [v9, .ref R]) = H2 at hT1 k12 hR2 hws2 ⊢
  clear k1 k2 hR1 hws hp1
  walk_at "rd"
  have kk2 : Kp [d, c, mk] H H2 := k12.subM (ms3 Dk hM) (by simp)
  have D2 := Dk.kp k12 (by simp) (by simp)
  have M2 := hM.kp k12 (by simp)
  refine spDraw.use D2 (by omega) (by omega) (by omega) fun H3 way w0 w1 D3 k3 => ?_
  have M3 := M2.kp k3 (by simp [n1, n2])
  have kk3 : Kp [d, c, mk] H H3 := kk2.trans (k3.subM (ms3 D2 M2) (by simp))
  have hR3 := k3.get hR2 (by simp [fR])
  have hws3 := hws2.stms k3
  walk_at "rd"
  rw [hwl]
  refine ⟨_, _, rfl, ?_⟩
  have hmx : 1 ≤ (if ((Sm.sizes cx.b : Nat) : Int) > 1 then ((Sm.sizes cx.b : Nat) : Int) else 1) ∧ (if ((Sm.sizes cx.b : Nat) : Int) > 1 then ((Sm.sizes cx.b : Nat) : Int) else 1) ≤ 24 ∧ (1 ≤ Sm.sizes cx.b → (if ((Sm.sizes cx.b : Nat) : Int) > 1 then ((Sm.sizes cx.b : Nat) : Int) else 1) = (Sm.sizes cx.b : Int)) := by
    split <;> omega
  generalize (if ((Sm.sizes cx.b : Nat) : Int) > 1 then ((Sm.sizes cx.b : Nat) : Int) else 1) = mx at hmx
  walk_at "rd"
  refine spDraw.use D3 (by omega) (by omega) (by omega) fun H4 pl p0 p1' D4 k4 => ?_
  have M4 := M3.kp k4 (by simp [n1, n2])
  have kk4 : Kp [d, c, mk] H H4 := kk3.trans (k4.subM (ms3 D3 M3) (by simp))
  have hR4 := k4.get hR3 (by simp [fR])
  have hws4 := hws3.stms k4
  refine ⟨by walk_at "sz", fun p2 hp2 => ?_⟩
  have k5 : Kp [] H4 (upd H4 p2 (.tup [.int way, .int pl])) := Kp.nil.new hp2
  have hT2 : SqT K (upd H4 p2 (.tup [.int way, .int pl])) p2 [.int way, .int pl] := SqT.of upd_same
  have D5 := D4.kp k5 (by simp) (by simp)
  have M5 := M4.kp k5 (by simp)
  have kk5 := kk4.new (o := .tup [.int way, .int pl]) hp2
  have hR5 := k5.get hR4 (by simp)
  have hws5 := hws4.kp0 k5
  generalize upd H4 p2 (.tup [.int way, .int pl]) = H5 at hT2 D5 M5 kk5 hR5 hws5 ⊢
  clear k5 hp2 hR4 hws4 kk4 M4 D4 k4 hR3 hws3 kk3 M3 D3 k3 kk2 M2 D2 hR2 hws2 k12 hT1
  have t1 : trC 1 = 170 := rfl
  have t2 : trZ 1 = 2450 := rfl
  walk_at "rd"
  refine ⟨d, c, mk, _, 2, m, rfl, by omega, D5, by omega, M5, by omega, n1, n2, fun H6 nv tb m6 n6 D6 a1 a2 k6 M6 am an hnv hne hnz => ?_⟩
  obtain ⟨s0, tr, rfl⟩ : ∃ s0 tr, tb = s0 :: tr := by
    cases tb with
    | nil => exact absurd rfl hne
    | cons s0 tr => exact ⟨s0, tr, rfl⟩
  have an0 := an.head
  rw [Sm.ds, dszs] at hnz
  rw [Sm.ds] at hnv
  obtain ⟨at_, vs, rfl, hT6, hL6⟩ := (show Dw [] K H6 nv (.tuple (s0.d :: Sm.ds tr)) from hnv.dw).items
  obtain ⟨x, vr, rfl, hx6, _⟩ := hL6.inv
  have hat0 : atI (x :: vr) 0 = some x := at_nn (Int.le_refl 0) rfl
  have kk6 := kk5.trans k6
  have S6 := hS9.kpM kk6
  have hR6 := k6.get hR5 (by simp [fR, fRm])
  have hws6 := hws5.stms k6
  walk_at "rd"
  refine ⟨v9, cx.b, rfl, S6.dw, S6.vp.b4, by omega, fun H7 qs hqs k7 hqs7 => ?_⟩
  have fq := D6.fresh hqs
  have D7 := D6.kp k7 (by simp) (by simp)
  have M7 := M6.kp k7 (by simp)
  have kk7 : Kp [d, c, mk] H H7 := kk6.trans (k7.subM (ms3 D6 M6) (by simp))
  have S7 := S6.kp k7
  have hR7 := k7.get hR6 (by simp)
  have hws7 := hws6.kp0 k7
  have hx7 := hx6.kp0 k7
  have nI : bo ∉ [d, c, mk] := by
    obtain ⟨cs, hc, _⟩ := Dk.hc
    have e1 := lst_ne Dk.hd hI9
    have e2 := lst_ne hc hI9
    have e3 := lst_ne hM hI9
    rw [List.mem_singleton] at e1 e2 e3
    simp [Ne.symm e1, Ne.symm e2, Ne.symm e3]
  have B7 := hB.kp kk7 nI hl hu
  have P7 := kk7.get hP hpn
  have I7 := kk7.get hI9 nI
  have hssl : ss.length ≤ 24 := by
    have q := hPm.length_eq
    unfold nmsL at q
    rw [List.length_map] at q
    have := hS9.len
    omega
  clear k7 k6 hT6 hL6 hat0 kk6 S6 hR6 hws6 hx6 D6 M6 kk5 D5 M5 hR5 hws5 hT2 hqs hR
  refine ⟨_, _, rfl, ?_⟩
  have kJ : ∀ {H' : Hp}, Kp [d, c, mk] H H' → Kp [d, c, mk, bo] H H' := fun z => z.subM (ms4 Dk hM hI9) (by simp)
  have am6 := am
  with_reducible refine r_seqJ (fun σ H' => ∃ (pn' : Addr) (ss' : List Str) (m' : Nat) (n' : Int) (y7 y10 : Option V), σ = [some (.ref d), some (.ref bo), some (.ref mk), some (.ref pn'), some v9, some (.ref R), some (.int way), y7, some x, some (.ref qs), y10] ∧
      Deck H' d c n' ∧ n ≤ n' ∧ n' ≤ n + 2000 ∧ Kp [d, c, mk, bo] H H' ∧ MkS H' mk m' ∧ m ≤ m' ∧ (m' ≤ m + 1 ∨ m' ≤ 91) ∧ H' pn' = some (.lst (ss'.map V.str)) ∧ ss'.length ≤ 25 ∧
      (BnH K H' C bo dx l un x0 xs us ∨ ∃ (l2 un2 : Addr) (z : HsT), H l2 = none ∧ H un2 = none ∧ BnH K H' C bo dx l2 un2 x0 (xs ++ [z]) [] ∧ OkL m' (labs z.b) z.fx ∧ ss'.Perm (nmsL (labs z.b) z.fx))) (fun nx' kn => ?_) ?_
  · have aml := an.le
    have ms7 := ms4 D7 M7 I7
    have stay : ∀ {H9 : Hp} (y7 y10 : Option V), Kp [] H7 H9 → nx' [some (.ref d), some (.ref bo), some (.ref mk), some (.ref pn), some v9, some (.ref R), some (.int way), y7, some x, some (.ref qs), y10] H9 := fun y7 y10 k9 =>
      kn _ _ ⟨pn, ss, m6, n6, y7, y10, rfl, D7.kp k9 (by simp) (by simp), by omega, by omega, (kJ kk7).trans (k9.subM ms7 (by simp)), M7.kp k9 (by simp), aml, by omega, k9.get P7 (by simp), by omega, .inl (B7.kp k9 (by simp) (by simp) (by simp))⟩
    have fin : ∀ {H9 H10 H11 : Hp} {n9 : Int} {m9 : Nat} {l2 u2 q : Addr} {z : HsT} {ss' : List Str} (y7 y10 : Option V), Kp [d, c, mk] H7 H9 → Deck H9 d c n9 → n ≤ n9 → n9 ≤ n + 2000 → MkS H9 mk m9 → m ≤ m9 → (m9 ≤ m + 1 ∨ m9 ≤ 91) → H9 l2 = none → H9 u2 = none → Kp [bo] H9 H10 →
        BnH K H10 C bo dx l2 u2 x0 (xs ++ [z]) [] → Kp [] H10 H11 → H11 q = some (.lst (ss'.map V.str)) → ss'.length ≤ 25 → OkL m9 (labs z.b) z.fx → ss'.Perm (nmsL (labs z.b) z.fx) →
        nx' [some (.ref d), some (.ref bo), some (.ref mk), some (.ref q), some v9, some (.ref R), some (.int way), y7, some x, some (.ref qs), y10] H11 := by
      intro H9 H10 H11 n9 m9 l2 u2 q z ss' y7 y10 k9 D9 e1 e2 M9 e3 e4 hl2 hu2 k10 B10 k11 hq hql hok hpm
      have I9 := k9.get I7 nI
      have ms9 := ms4 D9 M9 I9
      obtain ⟨cs, hc9, _⟩ := D9.hc
      have D10 := D9.kp k10 (lst_ne D9.hd I9) (lst_ne hc9 I9)
      have M10 := M9.kp k10 (lst_ne M9 I9)
      obtain ⟨fs10, I10⟩ := B10.ins
      have k79 : Kp [d, c, mk, bo] H H9 := (kJ kk7).trans (k9.subM ms7 (by simp))
      have k710 : Kp [d, c, mk, bo] H H10 := k79.trans (k10.subM ms9 (by simp))
      exact kn _ _ ⟨q, ss', m9, n9, y7, y10, rfl, D10.kp k11 (by simp) (by simp), e1, e2, k710.trans (k11.subM (ms4 D10 M10 I10) (by simp)), M10.kp k11 (by simp), e3, e4, hq, hql,
        .inr ⟨l2, u2, z, k79.freeM ms9 hl2, k79.freeM ms9 hu2, B10.kp k11 (by simp) (by simp) (by simp), hok, hpm⟩⟩
    have up3 : ∀ {H' : Hp}, Kp [] H7 H' → Kp [d, c, mk] H7 H' := fun z => z.subM (ms3 D7 M7) (by simp)
    obtain ⟨j, rfl⟩ : ∃ j : Nat, pl = (j : Int) := ⟨pl.toNat, by omega⟩
    have hO6 := hO.mono aml
    have hwy : way = 0 ∨ way = 1 ∨ way = 2 ∨ way = 3 ∨ way = 4 := by omega
    have hq := hS9.vp.dsz
    have hdl := dszs_len (Sm.ds cx.b)
    have row : 1 ≤ Sm.sizes cx.b → ∃ (wv : V) (st : Sm), j < Sm.sizes cx.b ∧ (Sm.als cx.b)[j]? = some st ∧ atI ws ((j : Nat) : Int) = some wv ∧ Dw [] K H7 wv st.d ∧ Sm.vd 3 st ∧ st.size ≤ 24 := fun h1 => by
      have hj : j < Sm.sizes cx.b := by omega
      have hst := stAt_d hj
      obtain ⟨wv, hwv⟩ : ∃ wv, ws[j]? = some wv := ⟨ws[j]'(by rw [hwl]; exact hj), List.getElem?_eq_getElem _⟩
      have hm := List.mem_of_getElem? hst
      have := als_size cx.b _ hm
      exact ⟨wv, _, hj, hst, atI_nat hwv, (hws7.all j wv _ hwv (by rw [Sm.ds_map, List.getElem?_map, hst]; rfl)), als_vd cx.b 4 hS9.vp.b4 (by omega) _ hm, by omega⟩
    have nR : R ∉ [bo] := lst_ne hR7 I7
    have nP : pn ∉ [bo] := lst_ne P7 I7
    rcases hwy with rfl | rfl | rfl | rfl | rfl
    · walk_at "rd"
      refine ⟨by walk_at "sz", fun p hp => ?_⟩
      have k8 : Kp [] H7 (upd H7 p (.tup [x])) := Kp.nil.new hp
      have hp8 : Dw [] K (upd H7 p (.tup [x])) (.ref p) (.tuple [s0.d]) := DwL.tp (SqT.of upd_same) (DwL.cons (hx7.kp0 k8) DwL.nil)
      refine r_catW (S7.dw.kp0 k8) hp8 (by simp; omega) fun H8 w8 k9 hw8 => ?_
      walk_at "rd"
      refine ⟨w8, _, rfl, hw8, by rw [dsz, dszs_app, dszs, dszs]; omega, fun H9 r9 k10 hr9 => ?_⟩
      have k79 := (k8.trans k9).trans k10
      have I9 := k79.get I7 (by simp)
      by_cases he : perr (.tuple (Sm.ds cx.b ++ [s0.d])) = .none
      · rw [he] at hr9
        obtain rfl := hr9.isNone
        have e : Sm.ds (cx.b ++ [s0]) = Sm.ds cx.b ++ [s0.d] := by rw [Sm.ds_app, Sm.ds, Sm.ds]
        walk_at "rd"
        refine ⟨rfl, ?_⟩
        with_reducible refine r_bl ?_
        refine ifd (fun _ => ?_) fun c => absurd rfl c
        walk_at "rd"
        refine ed_use (B7.kp k79 (by simp) (by simp) (by simp)) hx (.add (hx7.kp0 k79) (by omega)) (c := cx.b ++ [s0]) (fx2 := cx.fx) (by rw [hcx, e]; exact needD_ok he) fun H10 l2 u2 hl2 hu2 k11 B10 => ?_
        have q := hO.add an0 (by omega)
        walk_at "rd"
        refine fin _ _ (up3 k79) (D7.kp k79 (by simp) (by simp)) (by omega) (by omega) (M7.kp k79 (by simp)) aml (by omega) hl2 hu2 k11 B10 Kp.nil (k11.get (k79.get P7 (by simp)) nP) (by omega) (by rw [labs_app]; exact q.1) (by rw [labs_app, q.2]; exact hPm)
      · have hne4 := hr9.ne_none he
        walk_at "rd"
        refine ⟨rfl, ?_⟩
        with_reducible refine r_bl ?_
        refine ifd (fun c => absurd c hne4) fun _ => ?_
        walk_at "rd"
        exact stay _ _ k79
    · walk_at "rd"
      rw [Bool.true_and]
      refine ifd (fun cw => ?_) fun cw => ?_
      · obtain ⟨wv, st, hj, hst, hatw, hwd, hvd, hsz⟩ := row (by omega)
        walk_at "rd"
        refine ed_use B7 hx (.drop (.int _)) (by rw [hcx]; exact due_drop hS9.vp hst) fun H8 l2 u2 hl2 hu2 k8 B8 => ?_
        have P8 := k8.get P7 nP
        have R8 := k8.get hR7 nR
        have q := ok_drop hO6 (by omega) hst hPm
        walk_at "rd"
        refine lc_filS (fun x => !(((Sm.al st).map labS).filterMap id).contains x) P8 (by omega) (fun x H' R' k' hR' => ?_) (fun x H' R' hR' => ?_) (fun _ => rfl) fun q9 H9 hq9 k9 h9 => ?_
        · have R9 := k'.get R8 (by simp)
          walk_at "rd"
          refine ⟨wv, st, rfl, (hwd.stm.kp k8).dw.kp0 k', hvd, hsz, fun H'' a' ha' k'' h'' => ?_⟩
          refine r_notinS (SqL.of h'') ?_
          walk_at "rd"
          exact hR' _ k''
        · walk_at "rd"
          exact hR'
        walk_at "rd"
        exact fin _ _ (up3 Kp.nil) D7 (by omega) (by omega) M7 aml (by omega) hl2 hu2 k8 B8 k9 h9 (by have := List.length_filter_le (fun x => !(((Sm.al st).map labS).filterMap id).contains x) ss; omega) q.1 q.2
      · walk_at "rd"
        exact stay _ _ Kp.nil
    · walk_at "rd"
      rw [Bool.false_and]
      walk_at "rd"
      refine ⟨by walk_at "sz", fun p hp => ?_⟩
      have k8 : Kp [] H7 (upd H7 p (.lst [])) := Kp.nil.new hp
      refine r_neNL (SqL.of (k8.get hR7 (by simp))) (SqL.of upd_same) ?_
      generalize upd H7 p (.lst []) = H8 at k8 ⊢
      cases hwe : ws.isEmpty with
      | true =>
        walk_at "rd"
        exact stay _ _ k8
      | false =>
        obtain ⟨wv, st, hj, hst, hatw, hwd, hvd, hsz⟩ := row (by
          rw [← hwl]
          cases ws with
          | nil => cases hwe
          | cons _ _ => simp)
        obtain ⟨ax, u, y0, d0, ys, es, rfl, ed, hTx, _, _, _, hcon, _⟩ := stm_view (hwd.kp0 k8)
        have hat0 : atI (V.str u :: y0 :: ys) 0 = some (V.str u) := at_nn (Int.le_refl 0) rfl
        have R8 := k8.get hR7 (by simp)
        walk_at "rd"
        refine ⟨by walk_at "sz", fun p9 hp9 => ?_⟩
        have k9 : Kp [] H8 (upd H8 p9 (.lst [.str "if", .str "repeat"])) := Kp.nil.new hp9
        have h9 : upd H8 p9 (.lst [.str "if", .str "repeat"]) p9 = some (.lst ((["if", "repeat"] : List Str).map V.str)) := upd_same
        refine r_notinS (SqL.of h9) ?_
        rw [hcon, Bool.not_not]
        have k79 := k8.trans k9
        have R9 := k9.get R8 (by simp)
        have hTx9 := sqT_kp k9 hTx
        generalize upd H8 p9 (.lst [.str "if", .str "repeat"]) = H9 at k79 R9 hTx9 ⊢
        clear h9 k9 hTx R8
        cases hpe : st.parts.isEmpty with
        | false =>
          walk_at "rd"
          exact stay _ _ k79
        | true =>
          obtain ⟨q0, rfl⟩ : ∃ q0, st = .pl q0 := by
            cases st with
            | pl q0 => exact ⟨q0, rfl⟩
            | ifs _ _ _ => cases hpe
            | rep _ _ => cases hpe
          have D9 := D7.kp k79 (by simp) (by simp)
          have M9 := M7.kp k79 (by simp)
          have I9 := k79.get I7 (by simp)
          have P9 := k79.get P7 (by simp)
          have B9 := B7.kp k79 (by simp) (by simp) (by simp)
          have put : ∀ (t : Pl) (Ha : Hp) (tv : V) (na : Int) (ma : Nat) (Q' : VK), Deck Ha d c na → n ≤ na → na ≤ n + 2000 → Kp [d, c, mk] H9 Ha → MkS Ha mk ma → m ≤ ma → (ma ≤ m + 1 ∨ ma ≤ 91) → ma ≤ 200 → NwL m6 ma (labs [.pl t]) → Dt K Ha tv (Sm.pl t).d → t.vd → dsz (Sm.pl t).d ≤ 40000 →
              (∀ (Hb : Hp) (l2 u2 : Addr), Ha l2 = none → Ha u2 = none → Kp [bo] Ha Hb → BnH K Hb C bo dx l2 u2 x0 (xs ++ [⟨edD (.change (.int (j : Nat)) (Sm.pl t).d), Sm.rpB cx.b j [.pl t], pinsL cx.fx j 1 1⟩]) [] → Q' (.int ((xs.length + 1 : Nat) : Int)) Hb) → spEdM K A C "change" [.ref bo, .int (j : Nat), tv] Ha Q' E0 :=
            fun t Ha tv na ma Q' Da e1 e2 ka Ma e3 e4 e5 hnw htv hvt htz hQ' =>
              ed_use (B9.kp ka nI hl hu) hx (.change (.int _) htv.dw htz) (by rw [hcx]; exact due_put hS9.vp hst hvt) hQ'
          have ending : ∀ (t : Pl) (Ha Hb : Hp) (na : Int) (ma : Nat) (l2 u2 : Addr), Deck Ha d c na → n ≤ na → na ≤ n + 2000 → Kp [d, c, mk] H9 Ha → MkS Ha mk ma → m ≤ ma → (ma ≤ m + 1 ∨ ma ≤ 91) → ma ≤ 200 → NwL m6 ma (labs [.pl t]) → Ha l2 = none → Ha u2 = none → Kp [bo] Ha Hb →
              BnH K Hb C bo dx l2 u2 x0 (xs ++ [⟨edD (.change (.int (j : Nat)) (Sm.pl t).d), Sm.rpB cx.b j [.pl t], pinsL cx.fx j 1 1⟩]) [] →
              LcL K (gName 10) (tTest (tOp (rIn K true) (tVar 10) (tCall (spMarks K) [] E0 (tCons (tOp (rIxL K) (tVar 5) (tVar 7)) tNil)))) (tVar 10) [10] [some (.ref d), some (.ref bo), some (.ref mk), some (.ref pn), some v9, some (.ref R), some (.int 2), some (.int (j : Nat)), some x, some (.ref qs), none]
                (fun v H' => nx' [some (.ref d), some (.ref bo), some (.ref mk), some v, some v9, some (.ref R), some (.int 2), some (.int (j : Nat)), some x, some (.ref qs), none] H') (.ref pn) Hb := by
            intro t Ha Hb na ma l2 u2 Da e1 e2 ka Ma e3 e4 e5 hnw hl2 hu2 kb Bb
            have Ia := ka.get I9 nI
            have Pb := kb.get (ka.get P9 hpn) nP
            have Rb := kb.get (ka.get R9 (by simp [fR, fRm])) nR
            have wb := ((hwd.kp0 k79).stm.kp ka).kp kb
            have q := ok_put hO6 e5 hnw hst hPm
            refine lc_filS (fun x => !(((Sm.al (.pl q0)).map labS).filterMap id).contains x) Pb (by omega) (fun x H' R' k' hR' => ?_) (fun x H' R' hR' => ?_) (fun _ => rfl) fun q9 Hc hq9 kc hc => ?_
            · have Rc := k'.get Rb (by simp)
              walk_at "rd"
              refine ⟨_, .pl q0, rfl, wb.dw.kp0 k', hvd, hsz, fun H'' a' ha' k'' h'' => ?_⟩
              refine r_notinS (SqL.of h'') ?_
              walk_at "rd"
              exact hR' _ k''
            · walk_at "rd"
              exact hR'
            exact fin _ _ ((up3 k79).trans ka) Da e1 e2 Ma e3 e4 hl2 hu2 kb Bb kc hc (by have := List.length_filter_le (fun x => !(((Sm.al (.pl q0)).map labS).filterMap id).contains x) ss; omega) q.1 q.2
          walk_at "rd"
          by_cases hus : u = "set"
          · subst hus
            refine ifd (fun _ => ?_) fun c => absurd rfl c
            walk_at "rd"
            refine ⟨d, c, mk, _, m6, rfl, D9, by omega, M9, by omega, n1, n2, fun Ha tv ex na Da e1 e2 ka Ma htv hvt => ?_⟩
            walk_at "rd"
            refine put _ Ha tv na (m6 + 1) _ Da (by omega) (by omega) ka Ma (by omega) (by omega) (by omega) (by rw [labs_pl]; exact NwL.one) htv hvt (by have := (Pl.vd.dok hvt).sz; rw [Sm.d]; omega) fun Hb l2 u2 hl2 hu2 kb Bb => ?_
            walk_at "rd"
            refine ending _ Ha Hb na (m6 + 1) l2 u2 Da (by omega) (by omega) ka Ma (by omega) (by omega) (by omega) (by rw [labs_pl]; exact NwL.one) hl2 hu2 kb Bb
          · have hne : V.str u ≠ V.str "set" := fun z => hus (by injection z)
            refine ifd (fun c => absurd c hne) fun _ => ?_
            walk_at "rd"
            refine ⟨by walk_at "sz", fun pt hpt => ?_⟩
            have kt : Kp [] H9 (upd H9 pt (.tup [.str "say", .str "no"])) := Kp.nil.new hpt
            have htv : Dt K (upd H9 pt (.tup [.str "say", .str "no"])) (.ref pt) (Sm.pl (.say "no")).d := by
              rw [Sm.d, Pl.d]
              exact (DtL.cons (.str _) (DtL.cons (.str _) DtL.nil)).tup upd_same
            have ka : Kp [d, c, mk] H9 (upd H9 pt (.tup [.str "say", .str "no"])) := kt.subM (ms3 D9 M9) (by simp)
            have Da := D9.kp kt (by simp) (by simp)
            have Ma := M9.kp kt (by simp)
            generalize upd H9 pt (.tup [.str "say", .str "no"]) = Ha at htv ka Da Ma ⊢
            walk_at "rd"
            have hnw : NwL m6 m6 (labs [.pl (.say "no")]) := by
              rw [labs_pl]
              exact (NwL.nil (Nat.le_refl _)).none
            refine put _ Ha _ _ m6 _ Da (by omega) (by omega) ka Ma (by omega) (by omega) (by omega) hnw htv (show isWordS "no" = true by decide +kernel) (by rw [Sm.d, Pl.d]; decide +kernel) fun Hb l2 u2 hl2 hu2 kb Bb => ?_
            walk_at "rd"
            refine ending _ Ha Hb _ m6 l2 u2 Da (by omega) (by omega) ka Ma (by omega) (by omega) (by omega) hnw hl2 hu2 kb Bb
    · walk_at "rd"
      rw [Bool.false_and]
      walk_at "rd"
      refine ⟨by walk_at "sz", fun p hp => ?_⟩
      have k8 : Kp [] H7 (upd H7 p (.lst [])) := Kp.nil.new hp
      refine r_neNL (SqL.of (k8.get hqs7 (by simp))) (SqL.of upd_same) ?_
      generalize upd H7 p (.lst []) = H8 at k8 ⊢
      cases hse : ((setP cx.b).map V.int).isEmpty with
      | true =>
        walk_at "rd"
        exact stay _ _ k8
      | false =>
        have D8 := D7.kp k8 (by simp) (by simp)
        have M8 := M7.kp k8 (by simp)
        have hsl := setP_len cx.b
        walk_at "rd"
        refine spOne.list D8 (by omega) (SqL.of (k8.get hqs7 (by simp))) fq.1 fq.2 (by
          cases hz9 : (setP cx.b).map V.int with
          | nil => rw [hz9] at hse; cases hse
          | cons _ _ => simp) (by rw [List.length_map]; omega) fun H9 i9 x9 hx9 D9 k9 => ?_
        rw [List.getElem?_map] at hx9
        obtain ⟨i0, hi0, rfl⟩ := Option.map_eq_some_iff.mp hx9
        obtain ⟨hsA, hil⟩ := setP_at (List.mem_of_getElem? hi0)
        obtain ⟨i, rfl⟩ : ∃ i : Nat, i0 = (i : Int) := ⟨i0.toNat, by have := hsA.1; omega⟩
        obtain ⟨_, nm, hnm⟩ := id hsA
        rw [Int.toNat_natCast] at hil hnm
        have hst := stAt_d hil
        have hnm2 := hnm
        rw [labs_at hil] at hnm2
        obtain ⟨ex, hse2⟩ := lab_set (Option.some.inj hnm2)
        rw [hse2] at hst
        have ka : Kp [d, c, mk] H7 H9 := (up3 k8).trans (k9.subM (ms3 D8 M8) (by simp))
        have I9 := ka.get I7 nI
        have B9 := B7.kp ka nI hl hu
        have M9 := M8.kp k9 (by simp [n1, n2])
        have S9 := S7.kpM ka
        have R9 := ka.get hR7 (by simp [fR, fRm])
        have P9 := ka.get P7 hpn
        obtain ⟨wv, hwv⟩ : ∃ wv, ws[i]? = some wv := ⟨ws[i]'(by rw [hwl]; exact hil), List.getElem?_eq_getElem _⟩
        have hatw : atI ws ((i : Nat) : Int) = some wv := atI_nat hwv
        have hwd := (hws7.all i wv _ hwv (by rw [Sm.ds_map, List.getElem?_map, hst]; rfl)).stm
        rw [Sm.d, Pl.d] at hwd
        obtain ⟨ax, vs9, rfl, hTx, hL9⟩ := (show Dw [] K H7 wv (.tuple [.str "set", .str nm, ex.d]) from hwd.dw).items
        obtain ⟨z0, vs9, rfl, hz0, hL9⟩ := hL9.inv
        obtain ⟨z1, vs9, rfl, hz1, hL9⟩ := hL9.inv
        obtain rfl := hz1.isStr
        have hat1 : atI (z0 :: V.str nm :: vs9) 1 = some (V.str nm) := at_nn (by decide) rfl
        have hnI : nmI (labs cx.b) (i : Int) = nm := nm_at (by rw [Int.toNat_natCast]; exact hnm)
        walk_at "rd"
        refine r_Fld I9 cC T.nF bn_getF ?_
        refine r_inB (.inr S9.sq) rfl (flat_ints _) ?_
        rw [inV_ints]
        with_reducible refine r_bl ?_
        refine ifd (fun cf => ?_) fun cf => ?_
        · walk_at "rd"
          refine ed_use B9 hx (.free (.int _)) (by rw [hcx]; exact due_free hst cf) fun Hb l2 u2 hl2 hu2 kb Bb => ?_
          have Pb := kb.get P9 nP
          have Rb := kb.get R9 nR
          have hTb := sqT_kp kb (sqT_kp ka hTx)
          have q := hO6.free hsA
          walk_at "rd"
          refine lc_filS (fun x => !decide (x = nm)) Pb (by omega) (fun x H' R' k' hR' => ?_) (fun x H' R' hR' => ?_) (fun _ => rfl) fun q9 Hc hq9 kc hc => ?_
          · have Rc := k'.get Rb (by simp)
            have hTc := sqT_kp k' hTb
            walk_at "rd"
            have e9 : decide (V.str x = V.str nm) = decide (x = nm) := decide_eq_decide.mpr ⟨fun e => by injection e, fun e => by rw [e]⟩
            rw [e9]
            exact hR' _ Kp.nil
          · walk_at "rd"
            exact hR'
          walk_at "rd"
          refine fin _ _ ka D9 (by omega) (by omega) M9 aml (by omega) hl2 hu2 kb Bb kc hc (by have := List.length_filter_le (fun x => !decide (x = nm)) ss; omega) q.1 ?_
          rw [q.2, hnI]
          exact hPm.filter _
        · walk_at "rd"
          refine ed_use B9 hx (.hold (.int _)) (by rw [hcx]; exact due_hold hst cf) fun Hb l2 u2 hl2 hu2 kb Bb => ?_
          have Pb := kb.get P9 nP
          have Rb := kb.get R9 nR
          have hTb := sqT_kp kb (sqT_kp ka hTx)
          have q := hO6.hold hsA cf
          walk_at "rd"
          refine ⟨by walk_at "sz", fun pt hpt => ?_⟩
          have kt : Kp [] Hb (upd Hb pt (.lst [.str nm])) := Kp.nil.new hpt
          refine r_cat (kt.get Pb (by simp)) upd_same (by rw [List.length_map, sizeLine_eq]; simp; omega) fun q9 hq9 => ?_
          have kc := kt.new (o := .lst (ss.map V.str ++ [.str nm])) hq9
          walk_at "rd"
          refine fin _ _ ka D9 (by omega) (by omega) M9 aml (by omega) hl2 hu2 kb Bb kc (ss' := ss ++ [nm]) (by rw [upd_same, List.map_append]; rfl) (by rw [List.length_append, List.length_singleton]; omega) q.1 ?_
          rw [hnI] at q
          exact (hPm.append_right [nm]).trans q.2.symm
    · walk_at "rd"
      rw [Bool.false_and]
      walk_at "rd"
      exact stay _ _ Kp.nil
  · rintro σ H8 ⟨pn', ss', m', n', y7, y10, rfl, D8, e1, e2, k8, M8, e3, e4, h8, e5, hst⟩
    walk_at "rd"
    refine ⟨pn', ss', rfl, SqL.of h8, by omega, fun ys p hpm hso hp => ?_⟩
    obtain ⟨fs8, I8⟩ : ∃ fs, H8 bo = some (.ins C dx fs) := by
      rcases hst with b | ⟨_, _, _, _, _, b, _⟩
      · exact b.ins
      · exact b.ins
    have kz : Kp [] H8 (upd H8 p (.lst (ys.map V.str))) := Kp.nil.new hp
    refine k _ p ys m' n' (D8.kp kz (by simp) (by simp)) e1 e2 (k8.new hp) (M8.kp kz (by simp)) e3 e4 (k8.freeM (ms4 D8 M8 I8) hp) upd_same hso ?_
    rcases hst with b | ⟨l2, un2, z, f1, f2, b, g1, g2⟩
    · exact .inl (b.kp kz (by simp) (by simp) (by simp))
    · exact .inr ⟨l2, un2, z, f1, f2, b.kp kz (by simp) (by simp) (by simp), g1, hpm.trans g2⟩
theorem ok_law {C U : Addr} (D : Df K mg "law" slaw Plaw) (B : Blt mg) (T : BnT K C) (hM : ∃ mm, base.Ns sysModules mm) {lv : Nat} (hlv : 22 ≤ lv)
    (G_law_deck : Has P w K mg base CX0 "_law_deck" ["_law_script"] 1 (spDeck K))
    (G_law_draw : Has P w K mg base CX0 "_law_draw" ["_law_deck_here", "_law_many"] 1 spDraw)
    (G_law_tree : Has P w K mg base CX0 "_law_tree" ["_law_deck_here", "_law_marks_here", "_law_depth"] lv (spTree K 3)) (Gprogram_error : Has P w K mg base CX0 "program_error" ["value"] lv (spPerr K))
    (G_law_marked_set : Has P w K mg base CX0 "_law_marked_set" ["_law_deck_here", "_law_marks_here"] 3 (spMkSet K)) (G_law_setters : Has P w K mg base CX0 "_law_setters" ["_law_program_here"] lv (spSetters K))
    (G_law_marked : Has P w K mg base CX0 "_law_marked" ["_law_state"] 5 (spMarked K)) (G_law_step : Has P w K mg base CX0 "_law_step" ["_law_deck_here", "_law_bench", "_law_marks_here", "_law_pins"] lv (spStep K C))
    (GBench : HasC P w K mg base CX0 "Bench" C ["self", "program", "fix"] 14 (spInitB K C)) (GB_state : HasMK P w K mg base CX0 C "state" ["self", "version"] [.non] 1 (spState0 K C))
    (GB_undo : HasM P w K mg base (L2.CX P w) C "undo" ["self"] 2 (spUndo K C U)) (GB_len : HasM P w K mg base CX0 C "__len__" ["self"] 1 (spLenB C)) :
    Has P w K mg base CX0 "law" Plaw (lv + 1) (spLaw K) := by
  refine D.has sclaw (fun vs H Q E h => ?_) (fun f cdv A outer s H vs Q E hr h => ?_)
  · obtain ⟨a, ns, rfl, _⟩ := h
    rfl
  obtain ⟨a, ns, rfl, hS, hl, k⟩ := h
  have cC := T.cl
  refine ⟨_, (pss_cons (ps_set (i := 1) sclaw.nd rfl (Or.inr rfl) (pe_f G_law_deck (hr.mono (by omega)) (by rfl) pass0 (pa_cons (pv 0) pa_nil)))
      (pss_cons (ps_for PassesOwn.never rfl (pi_range1 (by rfl) B.range (pa_cons pe_int pa_nil)) (pg_name (i := 2) sclaw.nd rfl (Or.inl rfl))
        (pss_cons (ps_par (i := 3) (j := 4) (by rfl) sclaw.nd rfl rfl (by decide) rfl rfl (pa_cons (pe_lst pa_nil) (pa_cons (pe_tup pa_nil) pa_nil)) (by rfl))
      (pss_cons (ps_for PassesOwn.never rfl (pi_range1 (by rfl) B.range (pa_cons pe_int pa_nil)) (pg_name (i := 5) sclaw.nd rfl (Or.inl rfl))
        (pss_cons (ps_set (i := 6) sclaw.nd rfl (Or.inl rfl) (pe_op op_catA (pv 4) (pe_f G_law_tree (hr.mono (by omega)) (by rfl) pass0 (pa_cons (pv 1) (pa_cons (pv 3) (pa_cons pe_int pa_nil))))))
      (pss_one (ps_set (i := 4) sclaw.nd rfl (Or.inl rfl) (pe_ifExp (pt_cmpR op_isN (pe_f Gprogram_error (hr.mono (by omega)) (by rfl) pass0 (pa_cons (pv 6) pa_nil)) pe_non (nomark _)) (pv 6) (pv 4))))))
      (pss_cons (ps_if (pt_cmpR (op_eqNil hr.h64) (pv 4) (pe_tup pa_nil) (nomark _)) (pss_one (ps_set (i := 4) sclaw.nd rfl (Or.inl rfl) (pe_tup (pa_cons (pe_f G_law_marked_set (hr.mono (by omega)) (by rfl) pass0 (pa_cons (pv 1) (pa_cons (pv 3) pa_nil))) (pa_cons (pe_tup (pa_cons pe_str (pa_cons pe_str pa_nil))) pa_nil)))))
        pss_nil)
      (pss_cons (ps_set (i := 7) sclaw.nd rfl (Or.inl rfl) (pe_callTy c_tup (by rfl) B.tuple (by decide +kernel) (pa_cons (pe_lc (own := [("_law_place", 8)]) (g := gName 8) (by rfl) sclaw.nd (pi_list (pe_f G_law_setters (hr.mono (by omega)) (by rfl) pass0 (pa_cons (pv 4) pa_nil))) (blkOk_by (own := [("_law_place", 8)]) (N := Nlaw) (sc := defScope slaw) (by decide +kernel)) (fun _ _ _ _ _ => (pg_name (i := 8) sclaw.nd rfl (Or.inl rfl))) (fun _ _ _ _ _ => (pts_one (pt_cmpR op_gt (pe_f G_law_draw (hr.mono (by omega)) (by rfl) pass0 (pa_cons (pv 1) (pa_cons pe_int pa_nil))) pe_int (nomark _)))) (fun _ _ _ _ _ => (pv 8))) pa_nil)))
      (pss_cons (ps_par (i := 9) (j := 10) (by rfl) sclaw.nd rfl rfl (by decide) rfl rfl (pa_cons (pe_new GBench (hr.mono (by omega)) (by rfl) pass0 (pa_cons (pv 4) (pa_cons (pv 7) pa_nil))) (pa_cons (pe_lst (pa_cons (pe_f G_law_marked (hr.mono (by omega)) (by rfl) pass0 (pa_cons (pe_tup (pa_cons (pv 4) (pa_cons (pv 7) pa_nil))) pa_nil)) pa_nil)) pa_nil)) (by rfl))
      (pss_one (ps_for PassesOwn.never rfl (pi_range1 (by rfl) B.range (pa_cons pe_int pa_nil)) (pg_name (i := 5) sclaw.nd rfl (Or.inl rfl))
        (pss_cons (ps_set (i := 11) sclaw.nd rfl (Or.inl rfl) (pe_callB (c_lenM GB_len (hr.mono (by omega))) (by rfl) B.len (by decide +kernel) (pa_cons (pv 9) pa_nil)))
      (pss_cons (ps_set (i := 12) sclaw.nd rfl (Or.inl rfl) (pe_f G_law_step (hr.mono (by omega)) (by rfl) pass0 (pa_cons (pv 1) (pa_cons (pv 9) (pa_cons (pv 3) (pa_cons (pe_ix ix_list (pv 10) (pe_un un_neg pe_int) (fun _ _ => rfl)) pa_nil))))))
      (pss_cons (ps_if (pt_cmpR op_gt (pe_callB (c_lenM GB_len (hr.mono (by omega))) (by rfl) B.len (by decide +kernel) (pa_cons (pv 9) pa_nil)) (pv 11) (nomark _)) (pss_one (ps_expr (pe_bm PySem.F.plainAttrs_list PySem.F.slot_list_append PySem.F.type_list_append mt_append (pv 10) (pa_cons (pv 12) pa_nil))))
        pss_nil)
      (pss_cons (ps_if (PW.pt (pw_or (pt_cmpR op_ne (pe_callB (c_repr3 hr hM) (by rfl) B.repr (by decide +kernel) (pa_cons (pe_f G_law_marked (hr.mono (by omega)) (by rfl) pass0 (pa_cons (pe_m0K GB_state cC (hr.mono (by omega)) pass0 (pv 9)) pa_nil)) pa_nil)) (pe_callB (c_repr3 hr hM) (by rfl) B.repr (by decide +kernel) (pa_cons (pe_ix ix_list (pv 10) (pe_un un_neg pe_int) (fun _ _ => rfl)) pa_nil)) (nomark _)) (pw_or1 (pt_cmpR op_ne (pe_callB c_len (by rfl) B.len (by decide +kernel) (pa_cons (pv 10) pa_nil)) (pe_op op_add (pe_callB (c_lenM GB_len (hr.mono (by omega))) (by rfl) B.len (by decide +kernel) (pa_cons (pv 9) pa_nil)) pe_int) (nomark _))))) (pss_one (ps_ret pe_bl))
        pss_nil)
      (pss_one (ps_if (PW.pt (pw_and (pt_cmpR op_eq (pe_f G_law_draw (hr.mono (by omega)) (by rfl) pass0 (pa_cons (pv 1) (pa_cons pe_int pa_nil))) pe_int (nomark _)) (pw_and1 (pt_cmpR op_gt (pe_callB (c_lenM GB_len (hr.mono (by omega))) (by rfl) B.len (by decide +kernel) (pa_cons (pv 9) pa_nil)) pe_int (nomark _))))) (pss_cons (ps_expr (pe_m0 GB_undo cC (hr.mono (by omega)) passQ (pv 9)))
      (pss_cons (ps_expr (pe_bm0 PySem.F.plainAttrs_list PySem.F.slot_list_pop PySem.F.type_list_pop mt_pop (pv 10)))
      (pss_one (ps_if (pt_cmpR op_ne (pe_callB (c_repr3 hr hM) (by rfl) B.repr (by decide +kernel) (pa_cons (pe_f G_law_marked (hr.mono (by omega)) (by rfl) pass0 (pa_cons (pe_m0K GB_state cC (hr.mono (by omega)) pass0 (pv 9)) pa_nil)) pa_nil)) (pe_callB (c_repr3 hr hM) (by rfl) B.repr (by decide +kernel) (pa_cons (pe_ix ix_list (pv 10) (pe_un un_neg pe_int) (fun _ _ => rfl)) pa_nil)) (nomark _)) (pss_one (ps_ret pe_bl))
        pss_nil))))
        pss_nil))))))))))))))
      (pss_one (ps_ret pe_bl)))), ?_⟩
  walk_at "rd"
  refine ⟨a, ns, rfl, hS, hl, fun H1 d c hd hc D1 k1 => ?_⟩
  walk_at "rd"
  refine r_ForR (fun i σ H' => ∃ (n' : Int) (y2 y3 y4 y5 y6 y7 y8 y9 y10 y11 y12 : Option V), σ = [some (.ref a), some (.ref d), y2, y3, y4, y5, y6, y7, y8, y9, y10, y11, y12] ∧ Deck H' d c n' ∧ n' ≤ 100000 * i) (by omega) (by omega)
    ⟨0, _, _, _, _, _, _, _, _, _, _, _, rfl, D1, by omega⟩ ?_ ?_
  · rintro i σ Ha hi ⟨na, y2, y3, y4, y5, y6, y7, y8, y9, y10, y11, y12, rfl, Da, hna⟩
    have hi2 : i < 2 := hi
    have na0 := Da.n0
    walk_at "rd"
    refine ⟨by decide, fun mk hmk => ?_⟩
    have k2 : Kp [] Ha (upd Ha mk (.lst [])) := Kp.nil.new hmk
    have M2 : MkS (upd Ha mk (.lst [])) mk 0 := upd_same
    have D2 := Da.kp k2 (by simp) (by simp)
    have fm := Da.fresh hmk
    generalize upd Ha mk (.lst []) = H2 at M2 D2 ⊢
    clear k2 hmk Da
    walk_at "rd"
    refine ⟨by decide, fun pe hpe => ?_⟩
    have k3 : Kp [] H2 (upd H2 pe (.tup [])) := Kp.nil.new hpe
    have P3 : Dt K (upd H2 pe (.tup [])) (.ref pe) (.tuple (Sm.ds [])) := by
      rw [Sm.ds]
      exact DtL.nil.tup upd_same
    have M3 := M2.kp k3 (by simp)
    have D3 := D2.kp k3 (by simp) (by simp)
    generalize upd H2 pe (.tup []) = H3 at P3 M3 D3 ⊢
    clear k3 hpe M2 D2
    have t1 : trC 3 = 6260 := rfl
    have t2 : trZ 3 = 90650 := rfl
    walk_at "rd"
    refine r_ForR (fun j σ H' => ∃ (n' : Int) (m : Nat) (b : List Sm) (pv : V) (y5 y6 : Option V), σ = [some (.ref a), some (.ref d), some (.int (i : Nat)), some (.ref mk), some pv, y5, y6, y7, y8, y9, y10, y11, y12] ∧ Deck H' d c n' ∧ n' ≤ na + 6300 * j ∧ MkS H' mk m ∧ m ≤ 90 ∧ Dt K H' pv (.tuple (Sm.ds b)) ∧ VP b ∧ OkL m (labs b) []) (by omega) (by omega)
      ⟨na, 0, [], _, _, _, rfl, D3, by omega, M3, by omega, P3, VP.nil, okL_nil⟩ ?_ ?_
    · clear P3 M3 D3
      rintro j σ Hb hj ⟨nb, m, b, pv, y5, y6, rfl, Db, hnb, Mb, hm, hpv, hvp, hok⟩
      have hj6 : j < 6 := hj
      have nb0 := Db.n0
      have hq := hvp.dsz
      walk_at "rd"
      refine ⟨d, c, mk, _, 0, m, rfl, by rfl, Db, by omega, Mb, by omega, fm.1, fm.2, fun Hc tv tb m2 nc Dc a1 a2 kc Mc hm2 nw htv hne htz => ?_⟩
      have l1 := dszs_len (Sm.ds b)
      have l2 := dszs_len (Sm.ds tb)
      have hpc := hpv.kp kc
      refine r_catA hpc htv (by omega) fun Hd wv kd hwv => ?_
      have hpd := hpc.kp kd
      have Dd := Dc.kp kd (by simp) (by simp)
      have Md := Mc.kp kd (by simp)
      walk_at "rd"
      refine ⟨wv, _, rfl, hwv.dw, by rw [dsz, dszs_app]; omega, fun He r9 ke hr9 => ?_⟩
      have De := Dd.kp ke (by simp) (by simp)
      have Me := Md.kp ke (by simp)
      by_cases he : perr (.tuple (Sm.ds b ++ Sm.ds tb)) = .none
      · rw [he] at hr9
        obtain rfl := hr9.isNone
        walk_at "rd"
        refine ⟨rfl, ?_⟩
        with_reducible refine r_bl ?_
        refine ifd (fun _ => ?_) fun c => absurd rfl c
        walk_at "rd"
        refine ⟨nc, m2, b ++ tb, wv, _, _, rfl, De, by omega, Me, by omega, ?_, VP.joined he, ?_⟩
        · rw [Sm.ds_app]
          exact hwv.kp ke
        · rw [labs_app]
          exact (hok.add nw (by omega)).1
      · have hne4 := hr9.ne_none he
        walk_at "rd"
        refine ⟨rfl, ?_⟩
        with_reducible refine r_bl ?_
        refine ifd (fun c => absurd c hne4) fun _ => ?_
        walk_at "rd"
        exact ⟨nc, m2, b, pv, _, _, rfl, De, by omega, Me, by omega, hpd.kp ke, hvp, hok.mono nw.le⟩
    · clear P3 M3 D3
      rintro σ Hb ⟨nb, m, b, pv, y5, y6, rfl, Db, hnb, Mb, hm, hpv, hvp, hok⟩
      have nb0 := Db.n0
      dsimp only
      with_reducible refine r_seqJ (fun σ H' => ∃ (n' : Int) (m : Nat) (b : List Sm) (pv : V), σ = [some (.ref a), some (.ref d), some (.int (i : Nat)), some (.ref mk), some pv, y5, y6, y7, y8, y9, y10, y11, y12] ∧ Deck H' d c n' ∧ n' ≤ na + 40000 ∧ MkS H' mk m ∧ m ≤ 91 ∧ Dt K H' pv (.tuple (Sm.ds b)) ∧ VP b ∧ OkL m (labs b) []) (fun nx' kn => ?_) ?_
      · walk_at "rd"
        refine ⟨by decide, fun p hp => ?_⟩
        have kp : Kp [] Hb (upd Hb p (.tup [])) := Kp.nil.new hp
        have hpe := hpv.kp kp
        obtain ⟨ap, xs, rfl, hT, hL⟩ := hpe.items
        refine r_eqNT hT (SqT.of upd_same) ?_
        have hxl := hL.len
        rw [Sm.ds_map, List.length_map] at hxl
        have De := Db.kp kp (by simp) (by simp)
        have Me := Mb.kp kp (by simp)
        generalize upd Hb p (.tup []) = He at hpe hT hL De Me ⊢
        clear kp hpv Db Mb hp
        cases hxe : xs.isEmpty with
        | false =>
          walk_at "rd"
          exact kn _ _ ⟨nb, m, b, _, rfl, De, by omega, Me, by omega, hpe, hvp, hok⟩
        | true =>
          obtain rfl : b = [] := by
            cases xs with
            | nil => exact List.length_eq_zero_iff.mp hxl.symm
            | cons _ _ => cases hxe
          walk_at "rd"
          refine ⟨d, c, mk, _, m, rfl, De, by omega, Me, by omega, fm.1, fm.2, fun Hf tv ex nf Df a1 a2 kf Mf htv hvt => ?_⟩
          walk_at "rd"
          refine ⟨by walk_at "sz", fun q1 hq1 => ?_⟩
          have k1 : Kp [] Hf (upd Hf q1 (.tup [.str "tell", .str "n"])) := Kp.nil.new hq1
          have hq : Dt K (upd Hf q1 (.tup [.str "tell", .str "n"])) (.ref q1) (Sm.pl (.tell (.name "n"))).d := by
            rw [Sm.d, Pl.d, Ex.d]
            exact (DtL.cons (.str _) (DtL.cons (.str _) DtL.nil)).tup upd_same
          have htv1 := htv.kp k1
          have D1 := Df.kp k1 (by simp) (by simp)
          have M1 := Mf.kp k1 (by simp)
          generalize upd Hf q1 (.tup [.str "tell", .str "n"]) = H1 at hq htv1 D1 M1 ⊢
          walk_at "rd"
          refine ⟨by walk_at "sz", fun q2 hq2 => ?_⟩
          have k2 : Kp [] H1 (upd H1 q2 (.tup [tv, .ref q1])) := Kp.nil.new hq2
          walk_at "rd"
          refine kn _ _ ⟨nf, m + 1, [.pl (.set (mkN m) ex), .pl (.tell (.name "n"))], _, rfl, D1.kp k2 (by simp) (by simp), by omega, M1.kp k2 (by simp), by omega, ?_, two_vp hvt, ?_⟩
          · rw [Sm.ds, Sm.ds, Sm.ds]
            exact (DtL.cons (htv1.kp k2) (DtL.cons (hq.kp k2) DtL.nil)).tup upd_same
          · have q := (hok.add (M := labs [.pl (.set (mkN m) ex), .pl (.tell (.name "n"))]) (m' := m + 1) ?_ (by omega)).1
            · rw [labs_nil, List.nil_append] at q
              exact q
            · rw [labs_cons, Sm.al, labs_pl]
              exact (NwL.one).app ((NwL.nil (Nat.le_refl _)).none) (by omega)
      · clear hpv Db Mb hvp hok hnb hm nb0
        clear b pv m nb
        rintro σ Hb ⟨nb, m, b, pv, rfl, Db, hnb, Mb, hm, hpv, hvp, hok⟩
        have nb0 := Db.n0
        have hz := hvp.size
        walk_at "rd"
        refine ⟨pv, b, rfl, hpv.dw, hvp.b4, by omega, fun Hc qs hqs kc hqs1 => ?_⟩
        have Dc := Db.kp kc (by simp) (by simp)
        have Mc := Mb.kp kc (by simp)
        have hpc := hpv.kp kc
        have fq := Db.fresh hqs
        have fqm := ne_of_none Mb hqs
        have hsl := setP_len b
        clear hpv Db Mb kc hqs
        refine r_LcL (SqL.of hqs1) fun p hp => ⟨fun i H' => ∃ (n' : Int) (fs : List Int), Deck H' d c n' ∧ n' = nb + i ∧ Kp [d, c] Hc H' ∧ H' p = some (.lst (fs.map V.int)) ∧ fs.Sublist ((setP b).take i), ?_, ?_, ?_, ?_⟩
        · have kp : Kp [] Hc (upd Hc p (.lst [])) := Kp.nil.new hp
          exact ⟨nb, [], Dc.kp kp (by simp) (by simp), by omega, (Kp.refl Dc.ls).new hp, upd_same, List.nil_sublist _⟩
        · rintro i H' ⟨n', fs, _, _, k3, _⟩
          exact SqL.of (k3.get hqs1 (by simp [fq.1, fq.2]))
        · rintro i x H3 hx ⟨n3, fs, D3, e3, k3, hp3, hl3⟩
          have fp := Dc.fresh hp
          rw [List.getElem?_map] at hx
          obtain ⟨w0, hw0, rfl⟩ := Option.map_eq_some_iff.mp hx
          have hil : i < (setP b).length := (List.getElem?_eq_some_iff.mp hw0).1
          have htk : (setP b).take (i + 1) = (setP b).take i ++ [w0] := by rw [List.take_add_one, hw0]; rfl
          have hfl := hl3.length_le
          rw [List.length_take] at hfl
          walk_at "rd"
          refine spDraw.use D3 (by omega) (by omega) (by omega) fun H4 r r0 r1 D4 k4 => ?_
          have hp4 := k4.get hp3 (by simp [fp.1, fp.2])
          walk_at "rd"
          refine ifd (fun c1 => ?_) (fun c1 => ?_)
          · walk_at "rd"
            refine r_LcEnd hp4 (by rw [List.length_map, sizeLine_eq]; omega) ⟨n3 + 1, fs ++ [w0], D4.kp (kpW hp4) (by simp [Ne.symm fp.1]) (by simp [Ne.symm fp.2]), by omega, (k3.trans k4).own hp, by rw [upd_same, List.map_append]; rfl, by rw [htk]; exact hl3.append (List.Sublist.refl _)⟩
          · exact ⟨n3 + 1, fs, D4, by omega, k3.trans k4, hp4, by rw [htk]; exact hl3.trans (List.sublist_append_left _ _)⟩
        · rintro H3 ⟨n3, fs, D3, e3, k3, hp3, hl3⟩
          rw [List.length_map] at e3 hl3
          rw [List.take_length] at hl3
          have M3 := Mc.kp k3 (by simp [fm.1, fm.2])
          have hp9 := hpc.kp k3
          walk_at "rd"
          refine r_tupL (SqL.of hp3) fun ft hft => ?_
          have kt : Kp [] H3 (upd H3 ft (.tup (fs.map V.int))) := Kp.nil.new hft
          have hsq : SqT K (upd H3 ft (.tup (fs.map V.int))) ft (fs.map V.int) := SqT.of upd_same
          have D4 := D3.kp kt (by simp) (by simp)
          have M4 := M3.kp kt (by simp)
          have hp4 := hp9.kp kt
          generalize upd H3 ft (.tup (fs.map V.int)) = H4 at hsq D4 M4 hp4 ⊢
          have hsub : ∀ x ∈ fs, x ∈ setP b := fun x hx => hl3.subset hx
          have hasc := (setP_asc b).sublist hl3
          have hok4 := hok.fixed hasc hsub
          have hlt : ∀ x ∈ fs, 0 ≤ x ∧ x < (Sm.sizes b : Int) := fun x hx => rdP_lt x (setP_rd (hsub x hx))
          have S4 : BSt K H4 pv ft b fs := ⟨hvp, hp4.dw, hsq, hlt, hasc, FxOk.len ⟨hlt, hasc⟩ hz⟩
          have hn3 : n3 ≤ na + 40030 := by omega
          clear kt hft hp3 hl3 k3 D3 M3 hp9 hsl fq fqm hqs1 hp Dc Mc hpc hsq hp4 hlt
          walk_at "rd"
          refine r_make ?_
          walk_at "rd"
          intro bo dx hbo hdx hne
          have k0 : Kp [] H4 (upd (upd H4 dx (.own bo)) bo (.ins C dx [])) := (Kp.nil.new hdx).new (by rw [upd_ne (Ne.symm hne)]; exact hbo)
          have hI0 : upd (upd H4 dx (.own bo)) bo (.ins C dx []) bo = some (.ins C dx []) := upd_same
          generalize upd (upd H4 dx (.own bo)) bo (.ins C dx []) = H0 at k0 hI0 ⊢
          refine ⟨bo, dx, ft, pv, b, fs, rfl, hI0, S4.kp k0, fun x hx => by rw [selP_rd]; exact setP_rd (hsub x hx), fun H5 g l un hl0 hu0 k9 hI9 hL9 hUn hG => ⟨rfl, ?_⟩⟩
          have k5 : Kp [] H4 H5 := Kp.own1 k0 hbo k9
          have S5 := S4.kp k5
          have D5 := D4.kp k5 (by simp) (by simp)
          have M5 := M4.kp k5 (by simp)
          have B5 : BnH K H5 C bo dx l un ⟨.none, b, fs⟩ [] [] := ⟨pv, pv, ft, g, ft, [], [], hI9, hL9, hUn, .nil, .nil, hG, S5, S5⟩
          have fl := D4.fresh (k0.freeM Ms.nil hl0)
          have fu := D4.fresh (k0.freeM Ms.nil hu0)
          have flm := Ne.symm (ne_of_none M4 (k0.freeM Ms.nil hl0))
          have fum := Ne.symm (ne_of_none M4 (k0.freeM Ms.nil hu0))
          clear k0 k9 k5 hI0 hI9 hL9 hUn hG S4 D4 M4 hl0 hu0 hbo hdx hne
          walk_at "rd"
          refine ⟨by walk_at "sz", fun p5 hp5 => ?_⟩
          have k6 : Kp [] H5 (upd H5 p5 (.tup [pv, .ref ft])) := Kp.nil.new hp5
          have hT6 : SqT K (upd H5 p5 (.tup [pv, .ref ft])) p5 [pv, .ref ft] := SqT.of upd_same
          have S6 := S5.kp k6
          have D6 := D5.kp k6 (by simp) (by simp)
          have M6 := M5.kp k6 (by simp)
          have B6 := B5.kp k6 (by simp) (by simp) (by simp)
          generalize upd H5 p5 (.tup [pv, .ref ft]) = H6 at hT6 S6 D6 M6 B6 ⊢
          clear k6 S5 D5 M5 B5 hp5
          walk_at "rd"
          refine ⟨p5, ft, pv, b, fs, m, rfl, hT6, S6, hok4, fun H7 q7 ss hq7 k7 h7 hpm hso => ?_⟩
          have D7 := D6.kp k7 (by simp) (by simp)
          have M7 := M6.kp k7 (by simp)
          have B7 := B6.kp k7 (by simp) (by simp) (by simp)
          have f7 := D6.fresh hq7
          have f7m := Ne.symm (ne_of_none M6 hq7)
          walk_at "rd"
          refine ⟨by walk_at "sz", fun pa hpa => ?_⟩
          have k8 : Kp [] H7 (upd H7 pa (.lst [.ref q7])) := Kp.nil.new hpa
          have h8 := k8.get h7 (by simp)
          have fp := D7.fresh hpa
          have fpm := Ne.symm (ne_of_none M7 hpa)
          have f7p := ne_of_none h7 hpa
          obtain ⟨_, _, _, _, _, _, _, _, hL7, hU7, _⟩ := id B7.ex
          have flp := ne_of_none hL7 hpa
          have fup := ne_of_none hU7 hpa
          have L0 : LyS K C d c mk pa bo dx ⟨.none, b, fs⟩ l un n3 m [] [] (upd H7 pa (.lst [.ref q7])) :=
            ⟨D7.kp k8 (by simp) (by simp), M7.kp k8 (by simp), B7.kp k8 (by simp) (by simp) (by simp), ⟨_, upd_same, Row2.snoc Row2.nil ⟨q7, ss, rfl, by simp [f7.1, f7.2, f7m, f7p], h8, hso, hpm, hok4⟩⟩, by simp [fl.1, fl.2, flm, flp], by simp [fu.1, fu.2, fum, fup], by simp [fp.1, fp.2, fpm], fm.1, fm.2⟩
          generalize upd H7 pa (.lst [.ref q7]) = H8 at L0 ⊢
          generalize (⟨.none, b, fs⟩ : HsT) = x0 at L0
          clear D7 M7 B7 D6 M6 B6 S6 hT6 k7 k8 h7 h8 hpm hso hL7 hU7 hq7 hpa hok4 hsub hasc hok hvp
          walk_at "rd"
          clear fl fu flm fum f7 f7m fp fpm f7p flp fup hz
          refine r_ForR (fun j σ H' => ∃ (n' : Int) (m : Nat) (l un : Addr) (xs us : List HsT) (y5 y11 y12 : Option V), σ = [some (.ref a), some (.ref d), some (.int (i : Nat)), some (.ref mk), some pv, y5, y6, some (.ref ft), y8, some (.ref bo), some (.ref pa), y11, y12] ∧
              LyS K C d c mk pa bo dx x0 l un n' m xs us H' ∧ n' ≤ na + 40030 + 2001 * j ∧ m ≤ 91 + j ∧ xs.length ≤ j ∧ us.length ≤ j) (by omega) (by omega)
            ⟨n3, m, l, un, [], [], _, _, _, rfl, L0, by omega, by omega, Nat.le_refl _, Nat.le_refl _⟩ ?_ ?_
          · clear L0
            rintro j σ Hb hj ⟨nj, m, l, un, xs, us, y5, y11, y12, rfl, L, hnj, hm, hxs, hus⟩
            have hj14 : j < 14 := hj
            have nj0 := L.D.n0
            obtain ⟨v9, w9, f9, g9, h9, ys9, zs9, hI9, hL9, hU9, hR9, _⟩ := id L.B.ex
            have hyl := hR9.len
            walk_at "rd"
            refine ⟨bo, dx, _, rfl, hI9, bo, dx, f9, g9, l, un, v9, ys9, rfl, hI9, hL9, by omega, ys9.length, rfl, by omega, ?_⟩
            obtain ⟨ps, q, ss, hPs, hpl, nq, hq, hso, hpm, hok⟩ := L.cur
            have hlast := at_lastV ps (.ref q)
            have nl := L.nl
            have nu := L.nu
            have np := L.np
            have nb := L.bn
            have nbo := nb.2.2.2.2
            simp only [List.mem_cons, List.not_mem_nil, or_false, not_or] at nl nu nq np nbo
            walk_at "rd"
            refine ⟨d, c, mk, q, bo, dx, l, un, nj, m, x0, xs, us, ss, rfl, L.D, by omega, L.M, by omega, L.n1, L.n2, L.B, by omega, by simp [nl], by simp [nu], hq, by simp [nq], hok, hpm, fun Hc a2 ss2 m2 nc Dc e1 e2 kc Mc e3 e4 ha2 ha3 hso2 hst => ?_⟩
            have hPc := kc.get hPs (by simp [np, nbo])
            rw [hyl]
            with_reducible refine r_name ?_
            with_reducible refine r_seqJ (fun σ H' => ∃ (l un : Addr) (xs us : List HsT) (y5 y11 y12 : Option V), σ = [some (.ref a), some (.ref d), some (.int (i : Nat)), some (.ref mk), some pv, y5, y6, some (.ref ft), y8, some (.ref bo), some (.ref pa), y11, y12] ∧
              LyS K C d c mk pa bo dx x0 l un nc m2 xs us H' ∧ xs.length ≤ j + 1 ∧ us.length ≤ j) (fun nx' kn => ?_) ?_
            · rcases hst with b1 | ⟨l2, un2, z, hl2, hu2, b1, hok2, hpm2⟩
              · have L1 := L.same kc Dc Mc e3 b1
                obtain ⟨v8, w8, f8, g8, h8, ys8, zs8, hI8, hL8, hU8, hR8, _⟩ := id b1.ex
                have hyl8 := hR8.len
                walk_at "rd"
                refine ⟨bo, dx, _, rfl, hI8, bo, dx, f8, g8, l, un, v8, ys8, rfl, hI8, hL8, by omega, ys8.length, rfl, by omega, ?_⟩
                rw [hyl8]
                walk_at "rd"
                refine ifd (fun c => absurd c (by omega)) fun _ => ?_
                walk_at "rd"
                exact kn _ _ ⟨l, un, xs, us, _, _, _, rfl, L1, by omega, hus⟩
              · obtain ⟨v8, w8, f8, g8, h8, ys8, zs8, hI8, hL8, hU8, hR8, _⟩ := id b1.ex
                have hyl8 := hR8.len
                rw [List.length_append, List.length_singleton] at hyl8
                have L1 := L.grown kc Dc Mc e3 b1 hl2 hu2 ha2 ha3 hso2 hpm2 hok2 hPc
                walk_at "rd"
                refine ⟨bo, dx, _, rfl, hI8, bo, dx, f8, g8, l2, un2, v8, ys8, rfl, hI8, hL8, by omega, ys8.length, rfl, by omega, ?_⟩
                rw [hyl8]
                walk_at "rd"
                refine ifd (fun _ => ?_) fun c => absurd (by omega) c
                walk_at "rd"
                rotate_left
                · rw [sizeLine_eq, List.length_append, List.length_singleton]
                  omega
                exact kn _ _ ⟨l2, un2, _, [], _, _, _, rfl, L1, by rw [List.length_append, List.length_singleton]; omega, Nat.zero_le _⟩
            · clear L hI9 hL9 hU9 hR9 hyl hPs hpl nq hq hso hpm hok hlast nl nu np nb nbo Dc kc Mc ha2 ha3 hso2 hst hPc hxs hus
              rintro σ Hc ⟨l, un, xs, us, y5, y11, y12, rfl, L, hxs, hus⟩
              have hm2 : m2 ≤ 105 := by omega
              have nc0 := L.D.n0
              have chk : ∀ {l un : Addr} {n : Int} {xs us : List HsT} {Hx : Hp} {y5 y6 y8 y11 y12 : Option V} (R : Bool → Hp → Prop), LyS K C d c mk pa bo dx x0 l un n m2 xs us Hx → (∀ Hy, Kp [] Hx Hy → R false Hy) →
                  tTest (tOp rNe (tCB (qRepr3 K) (tCons (tCall (spMarked K) [] E0 (tCons (tMeth C "state" (spState0 K C) [V.non] E0 (tVar 9) tNil) tNil)) tNil)) (tCB (qRepr3 K) (tCons (tOp (rIxL K) (tVar 10) (tUn (rU fun i => V.int (-i)) (tC (V.int 1)))) tNil)))
                    [some (.ref a), some (.ref d), some (.int (i : Nat)), some (.ref mk), some pv, y5, y6, some (.ref ft), y8, some (.ref bo), some (.ref pa), y11, y12] Hx R := by
                intro l un n xs us Hx y5 y6 y8 y11 y12 R L hR
                obtain ⟨fsx, hI⟩ := L.B.ins
                obtain ⟨v9, w9, f9, g9, h9, ys9, zs9, hI9, _⟩ := id L.B.ex
                obtain ⟨ps, q, ss, hPs, hpl, nq, hq, hso, hpm, hok⟩ := L.cur
                have hlast := at_lastV ps (.ref q)
                walk_at "rd"
                refine r_methD ?_
                walk_at "rd"
                refine ⟨bo, dx, _, rfl, hI9, rfl, ?_⟩
                walk_at "rd"
                refine ⟨bo, dx, l, un, x0, xs, us, rfl, L.B, fun Hg pp fp wp kg hTs hBs => ?_⟩
                walk_at "rd"
                refine ⟨pp, fp, wp, _, _, m2, rfl, hTs, hBs, hok, fun Hh q2 ss2 _ kh h2 hpm2 hso2 => ?_⟩
                have hss : ss2 = ss := sortedS_eq (hpm2.trans hpm.symm) hso2 hso
                subst hss
                have hsl : ss2.length ≤ 24 := by
                  have z := hpm2.length_eq
                  unfold nmsL at z
                  rw [List.length_map] at z
                  have := hBs.len
                  omega
                have hsh := shw_marks (fun x hx => hok.names (by omega) x (hpm2.mem_iff.mp hx)) (show ss2.length ≤ 30 by omega)
                have kgh := kg.trans kh
                have hPh := kgh.get hPs (by simp)
                have hqh := kgh.get hq (by simp)
                walk_at "rd"
                refine r_repr3 (dw_strs h2 (by omega)) hsh (by omega) (by omega) ?_
                walk_at "rd"
                refine r_repr3 (dw_strs hqh (by omega)) hsh (by omega) (by omega) ?_
                walk_at "rd"
                exact hR _ kgh
              obtain ⟨v9, w9, f9, g9, h9, ys9, zs9, hI9, hL9, hU9, hR9, _⟩ := id L.B.ex
              obtain ⟨ps, q, ss, hPs, hpl, nq, hq, hso, hpm, hok⟩ := L.cur
              have hyl := hR9.len
              with_reducible refine r_seq ?_
              with_reducible refine r_ifS ?_
              with_reducible refine r_or ?_
              refine chk _ L fun Hd kd => ?_
              replace L := L.kp kd
              replace hI9 := kd.get hI9 (by simp)
              replace hL9 := kd.get hL9 (by simp)
              replace hPs := kd.get hPs (by simp)
              walk_at "rd"
              refine ⟨bo, dx, _, rfl, hI9, bo, dx, f9, g9, l, un, v9, ys9, rfl, hI9, hL9, by omega, ys9.length, rfl, by omega, ?_⟩
              have hcn : (((ps ++ [V.ref q]).length : Nat) : Int) = ((ys9.length : Nat) : Int) + 1 := by
                rw [List.length_append, List.length_singleton]
                omega
              walk_at "rd"
              refine ifn (fun c => absurd (by rw [hcn]) c) fun _ => ?_
              walk_at "rd"
              refine spDraw.use L.D (by omega) (by omega) (by omega) fun He r r0 r1 De ke => ?_
              have nlu := L.nl
              have nuu := L.nu
              have nbb := L.bn.1
              have npp := L.np
              simp only [List.mem_cons, List.not_mem_nil, or_false, not_or] at nlu nuu nbb npp
              replace L := L.deck ke De
              replace hI9 := ke.get hI9 (by simp [nbb])
              replace hL9 := ke.get hL9 (by simp [nlu])
              replace hPs := ke.get hPs (by simp [npp])
              walk_at "rd"
              refine ifd (fun c1 => ?_) (fun c1 => ?_)
              · walk_at "rd"
                refine ⟨bo, dx, _, rfl, hI9, bo, dx, f9, g9, l, un, v9, ys9, rfl, hI9, hL9, by omega, ys9.length, rfl, by omega, ?_⟩
                rw [hyl]
                walk_at "rd"
                refine ifd (fun c2 => ?_) (fun c2 => ?_)
                · have hxne : xs ≠ [] := fun z => by
                    rw [z] at c2
                    simp at c2
                  obtain ⟨zs, z, rfl⟩ : ∃ zs z, xs = zs ++ [z] := ⟨xs.dropLast, xs.getLast hxne, (List.dropLast_concat_getLast hxne).symm⟩
                  rw [List.length_append, List.length_singleton] at hxs
                  walk_at "rd"
                  refine ⟨bo, dx, l, un, x0, zs ++ [z], us, rfl, L.B, by rw [List.length_append, List.length_singleton]; omega, by omega, fun e => by simp at e, fun zs2 z2 ez Hf l2 un2 hl2 hu2 kf Bf => ?_⟩
                  obtain ⟨rfl, e4⟩ := List.append_inj' ez rfl
                  obtain rfl : z = z2 := by simpa using e4
                  obtain ⟨ys2, y2', hys2, Lf⟩ := L.popped kf Bf hl2 hu2
                  walk_at "rd"
                  refine r_pop hys2 ?_
                  with_reducible refine r_ifS ?_
                  refine chk _ Lf fun Hg kg => ?_
                  walk_at "rd"
                  exact ⟨nc + 1, m2, l2, un2, zs, us ++ [z], _, _, _, rfl, Lf.kp kg, by omega, by omega, by omega, by rw [List.length_append, List.length_singleton]; omega⟩
                · walk_at "rd"
                  exact ⟨nc + 1, m2, l, un, xs, us, _, _, _, rfl, L, by omega, by omega, by omega, by omega⟩
              · walk_at "rd"
                exact ⟨nc + 1, m2, l, un, xs, us, _, _, _, rfl, L, by omega, by omega, by omega, by omega⟩
          · rintro σ Hb ⟨nj, m, l, un, xs, us, y5, y11, y12, rfl, L, hnj, hm, hxs, hus⟩
            exact ⟨nj, _, _, _, _, _, _, _, _, _, _, _, rfl, L.D, by omega⟩
  · rintro σ Ha ⟨na, y2, y3, y4, y5, y6, y7, y8, y9, y10, y11, y12, rfl, Da, hna⟩
    walk_at "rd"
    exact k _
/-- what the top holds for the family of program_error -/
structure PeTop (mg : Str → Option Value) (K : PySem.W.Frag) : Prop where
  MAX_NAME : ∃ t, mg "MAX_NAME" = some (.int 8 t)
  MAX_WORD : ∃ t, mg "MAX_WORD" = some (.int 8 t)
  MAX_TIMES : ∃ t, mg "MAX_TIMES" = some (.int 8 t)
  MAX_DEEP : ∃ t, mg "MAX_DEEP" = some (.int 3 t)
  MAX_NOTS : ∃ t, mg "MAX_NOTS" = some (.int 2 t)
  MAX_BY : ∃ t, mg "MAX_BY" = some (.int 6 t)
  MAX_PLACES : ∃ t, mg "MAX_PLACES" = some (.int 24 t)
  MAX_WEIGHT : ∃ t, mg "MAX_WEIGHT" = some (.int 30 t)
  MAX_RESTS : ∃ t, mg "MAX_RESTS" = some (.int 2 t)
  MAX_COMPARINGS : ∃ t, mg "MAX_COMPARINGS" = some (.int 2 t)
  MAX_NEST : ∃ t, mg "MAX_NEST" = some (.int 3 t)
  MOST_NUMBER : ∃ t, mg "MOST_NUMBER" = some (.int 99 t)
  MOST_FACTOR : ∃ t, mg "MOST_FACTOR" = some (.int 9 t)
  LETTERS : ∃ t, mg "LETTERS" = some (.str LETT t)
  SIGNS : ∃ t, mg "SIGNS" = some (.str SGN t)
  UNSURE_programs : ∃ t, mg "UNSURE_programs" = some (.str "unsure" t)
  KEPT : ∃ a, mg "KEPT" = some (.ref a) ∧ ∀ H : Hp, SqT K H a (KEPTS.map V.str)
/-- is_name, is_expression, is_test, is_statement .. -/
structure PeHas (P : Program) (w : World) (K : PySem.W.Frag) (mg : Str → Option Value) (base : Heap) : Prop where
  whole : Has P w K mg base CX0 "is_whole" ["value", "least", "most"] 1 (spWhole K)
  blocks : Has P w K mg base CX0 "blocks_of" ["statement"] 1 (spBlocks K)
  rows : Has P w K mg base CX0 "rows_of_programs" ["program"] 3 (spRows K)
  counted : Has P w K mg base CX0 "counted" ["block", "sort"] 7 (spCnt K 4)
  weight : Has P w K mg base CX0 "weight" ["program"] 8 (spWt K)
  rowsX : Has P w K mg base CX0 "rows_of_programs" ["program"] 3 (spRowsX K)
  error : Has P w K mg base CX0 "program_error" ["value"] 12 (spPerr K)
theorem pe_has (T : PeTop mg K) (B : Blt mg) (D1 : Df K mg "is_whole" sis_whole Pis_whole) (D2 : Df K mg "is_word" sis_word Pis_word) (D3 : Df K mg "is_name" sis_name Pis_name)
    (D4 : Df K mg "is_expression" sis_expression Pis_expression) (D5 : Df K mg "is_rest" sis_rest Pis_rest) (D6 : Df K mg "is_test" sis_test Pis_test) (D7 : Df K mg "is_plain" sis_plain Pis_plain)
    (D8 : Df K mg "is_statement" sis_statement Pis_statement) (D9 : Df K mg "blocks_of" sblocks_of Pblocks_of) (D10 : Df K mg "items_within" sitems_within Pitems_within) (D11 : DfA K mg "rows_of_programs" "rows_of" srows_of_programs Prows_of_programs)
    (D12 : Df K mg "order_error" sorder_error Porder_error) (D13 : Df K mg "bare" sbare Pbare) (D14 : Df K mg "own_count" sown_count Pown_count) (D15 : Df K mg "counted" scounted Pcounted)
    (D16 : Df K mg "weight" sweight Pweight) (D17 : Df K mg "program_error" sprogram_error Pprogram_error) : PeHas P w K mg base := by
  obtain ⟨⟨_, e1⟩, ⟨_, e2⟩, ⟨_, e3⟩, ⟨_, e4⟩, ⟨_, e5⟩, ⟨_, e6⟩, ⟨_, e7⟩, ⟨_, e8⟩, ⟨_, e9⟩, ⟨_, e10⟩, ⟨_, e11⟩, ⟨_, e12⟩, ⟨_, e13⟩, ⟨_, e14⟩, ⟨_, e15⟩, ⟨_, e16⟩, ⟨aK, e17, hK⟩⟩ := T
  have G1 := ok_is_whole (P := P) (w := w) (base := base) D1 B
  have G2 := ok_is_word (P := P) (w := w) (base := base) D2 B e2 e16 e15
  have G3 := ok_is_name (P := P) (w := w) (base := base) D3 B e1 e14 e17 hK e15
  have G4 : ∀ n, Has P w K mg base CX0 "is_expression" Pis_expression (n + 2) (spAskN K isExpr n) := by
    intro n
    induction n with
    | zero => exact ok_is_expression1 (lv := 1) D4 B (by omega) e12 e13 G1 G3 ((D4.void (sp := fun _ _ _ _ => False) fun _ _ _ _ h => h).mono (by omega)) fun m h => by omega
    | succ n ih =>
      exact ok_is_expression1 (lv := n + 2) D4 B (by omega) e12 e13 G1 G3 ih fun m h => by
        obtain rfl : n = m := by omega
        rfl
  have G5 := ok_is_rest (lv := 5) D5 B (by omega) e4 e6 G1 (G4 3)
  have G6 : ∀ n, Has P w K mg base CX0 "is_test" Pis_test (n + 7) (spAskN K isTest n) := by
    intro n
    induction n with
    | zero => exact ok_is_test1 (lv := 6) D6 B (by omega) e4 G5 G3 (G4 3) ((D6.void (sp := fun _ _ _ _ => False) fun _ _ _ _ h => h).mono (by omega)) fun m h => by omega
    | succ n ih =>
      exact ok_is_test1 (lv := n + 7) D6 B (by omega) e4 G5 G3 (G4 3) ih fun m h => by
        obtain rfl : n = m := by omega
        rfl
  have G7 := ok_is_plain D7 B e4 G2 G3 (G4 3)
  have G8 := ok_is_statement D8 B e5 e3 G1 (G6 2) G7
  have G9X := ok_blocks_of (P := P) (w := w) (base := base) D9 B
  have G9 := G9X.imp (sp' := spBlocks K) fun _ _ _ _ h => spBlocksX.old h
  have G10X := ok_items_within D10 B G9X
  have G10 := G10X.imp (sp' := spItems K) fun _ _ _ _ h => spItemsX.old h
  have G11X := ok_rows_of_programs D11 B G10X
  have G11 := G11X.imp (sp' := spRows K) fun _ _ _ _ h => spRowsX.old h
  have G12 := ok_order_error D12 B e11 G8 G10
  have G14 := ok_own_count D14 B (ok_bare (P := P) (w := w) (base := base) D13 B)
  have G15 : ∀ n, Has P w K mg base CX0 "counted" Pcounted (n + 3) (spCnt K n) := by
    intro n
    induction n with
    | zero => exact ok_counted1 (lv := 2) D15 B (by omega) G9 G14 ((D15.void (sp := fun _ _ _ _ => False) fun _ _ _ _ h => h).mono (by omega)) fun m h => by omega
    | succ n ih =>
      exact ok_counted1 (lv := n + 3) D15 B (by omega) G9 G14 ih fun m h => by
        obtain rfl : n = m := by omega
        rfl
  have G16 := ok_weight D16 B (G15 4)
  exact ⟨G1, G9, G11, G15 4, G16, G11X, ok_program_error D17 B e7 e8 e9 e10 G12 G11 (G15 4) G16⟩
/-- what stands of benches -/
structure BnHas (P : Program) (w : World) (K : PySem.W.Frag) (mg : Str → Option Value) (base : Heap) (C : Addr) (A : ErA) : Prop where
  need : Has P w K mg base (L2.CX P w) "need_program" ["value"] 13 (spNeed K A.B)
  fix : Has P w K mg base CX0 "is_fix" ["program", "value"] 8 (spFixT K)
  placed : Has P w K mg base (L2.CX P w) "placed_at" ["program", "place"] 7 (spPlacedAt K A.N)
  stmts : Has P w K mg base CX0 "statements_in" ["block"] 9 (spStmts K 4)
  edited : Has P w K mg base (L2.CX P w) "edited" ["program", "fix", "edit"] 15 (spEdited K A)
  stand : HasM P w K mg base CX0 C "stand" ["self", "standing"] 1 (spStand K C)
  idle : HasM P w K mg base CX0 C "idle" ["self"] 1 (spIdle K C)
  ready : HasM P w K mg base CX0 C "ready" ["self"] 2 (spReady K C)
  judge : HasM P w K mg base CX0 C "judge" ["self", "pair"] 1 spJudge
  settle : HasM P w K mg base CX0 C "settle" ["self", "edit", "pair"] 2 (spSettle K C)
  do_ : HasM P w K mg base (L2.CX P w) C "do" ["self", "edit"] 16 (spDo K A C)
  add : HasM P w K mg base (L2.CX P w) C "add" ["self", "statement"] 17 (spEdM K A C "add")
  drop : HasM P w K mg base (L2.CX P w) C "drop" ["self", "place"] 17 (spEdM K A C "drop")
  change : HasM P w K mg base (L2.CX P w) C "change" ["self", "place", "statement"] 17 (spEdM K A C "change")
  hold : HasM P w K mg base (L2.CX P w) C "hold" ["self", "place"] 17 (spEdM K A C "hold")
  free : HasM P w K mg base (L2.CX P w) C "free" ["self", "place"] 17 (spEdM K A C "free")
  init : HasC P w K mg base CX0 "Bench" C ["self", "program", "fix"] 14 (spInitB K C)
/-- the errors of edits -/
structure ErHas (P : Program) (w : World) (K : PySem.W.Frag) (mg : Str → Option Value) (base : Heap) (A : ErA) : Prop where
  N : HasH P w K mg base "NoPlace" A.N ["self", "place"] 1 (spErr A.N "place")
  R : HasH P w K mg base "NoReader" A.R ["self", "place"] 1 (spErr A.R "place")
  I : HasH P w K mg base "IsHeld" A.I ["self", "place"] 1 (spErr A.I "place")
  F : HasH P w K mg base "NotHeld" A.F ["self", "place"] 1 (spErr A.F "place")
  B : HasH P w K mg base "BadProgram" A.B ["self", "error"] 1 (spErr A.B "error")
theorem bn_has {C R : Addr} {R2 : Addr} {A : ErA} {t1 : Tok} (B : Blt mg) (T : BnT K C) (GP : PeHas P w K mg base) (GE : ErHas P w K mg base A) (g_MAX_EDITS : mg "MAX_EDITS" = some (.int 60 t1)) (gR : GStrs K mg "READERS_benchedits" R RDS) (gR2 : GStrs K mg "READERS_fixes" R2 RDS)
    (m1 : PySem.W.makesIn K C = true) (kc : PySem.W.keepIn K (.ref C) = true) (mB : mg "Bench" = some (.ref C))
    (Deach_statement : Df K mg "each_statement" seach_statement Peach_statement) (Dreader_places : Df K mg "reader_places" sreader_places Preader_places) (Dis_integer_lattices : DfA K mg "is_integer_lattices" "is_integer" sis_integer_lattices Pis_integer_lattices) (Dis_fix : Df K mg "is_fix" sis_fix Pis_fix) (Dneed_program : Df K mg "need_program" sneed_program Pneed_program) (Dstatements_in : Df K mg "statements_in" sstatements_in Pstatements_in) (Dsize_of : Df K mg "size_of" ssize_of Psize_of) (Dall_in : Df K mg "all_in" sall_in Pall_in) (Dplaced_at : Df K mg "placed_at" splaced_at Pplaced_at) (Dwith_others : Df K mg "with_others" swith_others Pwith_others) (Dwith_inner : Df K mg "with_inner" swith_inner Pwith_inner) (Dmoved : Df K mg "moved" smoved Pmoved) (Dadded : Df K mg "added" sadded Padded) (Ddropped : Df K mg "dropped" sdropped Pdropped) (Dchanged : Df K mg "changed" schanged Pchanged) (Dheld_too : Df K mg "held_too" sheld_too Pheld_too) (Dfreed : Df K mg "freed" sfreed Pfreed) (Dedited : Df K mg "edited" sedited Pedited)
    (DBench_stand : DfM K C "stand" "Bench.stand" sBench_stand PBench_stand) (DBench_idle : DfM K C "idle" "Bench.idle" sBench_idle PBench_idle) (DBench_ready : DfM K C "ready" "Bench.ready" sBench_ready PBench_ready) (DBench_judge : DfM K C "judge" "Bench.judge" sBench_judge PBench_judge) (DBench_settle : DfM K C "settle" "Bench.settle" sBench_settle PBench_settle) (DBench_do : DfM K C "do" "Bench.do" sBench_do PBench_do) (DBench_add : DfM K C "add" "Bench.add" sBench_add PBench_add) (DBench_drop : DfM K C "drop" "Bench.drop" sBench_drop PBench_drop) (DBench_change : DfM K C "change" "Bench.change" sBench_change PBench_change) (DBench_hold : DfM K C "hold" "Bench.hold" sBench_hold PBench_hold) (DBench_free : DfM K C "free" "Bench.free" sBench_free PBench_free) (DBench___init__ : DfMD K C "__init__" "Bench.__init__" sBench___init__ PBench___init__) : BnHas P w K mg base C A := by
  have G1 := ok_each_statement Deach_statement B GP.rowsX
  have G2 := ok_reader_places Dreader_places B gR2 G1
  have G3 := ok_is_integer_lattices (P := P) (w := w) (base := base) Dis_integer_lattices B
  have G4 := ok_is_fix Dis_fix B G2 G3
  have G5 := ok_need_program Dneed_program B GP.error GE.B
  have G6 : ∀ n, Has P w K mg base CX0 "statements_in" Pstatements_in (2 * n + 1) (spStmts K n) := by
    intro n
    induction n with
    | zero => exact ok_statements_in1 (lv := 0) Dstatements_in B ((Dsize_of.void (sp := fun _ _ _ _ => False) fun _ _ _ _ h => h).mono (by omega)) fun m h => by omega
    | succ n ih =>
      exact ok_statements_in1 (lv := 2 * n + 2) Dstatements_in B (ok_size_of1 (lv := 2 * n + 1) Dsize_of B ih) fun m h => by
        obtain rfl : n = m := by omega
        rfl
  have G7 : ∀ n, Has P w K mg base CX0 "size_of" Psize_of (2 * n + 2) (spSize K n) := fun n => ok_size_of1 (lv := 2 * n + 1) Dsize_of B (G6 n)
  have G8 : ∀ n, Has P w K mg base CX0 "with_others" Pwith_others (2 * n + 3) (spPutB K n) := by
    intro n
    induction n with
    | zero => exact ok_with_others1 (lv := 2) Dwith_others B ((Dsize_of.void (sp := fun _ _ _ _ => False) fun _ _ _ _ h => h).mono (by omega)) ((Dwith_inner.void (sp := fun _ _ _ _ => False) fun _ _ _ _ h => h).mono (by omega)) (fun m h => by omega) fun m h => by omega
    | succ n ih =>
      exact ok_with_others1 (lv := 2 * n + 4) Dwith_others B ((G7 n).mono (by omega)) (ok_with_inner1 (lv := 2 * n + 3) Dwith_inner B ((G6 n).mono (by omega)) ih) (fun m h => by
        obtain rfl : n = m := by omega
        rfl) fun m h => by
        obtain rfl : n = m := by omega
        rfl
  have G9 : ∀ n, Has P w K mg base CX0 "all_in" Pall_in (n + 2) (spAllIn K n) := by
    intro n
    induction n with
    | zero => exact ok_all_in1 (lv := 1) Dall_in B (by omega) GP.blocks ((Dall_in.void (sp := fun _ _ _ _ => False) fun _ _ _ _ h => h).mono (by omega)) fun m h => by omega
    | succ n ih =>
      exact ok_all_in1 (lv := n + 2) Dall_in B (by omega) GP.blocks ih fun m h => by
        obtain rfl : n = m := by omega
        rfl
  have G10 := ok_placed_at Dplaced_at B GP.whole (G9 4) GE.N
  have G11 := ok_moved (P := P) (w := w) (base := base) Dmoved B
  have GS := (G7 3).mono (k := 12) (by omega)
  have GW := (G8 4).mono (k := 13) (by omega)
  have H1 := ok_added (A := A) Dadded B G5
  have H2 := ok_dropped (A := A) Ddropped B G5 G10 GS GW G11
  have H3 := ok_changed (A := A) Dchanged B G5 G10 GS GW G11
  have H4 := ok_held_too (A := A) Dheld_too B gR.at_ gR.sq G10 GE.R GE.I
  have H5 := ok_freed (A := A) Dfreed B G10 GE.F
  have H6 := ok_edited Dedited B H1 H2 H3 H4 H5
  have M1 := ok_Bench_stand (P := P) (w := w) (mg := mg) (base := base) DBench_stand B T
  have M2 := ok_Bench_idle (P := P) (w := w) (mg := mg) (base := base) DBench_idle B T
  have M3 := ok_Bench_ready DBench_ready B T g_MAX_EDITS M2
  have M4 := ok_Bench_judge (P := P) (w := w) (mg := mg) (base := base) DBench_judge B
  have M5 := ok_Bench_settle DBench_settle B T M4 M1
  have M6 := ok_Bench_do DBench_do B T M3 M5 H6
  exact ⟨G5, G4, G10, G6 4, H6, M1, M2, M3, M4, M5, M6, ok_Bench_add DBench_add B T M6, ok_Bench_drop DBench_drop B T M6, ok_Bench_change DBench_change B T M6, ok_Bench_hold DBench_hold B T M6, ok_Bench_free DBench_free B T M6,
    HasC.of8 (ok_Bench_init DBench___init__ B T G5 G4) m1 kc mB⟩
theorem rows_has (D : Df K mg "_law_rows" s_law_rows P_law_rows) (B : Blt mg) : ∀ n, Has P w K mg base CX0 "_law_rows" P_law_rows (n + 1) (spRowsB K n) := by
  intro n
  induction n with
  | zero => exact ok_law_rows1 (lv := 0) D B ((D.void (sp := fun _ _ _ _ => False) fun _ _ _ _ h => h).mono (by omega)) fun m h => by omega
  | succ n ih =>
    exact ok_law_rows1 (lv := n + 1) D B ih fun m h => by
      obtain rfl : n = m := by omega
      rfl
theorem k20_has {C U : Addr} {A : ErA} (B : Blt mg) (T : BnT K C) (hM : ∃ mm, base.Ns sysModules mm) (GP : PeHas P w K mg base) (GB : BnHas P w K mg base C A) (GL : HasM P w K mg base CX0 C "__len__" ["self"] 1 (spLenB C)) (eU : Er0 K mg "NothingToUndo" U)
    (DBench_undo : DfM K C "undo" "Bench.undo" sBench_undo PBench_undo) (DBench_state : DfMK K C "state" "Bench.state" sBench_state PBench_state [.non]) (Dstatement_at : Df K mg "statement_at" sstatement_at Pstatement_at)
    (D_law_deck : Df K mg "_law_deck" s_law_deck P_law_deck) (D_law_draw : Df K mg "_law_draw" s_law_draw P_law_draw) (D_law_one : Df K mg "_law_one" s_law_one P_law_one) (D_law_rows : Df K mg "_law_rows" s_law_rows P_law_rows) (D_law_marked_set : Df K mg "_law_marked_set" s_law_marked_set P_law_marked_set) (D_law_tree : Df K mg "_law_tree" s_law_tree P_law_tree) (D_law_setters : Df K mg "_law_setters" s_law_setters P_law_setters) (D_law_marked : Df K mg "_law_marked" s_law_marked P_law_marked) (D_law_marks : Df K mg "_law_marks" s_law_marks P_law_marks) (D_law_step : Df K mg "_law_step" s_law_step P_law_step) (Dlaw : Df K mg "law" slaw Plaw) : Has P w K mg base CX0 "law" Plaw 31 (spLaw K) := by
  have G1 := ok_law_deck (P := P) (w := w) (base := base) D_law_deck B
  have G2 := ok_law_draw (P := P) (w := w) (base := base) D_law_draw B
  have G3 := ok_law_one D_law_one B G2
  have R := rows_has (P := P) (w := w) (base := base) D_law_rows B 4
  have S1 := ok_statement_at Dstatement_at B GP.rows GP.whole
  have S2 := ok_law_marked_set D_law_marked_set B G3
  have S3 : ∀ n, n ≤ 3 → Has P w K mg base CX0 "_law_tree" P_law_tree (n + 4) (spTree K n) := by
    intro n
    induction n with
    | zero => exact fun _ => ok_law_tree1 (lv := 3) D_law_tree B (by omega) (by omega) G2 G3 S2 ((D_law_tree.void (sp := fun _ _ _ _ => False) fun _ _ _ _ h => h).mono (by omega)) fun m h => by omega
    | succ n ih =>
      exact fun hn => ok_law_tree1 (lv := n + 4) D_law_tree B (by omega) hn G2 G3 S2 (ih (by omega)) fun m h => by
        obtain rfl : n = m := by omega
        rfl
  have S4 := ok_law_setters (lv := 5) D_law_setters B (by omega) R
  have S5 := ok_law_marked D_law_marked B S1
  have S6 := ok_law_marks (lv := 5) D_law_marks B (by omega) R
  have S7 := ok_law_step (lv := 17) D_law_step B T (by omega) G2 G3 (R.mono (by omega)) ((S3 1 (by omega)).mono (by omega)) (S4.mono (by omega)) (GP.error.mono (by omega)) S2 (S6.mono (by omega)) GB.add GB.drop GB.change GB.hold GB.free
  have M1 := ok_Bench_undo (P := P) (w := w) (base := base) DBench_undo B T eU GB.idle GB.stand
  have M3 := ok_Bench_state (P := P) (w := w) (mg := mg) (base := base) DBench_state B T
  exact ok_law (lv := 30) Dlaw B T hM (by omega) G1 G2 ((S3 3 (by omega)).mono (by omega)) (GP.error.mono (by omega)) S2 (S4.mono (by omega)) S5 (S7.mono (by omega)) GB.init M3 M1 GL
end
end Aw
open PySem PySem.W PySem.Calls PyProof.Rows in
set_option maxRecDepth 100000 in
set_option maxHeartbeats 0 in
theorem PySem.Challenge.cw_anewread_k20_whole_held_places_go_with_t_holds : PySem.Challenge.rw_anewread_k20_whole_held_places_go_with_t.Holds := by
  w_on; o_law
  refine HandSHeadRun.head_any (r := Aw.hdR) (q := Aw.hdV) (H := Aw.hookX Aw.hdA Aw.hdC Aw.hdF) (ob := Aw.obX Aw.hdA Aw.hdC Aw.hdF) (M := 14000) (loose := Aw.hdN) (d := HandSHeadRun.topDef Aw.hdR.prog 143) (kwd := []) (Aw.obX_eq Aw.hdA Aw.hdC Aw.hdF)
    (by kernel_rfl) (fun s => by kernel_rfl) Aw.hd_run (by kernel_rfl) (by kernel_rfl) (by kernel_rfl) (by rfl) (by first | assumption | decide +kernel) (by decide +kernel) ⟨rfl, rfl, rfl, rfl, rfl, by decide +kernel⟩ ?hw ?hc
  case hw => w_witness2
  case hc =>
    refine Aw.walkGE (l := PySem.Challenge.rw_anewread_k20_whole_held_places_go_with_t) (k := 40) (x := "_law_script") rfl (by kernel_rfl) (by kernel_rfl) ⟨⟨rfl, by decide, by decide⟩, rfl⟩ ?F (by kernel_rfl)
    intro w mg h Y G
    obtain ⟨K, KX, c⟩ := Y
    refine ⟨K, KX, fun base _ _ hSys => ?_⟩
    have f_b_len : (He.Fa.free "len").ok K = true := c.fact 0
    have f_b_int : (He.Fa.free "int").ok K = true := c.fact 1
    have f_b_abs : (He.Fa.free "abs").ok K = true := c.fact 2
    have f_b_str : (He.Fa.free "str").ok K = true := c.fact 3
    have f_b_bool : (He.Fa.free "bool").ok K = true := c.fact 4
    have f_b_range : (He.Fa.free "range").ok K = true := c.fact 5
    have f_b_isinstance : (He.Fa.free "isinstance").ok K = true := c.fact 6
    have f_b_tuple : (He.Fa.free "tuple").ok K = true := c.fact 7
    have f_b_list : (He.Fa.free "list").ok K = true := c.fact 8
    have f_b_repr : (He.Fa.free "repr").ok K = true := c.fact 9
    have f_b_zip : (He.Fa.free "zip").ok K = true := c.fact 10
    have f_b_enumerate : (He.Fa.free "enumerate").ok K = true := c.fact 11
    have f_b_sum : (He.Fa.free "sum").ok K = true := c.fact 12
    have f_b_min : (He.Fa.free "min").ok K = true := c.fact 13
    have f_b_max : (He.Fa.free "max").ok K = true := c.fact 14
    have f_b_all : (He.Fa.free "all").ok K = true := c.fact 15
    have f_b_any : (He.Fa.free "any").ok K = true := c.fact 16
    have f_b_sorted : (He.Fa.free "sorted").ok K = true := c.fact 17
    have f_b_dict : (He.Fa.free "dict").ok K = true := c.fact 18
    have f_d_is_whole : (He.Fa.glo "is_whole").ok K = true := c.fact 19
    have f_d_is_word : (He.Fa.glo "is_word").ok K = true := c.fact 20
    have f_d_is_name : (He.Fa.glo "is_name").ok K = true := c.fact 21
    have f_d_is_expression : (He.Fa.glo "is_expression").ok K = true := c.fact 22
    have f_d_is_rest : (He.Fa.glo "is_rest").ok K = true := c.fact 23
    have f_d_is_test : (He.Fa.glo "is_test").ok K = true := c.fact 24
    have f_d_is_plain : (He.Fa.glo "is_plain").ok K = true := c.fact 25
    have f_d_is_statement : (He.Fa.glo "is_statement").ok K = true := c.fact 26
    have f_d_blocks_of : (He.Fa.glo "blocks_of").ok K = true := c.fact 27
    have f_d_items_within : (He.Fa.glo "items_within").ok K = true := c.fact 28
    have f_d_rows_of_programs : (He.Fa.glo "rows_of_programs").ok K = true := c.fact 29
    have f_d_each_statement : (He.Fa.glo "each_statement").ok K = true := c.fact 30
    have f_d_reader_places : (He.Fa.glo "reader_places").ok K = true := c.fact 31
    have f_d_is_integer_lattices : (He.Fa.glo "is_integer_lattices").ok K = true := c.fact 32
    have f_d_is_fix : (He.Fa.glo "is_fix").ok K = true := c.fact 33
    have f_d_order_error : (He.Fa.glo "order_error").ok K = true := c.fact 34
    have f_d_bare : (He.Fa.glo "bare").ok K = true := c.fact 35
    have f_d_own_count : (He.Fa.glo "own_count").ok K = true := c.fact 36
    have f_d_counted : (He.Fa.glo "counted").ok K = true := c.fact 37
    have f_d_weight : (He.Fa.glo "weight").ok K = true := c.fact 38
    have f_d_program_error : (He.Fa.glo "program_error").ok K = true := c.fact 39
    have f_d_need_program : (He.Fa.glo "need_program").ok K = true := c.fact 40
    have f_d_statements_in : (He.Fa.glo "statements_in").ok K = true := c.fact 41
    have f_d_size_of : (He.Fa.glo "size_of").ok K = true := c.fact 42
    have f_d_all_in : (He.Fa.glo "all_in").ok K = true := c.fact 43
    have f_d_placed_at : (He.Fa.glo "placed_at").ok K = true := c.fact 44
    have f_d_with_others : (He.Fa.glo "with_others").ok K = true := c.fact 45
    have f_d_with_inner : (He.Fa.glo "with_inner").ok K = true := c.fact 46
    have f_d_moved : (He.Fa.glo "moved").ok K = true := c.fact 47
    have f_d_added : (He.Fa.glo "added").ok K = true := c.fact 48
    have f_d_dropped : (He.Fa.glo "dropped").ok K = true := c.fact 49
    have f_d_changed : (He.Fa.glo "changed").ok K = true := c.fact 50
    have f_d_held_too : (He.Fa.glo "held_too").ok K = true := c.fact 51
    have f_d_freed : (He.Fa.glo "freed").ok K = true := c.fact 52
    have f_d_edited : (He.Fa.glo "edited").ok K = true := c.fact 53
    have f_d_BadProgram___init__ : (He.Fa.meth "BadProgram" "__init__").ok K = true := c.fact 54
    have f_d_NoReader___init__ : (He.Fa.meth "NoReader" "__init__").ok K = true := c.fact 55
    have f_d_IsHeld___init__ : (He.Fa.meth "IsHeld" "__init__").ok K = true := c.fact 56
    have f_d_NotHeld___init__ : (He.Fa.meth "NotHeld" "__init__").ok K = true := c.fact 57
    have f_d_statement_at : (He.Fa.glo "statement_at").ok K = true := c.fact 58
    have f_d_NoPlace___init__ : (He.Fa.meth "NoPlace" "__init__").ok K = true := c.fact 59
    have f_d_Bench_stand : (He.Fa.meth "Bench" "stand").ok K = true := c.fact 60
    have f_d_Bench_idle : (He.Fa.meth "Bench" "idle").ok K = true := c.fact 61
    have f_d_Bench_ready : (He.Fa.meth "Bench" "ready").ok K = true := c.fact 62
    have f_d_Bench_judge : (He.Fa.meth "Bench" "judge").ok K = true := c.fact 63
    have f_d_Bench_settle : (He.Fa.meth "Bench" "settle").ok K = true := c.fact 64
    have f_d_Bench_do : (He.Fa.meth "Bench" "do").ok K = true := c.fact 65
    have f_d_Bench_add : (He.Fa.meth "Bench" "add").ok K = true := c.fact 66
    have f_d_Bench_drop : (He.Fa.meth "Bench" "drop").ok K = true := c.fact 67
    have f_d_Bench_change : (He.Fa.meth "Bench" "change").ok K = true := c.fact 68
    have f_d_Bench_hold : (He.Fa.meth "Bench" "hold").ok K = true := c.fact 69
    have f_d_Bench_free : (He.Fa.meth "Bench" "free").ok K = true := c.fact 70
    have f_d_Bench___len__ : (He.Fa.meth "Bench" "__len__").ok K = true := c.fact 71
    have f_d_Bench___init__ : (He.Fa.meth "Bench" "__init__").ok K = true := c.fact 72
    have f_d_Bench_undo : (He.Fa.meth "Bench" "undo").ok K = true := c.fact 73
    have f_d_Bench_state : (He.Fa.meth "Bench" "state").ok K = true := c.fact 74
    have f_d__law_deck : (He.Fa.glo "_law_deck").ok K = true := c.fact 75
    have f_d__law_draw : (He.Fa.glo "_law_draw").ok K = true := c.fact 76
    have f_d__law_one : (He.Fa.glo "_law_one").ok K = true := c.fact 77
    have f_d__law_rows : (He.Fa.glo "_law_rows").ok K = true := c.fact 78
    have f_d__law_marked_set : (He.Fa.glo "_law_marked_set").ok K = true := c.fact 79
    have f_d__law_tree : (He.Fa.glo "_law_tree").ok K = true := c.fact 80
    have f_d__law_setters : (He.Fa.glo "_law_setters").ok K = true := c.fact 81
    have f_d__law_marked : (He.Fa.glo "_law_marked").ok K = true := c.fact 82
    have f_d__law_marks : (He.Fa.glo "_law_marks").ok K = true := c.fact 83
    have f_d__law_step : (He.Fa.glo "_law_step").ok K = true := c.fact 84
    have f_d_law : (He.Fa.glo "law").ok K = true := c.fact 85
    have f_e_ReadError : Aw.efcB "ReadError" "ValueError.__new__" Aw.veT (fun _ => Aw.veT) K = true := c.fact 86
    have f_e_BadProgram : Aw.efcB "BadProgram" "ValueError.__new__" Aw.veT (fun K => .ref (He.ga K "ReadError") :: Aw.veT) K = true := c.fact 87
    have f_n_BadProgram : (He.Fa.noat "BadProgram" "error").ok K = true := c.fact 88
    have f_e_NoReader : Aw.efcB "NoReader" "ValueError.__new__" Aw.veT (fun K => .ref (He.ga K "ReadError") :: Aw.veT) K = true := c.fact 89
    have f_n_NoReader : (He.Fa.noat "NoReader" "place").ok K = true := c.fact 90
    have f_e_IsHeld : Aw.efcB "IsHeld" "ValueError.__new__" Aw.veT (fun K => .ref (He.ga K "ReadError") :: Aw.veT) K = true := c.fact 91
    have f_n_IsHeld : (He.Fa.noat "IsHeld" "place").ok K = true := c.fact 92
    have f_e_NotHeld : Aw.efcB "NotHeld" "ValueError.__new__" Aw.veT (fun K => .ref (He.ga K "ReadError") :: Aw.veT) K = true := c.fact 93
    have f_n_NotHeld : (He.Fa.noat "NotHeld" "place").ok K = true := c.fact 94
    have f_e_NoPlace : Aw.efcB "NoPlace" "LookupError.__new__" Aw.leT (fun _ => Aw.leT) K = true := c.fact 95
    have f_n_NoPlace : (He.Fa.noat "NoPlace" "place").ok K = true := c.fact 96
    have f_rd : PySem.W.readsIn K (He.ga K "ReadError") (.type "type") = true := c.fact 97
    have f_spG : He.eqO (PySem.W.specialIn K (.ref (He.ga K "ReadError")) "__getattribute__") (some (some (.builtin "type.__getattribute__"))) = true := c.fact 98
    have f_vV : Aw.valB K (.ref (He.ga K "ReadError")) (.type "type") "__init__" (.builtin "ValueError.__init__") = true := c.fact 99
    have f_vL : Aw.valB K (.type "LookupError") (.type "type") "__init__" (.builtin "LookupError.__init__") = true := c.fact 100
    have f_hLE : (He.Fa.free "LookupError").ok K = true := c.fact 101
    have f_i_MAX_NAME : (He.Fa.int "MAX_NAME" 8).ok K = true := c.fact 102
    have f_i_MAX_WORD : (He.Fa.int "MAX_WORD" 8).ok K = true := c.fact 103
    have f_i_MAX_TIMES : (He.Fa.int "MAX_TIMES" 8).ok K = true := c.fact 104
    have f_i_MAX_DEEP : (He.Fa.int "MAX_DEEP" 3).ok K = true := c.fact 105
    have f_i_MAX_NOTS : (He.Fa.int "MAX_NOTS" 2).ok K = true := c.fact 106
    have f_i_MAX_BY : (He.Fa.int "MAX_BY" 6).ok K = true := c.fact 107
    have f_i_MAX_PLACES : (He.Fa.int "MAX_PLACES" 24).ok K = true := c.fact 108
    have f_i_MAX_WEIGHT : (He.Fa.int "MAX_WEIGHT" 30).ok K = true := c.fact 109
    have f_i_MAX_RESTS : (He.Fa.int "MAX_RESTS" 2).ok K = true := c.fact 110
    have f_i_MAX_COMPARINGS : (He.Fa.int "MAX_COMPARINGS" 2).ok K = true := c.fact 111
    have f_i_MAX_NEST : (He.Fa.int "MAX_NEST" 3).ok K = true := c.fact 112
    have f_i_MOST_NUMBER : (He.Fa.int "MOST_NUMBER" 99).ok K = true := c.fact 113
    have f_i_MOST_FACTOR : (He.Fa.int "MOST_FACTOR" 9).ok K = true := c.fact 114
    have f_i_MAX_EDITS : (He.Fa.int "MAX_EDITS" 60).ok K = true := c.fact 115
    have f_s_LETTERS : (He.Fa.str "LETTERS" "abcdefghijklmnopqrstuvwxyz").ok K = true := c.fact 116
    have f_s_SIGNS : (He.Fa.str "SIGNS" "abcdefghijklmnopqrstuvwxyz0123456789").ok K = true := c.fact 117
    have f_s_UNSURE_programs : (He.Fa.str "UNSURE_programs" "unsure").ok K = true := c.fact 118
    have f_t_KEPT : Aw.strsB "KEPT" ["unset", "tell", "say", "stop", "if", "else", "repeat", "pass", "rest", "of", "set", "not", "program"] K = true := c.fact 119
    have f_t_READERS_fixes : Aw.strsB "READERS_fixes" ["set", "tell", "if"] K = true := c.fact 120
    have f_t_READERS_benchedits : Aw.strsB "READERS_benchedits" ["set", "tell", "if"] K = true := c.fact 121
    have f_c_Bench : (He.Fa.cls "Bench").ok K = true := c.fact 122
    have f_k_Bench : (He.Fa.mkr "Bench").ok K = true := c.fact 123
    have f_g_Bench : (He.Fa.glo "Bench").ok K = true := c.fact 124
    have f_a_program : (He.Fa.noat "Bench" "program").ok K = true := c.fact 125
    have f_a_fix : (He.Fa.noat "Bench" "fix").ok K = true := c.fact 126
    have f_a_begun : (He.Fa.noat "Bench" "begun").ok K = true := c.fact 127
    have f_a_standing : (He.Fa.noat "Bench" "standing").ok K = true := c.fact 128
    have f_a_undone : (He.Fa.noat "Bench" "undone").ok K = true := c.fact 129
    have f_a_is_watched : (He.Fa.noat "Bench" "is_watched").ok K = true := c.fact 130
    have f_x_NothingToUndo : (He.Fa.exc "NothingToUndo").ok K = true := c.fact 131
    have f_g_NothingToUndo : (He.Fa.glo "NothingToUndo").ok K = true := c.fact 132
    obtain ⟨fd_is_whole, FD_is_whole⟩ := c.def_ 0
    have Dis_whole : Aw.Df K mg "is_whole" Aw.sis_whole Aw.Pis_whole := Aw.df_hd KX G FD_is_whole f_d_is_whole (by exact fun _ _ _ _ _ _ us hl => match us, hl with | [_, _, _], _ => rfl)
    obtain ⟨fd_is_word, FD_is_word⟩ := c.def_ 1
    have Dis_word : Aw.Df K mg "is_word" Aw.sis_word Aw.Pis_word := Aw.df_hd KX G FD_is_word f_d_is_word (by exact fun _ _ _ _ _ _ us hl => match us, hl with | [_], _ => rfl)
    obtain ⟨fd_is_name, FD_is_name⟩ := c.def_ 2
    have Dis_name : Aw.Df K mg "is_name" Aw.sis_name Aw.Pis_name := Aw.df_hd KX G FD_is_name f_d_is_name (by exact fun _ _ _ _ _ _ us hl => match us, hl with | [_], _ => rfl)
    obtain ⟨fd_is_expression, FD_is_expression⟩ := c.def_ 3
    have Dis_expression : Aw.Df K mg "is_expression" Aw.sis_expression Aw.Pis_expression := Aw.df_hd KX G FD_is_expression f_d_is_expression (by exact fun _ _ _ _ _ _ us hl => match us, hl with | [_, _], _ => rfl)
    obtain ⟨fd_is_rest, FD_is_rest⟩ := c.def_ 4
    have Dis_rest : Aw.Df K mg "is_rest" Aw.sis_rest Aw.Pis_rest := Aw.df_hd KX G FD_is_rest f_d_is_rest (by exact fun _ _ _ _ _ _ us hl => match us, hl with | [_], _ => rfl)
    obtain ⟨fd_is_test, FD_is_test⟩ := c.def_ 5
    have Dis_test : Aw.Df K mg "is_test" Aw.sis_test Aw.Pis_test := Aw.df_hd KX G FD_is_test f_d_is_test (by exact fun _ _ _ _ _ _ us hl => match us, hl with | [_, _], _ => rfl)
    obtain ⟨fd_is_plain, FD_is_plain⟩ := c.def_ 6
    have Dis_plain : Aw.Df K mg "is_plain" Aw.sis_plain Aw.Pis_plain := Aw.df_hd KX G FD_is_plain f_d_is_plain (by exact fun _ _ _ _ _ _ us hl => match us, hl with | [_], _ => rfl)
    obtain ⟨fd_is_statement, FD_is_statement⟩ := c.def_ 7
    have Dis_statement : Aw.Df K mg "is_statement" Aw.sis_statement Aw.Pis_statement := Aw.df_hd KX G FD_is_statement f_d_is_statement (by exact fun _ _ _ _ _ _ us hl => match us, hl with | [_], _ => rfl)
    obtain ⟨fd_blocks_of, FD_blocks_of⟩ := c.def_ 8
    have Dblocks_of : Aw.Df K mg "blocks_of" Aw.sblocks_of Aw.Pblocks_of := Aw.df_hd KX G FD_blocks_of f_d_blocks_of (by exact fun _ _ _ _ _ _ us hl => match us, hl with | [_], _ => rfl)
    obtain ⟨fd_items_within, FD_items_within⟩ := c.def_ 9
    have Ditems_within : Aw.Df K mg "items_within" Aw.sitems_within Aw.Pitems_within := Aw.df_hd KX G FD_items_within f_d_items_within (by exact fun _ _ _ _ _ _ us hl => match us, hl with | [_, _], _ => rfl)
    obtain ⟨fd_rows_of_programs, FD_rows_of_programs⟩ := c.def_ 10
    have Drows_of_programs : Aw.DfA K mg "rows_of_programs" "rows_of" Aw.srows_of_programs Aw.Prows_of_programs := Aw.dfa_hd KX G FD_rows_of_programs f_d_rows_of_programs (by exact fun _ _ _ _ _ _ us hl => match us, hl with | [_], _ => rfl)
    obtain ⟨fd_each_statement, FD_each_statement⟩ := c.def_ 11
    have Deach_statement : Aw.Df K mg "each_statement" Aw.seach_statement Aw.Peach_statement := Aw.df_hd KX G FD_each_statement f_d_each_statement (by exact fun _ _ _ _ _ _ us hl => match us, hl with | [_], _ => rfl)
    obtain ⟨fd_reader_places, FD_reader_places⟩ := c.def_ 12
    have Dreader_places : Aw.Df K mg "reader_places" Aw.sreader_places Aw.Preader_places := Aw.df_hd KX G FD_reader_places f_d_reader_places (by exact fun _ _ _ _ _ _ us hl => match us, hl with | [_], _ => rfl)
    obtain ⟨fd_is_integer_lattices, FD_is_integer_lattices⟩ := c.def_ 13
    have Dis_integer_lattices : Aw.DfA K mg "is_integer_lattices" "is_integer" Aw.sis_integer_lattices Aw.Pis_integer_lattices := Aw.dfa_hd KX G FD_is_integer_lattices f_d_is_integer_lattices (by exact fun _ _ _ _ _ _ us hl => match us, hl with | [_], _ => rfl)
    obtain ⟨fd_is_fix, FD_is_fix⟩ := c.def_ 14
    have Dis_fix : Aw.Df K mg "is_fix" Aw.sis_fix Aw.Pis_fix := Aw.df_hd KX G FD_is_fix f_d_is_fix (by exact fun _ _ _ _ _ _ us hl => match us, hl with | [_, _], _ => rfl)
    obtain ⟨fd_order_error, FD_order_error⟩ := c.def_ 15
    have Dorder_error : Aw.Df K mg "order_error" Aw.sorder_error Aw.Porder_error := Aw.df_hd KX G FD_order_error f_d_order_error (by exact fun _ _ _ _ _ _ us hl => match us, hl with | [_], _ => rfl)
    obtain ⟨fd_bare, FD_bare⟩ := c.def_ 16
    have Dbare : Aw.Df K mg "bare" Aw.sbare Aw.Pbare := Aw.df_hd KX G FD_bare f_d_bare (by exact fun _ _ _ _ _ _ us hl => match us, hl with | [_], _ => rfl)
    obtain ⟨fd_own_count, FD_own_count⟩ := c.def_ 17
    have Down_count : Aw.Df K mg "own_count" Aw.sown_count Aw.Pown_count := Aw.df_hd KX G FD_own_count f_d_own_count (by exact fun _ _ _ _ _ _ us hl => match us, hl with | [_, _], _ => rfl)
    obtain ⟨fd_counted, FD_counted⟩ := c.def_ 18
    have Dcounted : Aw.Df K mg "counted" Aw.scounted Aw.Pcounted := Aw.df_hd KX G FD_counted f_d_counted (by exact fun _ _ _ _ _ _ us hl => match us, hl with | [_, _], _ => rfl)
    obtain ⟨fd_weight, FD_weight⟩ := c.def_ 19
    have Dweight : Aw.Df K mg "weight" Aw.sweight Aw.Pweight := Aw.df_hd KX G FD_weight f_d_weight (by exact fun _ _ _ _ _ _ us hl => match us, hl with | [_], _ => rfl)
    obtain ⟨fd_program_error, FD_program_error⟩ := c.def_ 20
    have Dprogram_error : Aw.Df K mg "program_error" Aw.sprogram_error Aw.Pprogram_error := Aw.df_hd KX G FD_program_error f_d_program_error (by exact fun _ _ _ _ _ _ us hl => match us, hl with | [_], _ => rfl)
    obtain ⟨fd_need_program, FD_need_program⟩ := c.def_ 21
    have Dneed_program : Aw.Df K mg "need_program" Aw.sneed_program Aw.Pneed_program := Aw.df_hd KX G FD_need_program f_d_need_program (by exact fun _ _ _ _ _ _ us hl => match us, hl with | [_], _ => rfl)
    obtain ⟨fd_statements_in, FD_statements_in⟩ := c.def_ 22
    have Dstatements_in : Aw.Df K mg "statements_in" Aw.sstatements_in Aw.Pstatements_in := Aw.df_hd KX G FD_statements_in f_d_statements_in (by exact fun _ _ _ _ _ _ us hl => match us, hl with | [_], _ => rfl)
    obtain ⟨fd_size_of, FD_size_of⟩ := c.def_ 23
    have Dsize_of : Aw.Df K mg "size_of" Aw.ssize_of Aw.Psize_of := Aw.df_hd KX G FD_size_of f_d_size_of (by exact fun _ _ _ _ _ _ us hl => match us, hl with | [_], _ => rfl)
    obtain ⟨fd_all_in, FD_all_in⟩ := c.def_ 24
    have Dall_in : Aw.Df K mg "all_in" Aw.sall_in Aw.Pall_in := Aw.df_hd KX G FD_all_in f_d_all_in (by exact fun _ _ _ _ _ _ us hl => match us, hl with | [_], _ => rfl)
    obtain ⟨fd_placed_at, FD_placed_at⟩ := c.def_ 25
    have Dplaced_at : Aw.Df K mg "placed_at" Aw.splaced_at Aw.Pplaced_at := Aw.df_hd KX G FD_placed_at f_d_placed_at (by exact fun _ _ _ _ _ _ us hl => match us, hl with | [_, _], _ => rfl)
    obtain ⟨fd_with_others, FD_with_others⟩ := c.def_ 26
    have Dwith_others : Aw.Df K mg "with_others" Aw.swith_others Aw.Pwith_others := Aw.df_hd KX G FD_with_others f_d_with_others (by exact fun _ _ _ _ _ _ us hl => match us, hl with | [_, _, _], _ => rfl)
    obtain ⟨fd_with_inner, FD_with_inner⟩ := c.def_ 27
    have Dwith_inner : Aw.Df K mg "with_inner" Aw.swith_inner Aw.Pwith_inner := Aw.df_hd KX G FD_with_inner f_d_with_inner (by exact fun _ _ _ _ _ _ us hl => match us, hl with | [_, _, _], _ => rfl)
    obtain ⟨fd_moved, FD_moved⟩ := c.def_ 28
    have Dmoved : Aw.Df K mg "moved" Aw.smoved Aw.Pmoved := Aw.df_hd KX G FD_moved f_d_moved (by exact fun _ _ _ _ _ _ us hl => match us, hl with | [_, _, _, _], _ => rfl)
    obtain ⟨fd_added, FD_added⟩ := c.def_ 29
    have Dadded : Aw.Df K mg "added" Aw.sadded Aw.Padded := Aw.df_hd KX G FD_added f_d_added (by exact fun _ _ _ _ _ _ us hl => match us, hl with | [_, _, _], _ => rfl)
    obtain ⟨fd_dropped, FD_dropped⟩ := c.def_ 30
    have Ddropped : Aw.Df K mg "dropped" Aw.sdropped Aw.Pdropped := Aw.df_hd KX G FD_dropped f_d_dropped (by exact fun _ _ _ _ _ _ us hl => match us, hl with | [_, _, _], _ => rfl)
    obtain ⟨fd_changed, FD_changed⟩ := c.def_ 31
    have Dchanged : Aw.Df K mg "changed" Aw.schanged Aw.Pchanged := Aw.df_hd KX G FD_changed f_d_changed (by exact fun _ _ _ _ _ _ us hl => match us, hl with | [_, _, _, _], _ => rfl)
    obtain ⟨fd_held_too, FD_held_too⟩ := c.def_ 32
    have Dheld_too : Aw.Df K mg "held_too" Aw.sheld_too Aw.Pheld_too := Aw.df_hd KX G FD_held_too f_d_held_too (by exact fun _ _ _ _ _ _ us hl => match us, hl with | [_, _, _], _ => rfl)
    obtain ⟨fd_freed, FD_freed⟩ := c.def_ 33
    have Dfreed : Aw.Df K mg "freed" Aw.sfreed Aw.Pfreed := Aw.df_hd KX G FD_freed f_d_freed (by exact fun _ _ _ _ _ _ us hl => match us, hl with | [_, _, _], _ => rfl)
    obtain ⟨fd_edited, FD_edited⟩ := c.def_ 34
    have Dedited : Aw.Df K mg "edited" Aw.sedited Aw.Pedited := Aw.df_hd KX G FD_edited f_d_edited (by exact fun _ _ _ _ _ _ us hl => match us, hl with | [_, _, _], _ => rfl)
    obtain ⟨fd_BadProgram___init__, FD_BadProgram___init__⟩ := c.def_ 35
    have DBadProgram___init__ : Aw.DfM K (He.ga K "BadProgram") "__init__" "BadProgram.__init__" Aw.sBadProgram___init__ Aw.PBadProgram___init__ := Aw.dfm_hd FD_BadProgram___init__ f_d_BadProgram___init__ (by exact fun _ _ _ _ _ _ us hl => match us, hl with | [_, _], _ => rfl)
    obtain ⟨fd_NoReader___init__, FD_NoReader___init__⟩ := c.def_ 36
    have DNoReader___init__ : Aw.DfM K (He.ga K "NoReader") "__init__" "NoReader.__init__" Aw.sNoReader___init__ Aw.PNoReader___init__ := Aw.dfm_hd FD_NoReader___init__ f_d_NoReader___init__ (by exact fun _ _ _ _ _ _ us hl => match us, hl with | [_, _], _ => rfl)
    obtain ⟨fd_IsHeld___init__, FD_IsHeld___init__⟩ := c.def_ 37
    have DIsHeld___init__ : Aw.DfM K (He.ga K "IsHeld") "__init__" "IsHeld.__init__" Aw.sIsHeld___init__ Aw.PIsHeld___init__ := Aw.dfm_hd FD_IsHeld___init__ f_d_IsHeld___init__ (by exact fun _ _ _ _ _ _ us hl => match us, hl with | [_, _], _ => rfl)
    obtain ⟨fd_NotHeld___init__, FD_NotHeld___init__⟩ := c.def_ 38
    have DNotHeld___init__ : Aw.DfM K (He.ga K "NotHeld") "__init__" "NotHeld.__init__" Aw.sNotHeld___init__ Aw.PNotHeld___init__ := Aw.dfm_hd FD_NotHeld___init__ f_d_NotHeld___init__ (by exact fun _ _ _ _ _ _ us hl => match us, hl with | [_, _], _ => rfl)
    obtain ⟨fd_statement_at, FD_statement_at⟩ := c.def_ 39
    have Dstatement_at : Aw.Df K mg "statement_at" Aw.sstatement_at Aw.Pstatement_at := Aw.df_hd KX G FD_statement_at f_d_statement_at (by exact fun _ _ _ _ _ _ us hl => match us, hl with | [_, _], _ => rfl)
    obtain ⟨fd_NoPlace___init__, FD_NoPlace___init__⟩ := c.def_ 40
    have DNoPlace___init__ : Aw.DfM K (He.ga K "NoPlace") "__init__" "NoPlace.__init__" Aw.sNoPlace___init__ Aw.PNoPlace___init__ := Aw.dfm_hd FD_NoPlace___init__ f_d_NoPlace___init__ (by exact fun _ _ _ _ _ _ us hl => match us, hl with | [_, _], _ => rfl)
    obtain ⟨fd_Bench_stand, FD_Bench_stand⟩ := c.def_ 41
    have DBench_stand : Aw.DfM K (He.ga K "Bench") "stand" "Bench.stand" Aw.sBench_stand Aw.PBench_stand := Aw.dfm_hd FD_Bench_stand f_d_Bench_stand (by exact fun _ _ _ _ _ _ us hl => match us, hl with | [_, _], _ => rfl)
    obtain ⟨fd_Bench_idle, FD_Bench_idle⟩ := c.def_ 42
    have DBench_idle : Aw.DfM K (He.ga K "Bench") "idle" "Bench.idle" Aw.sBench_idle Aw.PBench_idle := Aw.dfm_hd FD_Bench_idle f_d_Bench_idle (by exact fun _ _ _ _ _ _ us hl => match us, hl with | [_], _ => rfl)
    obtain ⟨fd_Bench_ready, FD_Bench_ready⟩ := c.def_ 43
    have DBench_ready : Aw.DfM K (He.ga K "Bench") "ready" "Bench.ready" Aw.sBench_ready Aw.PBench_ready := Aw.dfm_hd FD_Bench_ready f_d_Bench_ready (by exact fun _ _ _ _ _ _ us hl => match us, hl with | [_], _ => rfl)
    obtain ⟨fd_Bench_judge, FD_Bench_judge⟩ := c.def_ 44
    have DBench_judge : Aw.DfM K (He.ga K "Bench") "judge" "Bench.judge" Aw.sBench_judge Aw.PBench_judge := Aw.dfm_hd FD_Bench_judge f_d_Bench_judge (by exact fun _ _ _ _ _ _ us hl => match us, hl with | [_, _], _ => rfl)
    obtain ⟨fd_Bench_settle, FD_Bench_settle⟩ := c.def_ 45
    have DBench_settle : Aw.DfM K (He.ga K "Bench") "settle" "Bench.settle" Aw.sBench_settle Aw.PBench_settle := Aw.dfm_hd FD_Bench_settle f_d_Bench_settle (by exact fun _ _ _ _ _ _ us hl => match us, hl with | [_, _, _], _ => rfl)
    obtain ⟨fd_Bench_do, FD_Bench_do⟩ := c.def_ 46
    have DBench_do : Aw.DfM K (He.ga K "Bench") "do" "Bench.do" Aw.sBench_do Aw.PBench_do := Aw.dfm_hd FD_Bench_do f_d_Bench_do (by exact fun _ _ _ _ _ _ us hl => match us, hl with | [_, _], _ => rfl)
    obtain ⟨fd_Bench_add, FD_Bench_add⟩ := c.def_ 47
    have DBench_add : Aw.DfM K (He.ga K "Bench") "add" "Bench.add" Aw.sBench_add Aw.PBench_add := Aw.dfm_hd FD_Bench_add f_d_Bench_add (by exact fun _ _ _ _ _ _ us hl => match us, hl with | [_, _], _ => rfl)
    obtain ⟨fd_Bench_drop, FD_Bench_drop⟩ := c.def_ 48
    have DBench_drop : Aw.DfM K (He.ga K "Bench") "drop" "Bench.drop" Aw.sBench_drop Aw.PBench_drop := Aw.dfm_hd FD_Bench_drop f_d_Bench_drop (by exact fun _ _ _ _ _ _ us hl => match us, hl with | [_, _], _ => rfl)
    obtain ⟨fd_Bench_change, FD_Bench_change⟩ := c.def_ 49
    have DBench_change : Aw.DfM K (He.ga K "Bench") "change" "Bench.change" Aw.sBench_change Aw.PBench_change := Aw.dfm_hd FD_Bench_change f_d_Bench_change (by exact fun _ _ _ _ _ _ us hl => match us, hl with | [_, _, _], _ => rfl)
    obtain ⟨fd_Bench_hold, FD_Bench_hold⟩ := c.def_ 50
    have DBench_hold : Aw.DfM K (He.ga K "Bench") "hold" "Bench.hold" Aw.sBench_hold Aw.PBench_hold := Aw.dfm_hd FD_Bench_hold f_d_Bench_hold (by exact fun _ _ _ _ _ _ us hl => match us, hl with | [_, _], _ => rfl)
    obtain ⟨fd_Bench_free, FD_Bench_free⟩ := c.def_ 51
    have DBench_free : Aw.DfM K (He.ga K "Bench") "free" "Bench.free" Aw.sBench_free Aw.PBench_free := Aw.dfm_hd FD_Bench_free f_d_Bench_free (by exact fun _ _ _ _ _ _ us hl => match us, hl with | [_, _], _ => rfl)
    obtain ⟨fd_Bench___len__, FD_Bench___len__⟩ := c.def_ 52
    have DBench___len__ : Aw.DfM K (He.ga K "Bench") "__len__" "Bench.__len__" Aw.sBench___len__ Aw.PBench___len__ := Aw.dfm_hd FD_Bench___len__ f_d_Bench___len__ (by exact fun _ _ _ _ _ _ us hl => match us, hl with | [_], _ => rfl)
    obtain ⟨fd_Bench___init__, FD_Bench___init__⟩ := c.def_ 53
    have DBench___init__ : Aw.DfMD K (He.ga K "Bench") "__init__" "Bench.__init__" Aw.sBench___init__ Aw.PBench___init__ := Aw.dfmD_hd FD_Bench___init__ f_d_Bench___init__ (by exact fun _ _ _ _ _ _ _ us it h => match us, h with | [_, _, _], _ => ⟨_, rfl, rfl⟩)
    obtain ⟨fd_Bench_undo, FD_Bench_undo⟩ := c.def_ 54
    have DBench_undo : Aw.DfM K (He.ga K "Bench") "undo" "Bench.undo" Aw.sBench_undo Aw.PBench_undo := Aw.dfm_hd FD_Bench_undo f_d_Bench_undo (by exact fun _ _ _ _ _ _ us hl => match us, hl with | [_], _ => rfl)
    obtain ⟨fd_Bench_state, FD_Bench_state⟩ := c.def_ 55
    have DBench_state : Aw.DfMK K (He.ga K "Bench") "state" "Bench.state" Aw.sBench_state Aw.PBench_state [.non] := Aw.dfmK_hd FD_Bench_state f_d_Bench_state (by decide) (by intro D doc pm an cdv ct us k0 h; match us, h with | [_], _ => exact ⟨_, _, _, _, _, _, rfl, rfl, rfl⟩)
    obtain ⟨fd__law_deck, FD__law_deck⟩ := c.def_ 56
    have D_law_deck : Aw.Df K mg "_law_deck" Aw.s_law_deck Aw.P_law_deck := Aw.df_hd KX G FD__law_deck f_d__law_deck (by exact fun _ _ _ _ _ _ us hl => match us, hl with | [_], _ => rfl)
    obtain ⟨fd__law_draw, FD__law_draw⟩ := c.def_ 57
    have D_law_draw : Aw.Df K mg "_law_draw" Aw.s_law_draw Aw.P_law_draw := Aw.df_hd KX G FD__law_draw f_d__law_draw (by exact fun _ _ _ _ _ _ us hl => match us, hl with | [_, _], _ => rfl)
    obtain ⟨fd__law_one, FD__law_one⟩ := c.def_ 58
    have D_law_one : Aw.Df K mg "_law_one" Aw.s_law_one Aw.P_law_one := Aw.df_hd KX G FD__law_one f_d__law_one (by exact fun _ _ _ _ _ _ us hl => match us, hl with | [_, _], _ => rfl)
    obtain ⟨fd__law_rows, FD__law_rows⟩ := c.def_ 59
    have D_law_rows : Aw.Df K mg "_law_rows" Aw.s_law_rows Aw.P_law_rows := Aw.df_hd KX G FD__law_rows f_d__law_rows (by exact fun _ _ _ _ _ _ us hl => match us, hl with | [_], _ => rfl)
    obtain ⟨fd__law_marked_set, FD__law_marked_set⟩ := c.def_ 60
    have D_law_marked_set : Aw.Df K mg "_law_marked_set" Aw.s_law_marked_set Aw.P_law_marked_set := Aw.df_hd KX G FD__law_marked_set f_d__law_marked_set (by exact fun _ _ _ _ _ _ us hl => match us, hl with | [_, _], _ => rfl)
    obtain ⟨fd__law_tree, FD__law_tree⟩ := c.def_ 61
    have D_law_tree : Aw.Df K mg "_law_tree" Aw.s_law_tree Aw.P_law_tree := Aw.df_hd KX G FD__law_tree f_d__law_tree (by exact fun _ _ _ _ _ _ us hl => match us, hl with | [_, _, _], _ => rfl)
    obtain ⟨fd__law_setters, FD__law_setters⟩ := c.def_ 62
    have D_law_setters : Aw.Df K mg "_law_setters" Aw.s_law_setters Aw.P_law_setters := Aw.df_hd KX G FD__law_setters f_d__law_setters (by exact fun _ _ _ _ _ _ us hl => match us, hl with | [_], _ => rfl)
    obtain ⟨fd__law_marked, FD__law_marked⟩ := c.def_ 63
    have D_law_marked : Aw.Df K mg "_law_marked" Aw.s_law_marked Aw.P_law_marked := Aw.df_hd KX G FD__law_marked f_d__law_marked (by exact fun _ _ _ _ _ _ us hl => match us, hl with | [_], _ => rfl)
    obtain ⟨fd__law_marks, FD__law_marks⟩ := c.def_ 64
    have D_law_marks : Aw.Df K mg "_law_marks" Aw.s_law_marks Aw.P_law_marks := Aw.df_hd KX G FD__law_marks f_d__law_marks (by exact fun _ _ _ _ _ _ us hl => match us, hl with | [_], _ => rfl)
    obtain ⟨fd__law_step, FD__law_step⟩ := c.def_ 65
    have D_law_step : Aw.Df K mg "_law_step" Aw.s_law_step Aw.P_law_step := Aw.df_hd KX G FD__law_step f_d__law_step (by exact fun _ _ _ _ _ _ us hl => match us, hl with | [_, _, _, _], _ => rfl)
    obtain ⟨fd_law, FD_law⟩ := c.def_ 66
    have Dlaw : Aw.Df K mg "law" Aw.slaw Aw.Plaw := Aw.df_hd KX G FD_law f_d_law (by exact fun _ _ _ _ _ _ us hl => match us, hl with | [_], _ => rfl)
    have B : Aw.Blt mg := ⟨He.free_ok KX G f_b_len, He.free_ok KX G f_b_int, He.free_ok KX G f_b_abs, He.free_ok KX G f_b_str, He.free_ok KX G f_b_bool, He.free_ok KX G f_b_range, He.free_ok KX G f_b_isinstance, He.free_ok KX G f_b_tuple, He.free_ok KX G f_b_list, He.free_ok KX G f_b_repr, He.free_ok KX G f_b_zip, He.free_ok KX G f_b_enumerate, He.free_ok KX G f_b_sum, He.free_ok KX G f_b_min, He.free_ok KX G f_b_max, He.free_ok KX G f_b_all, He.free_ok KX G f_b_any, He.free_ok KX G f_b_sorted, He.free_ok KX G f_b_dict⟩
    have e_ReadError := Aw.efc_hd KX G f_e_ReadError
    have e_BadProgram := Aw.efc_hd KX G f_e_BadProgram
    have n_BadProgram := He.noat_ok f_n_BadProgram
    have e_NoReader := Aw.efc_hd KX G f_e_NoReader
    have n_NoReader := He.noat_ok f_n_NoReader
    have e_IsHeld := Aw.efc_hd KX G f_e_IsHeld
    have n_IsHeld := He.noat_ok f_n_IsHeld
    have e_NotHeld := Aw.efc_hd KX G f_e_NotHeld
    have n_NotHeld := He.noat_ok f_n_NotHeld
    have e_NoPlace := Aw.efc_hd KX G f_e_NoPlace
    have n_NoPlace := He.noat_ok f_n_NoPlace
    have hLE := He.free_ok KX G f_hLE
    have vV := Aw.valB_ok f_vV
    have vL := Aw.valB_ok f_vL
    have spG := He.eqO_ok f_spG
    have GBadProgram := Aw.HasH.of Aw.veF e_BadProgram (by decide +kernel) (Aw.ok_BadProgram_init (P := PySem.Challenge.pw_anewread_k20_whole_held_places_go_with_t) (w := w) (base := base) DBadProgram___init__ B e_BadProgram.oex n_BadProgram e_ReadError.at_ f_rd spG vV)
    have GNoReader := Aw.HasH.of Aw.veF e_NoReader (by decide +kernel) (Aw.ok_NoReader_init (P := PySem.Challenge.pw_anewread_k20_whole_held_places_go_with_t) (w := w) (base := base) DNoReader___init__ B e_NoReader.oex n_NoReader e_ReadError.at_ f_rd spG vV)
    have GIsHeld := Aw.HasH.of Aw.veF e_IsHeld (by decide +kernel) (Aw.ok_IsHeld_init (P := PySem.Challenge.pw_anewread_k20_whole_held_places_go_with_t) (w := w) (base := base) DIsHeld___init__ B e_IsHeld.oex n_IsHeld e_ReadError.at_ f_rd spG vV)
    have GNotHeld := Aw.HasH.of Aw.veF e_NotHeld (by decide +kernel) (Aw.ok_NotHeld_init (P := PySem.Challenge.pw_anewread_k20_whole_held_places_go_with_t) (w := w) (base := base) DNotHeld___init__ B e_NotHeld.oex n_NotHeld e_ReadError.at_ f_rd spG vV)
    have GNoPlace := Aw.HasH.of Aw.leF e_NoPlace (by decide +kernel) (Aw.ok_NoPlace_init (P := PySem.Challenge.pw_anewread_k20_whole_held_places_go_with_t) (w := w) (base := base) DNoPlace___init__ B hLE e_NoPlace.gex n_NoPlace vL)
    have GE : Aw.ErHas PySem.Challenge.pw_anewread_k20_whole_held_places_go_with_t w K mg base ⟨He.ga K "NoPlace", He.ga K "NoReader", He.ga K "IsHeld", He.ga K "NotHeld", He.ga K "BadProgram"⟩ := ⟨GNoPlace, GNoReader, GIsHeld, GNotHeld, GBadProgram⟩
    have kept := Aw.strs_hd KX G f_t_KEPT
    have rdF := Aw.strs_hd KX G f_t_READERS_fixes
    have rdE := Aw.strs_hd KX G f_t_READERS_benchedits
    have TP : Aw.PeTop mg K := ⟨He.int_ok KX G f_i_MAX_NAME, He.int_ok KX G f_i_MAX_WORD, He.int_ok KX G f_i_MAX_TIMES, He.int_ok KX G f_i_MAX_DEEP, He.int_ok KX G f_i_MAX_NOTS, He.int_ok KX G f_i_MAX_BY, He.int_ok KX G f_i_MAX_PLACES, He.int_ok KX G f_i_MAX_WEIGHT, He.int_ok KX G f_i_MAX_RESTS, He.int_ok KX G f_i_MAX_COMPARINGS, He.int_ok KX G f_i_MAX_NEST, He.int_ok KX G f_i_MOST_NUMBER, He.int_ok KX G f_i_MOST_FACTOR, He.str_ok KX G f_s_LETTERS, He.str_ok KX G f_s_SIGNS, He.str_ok KX G f_s_UNSURE_programs, ⟨_, kept.at_, kept.sq⟩⟩
    have GP := Aw.pe_has (P := PySem.Challenge.pw_anewread_k20_whole_held_places_go_with_t) (w := w) (base := base) TP B Dis_whole Dis_word Dis_name Dis_expression Dis_rest Dis_test Dis_plain Dis_statement Dblocks_of Ditems_within Drows_of_programs Dorder_error Dbare Down_count Dcounted Dweight Dprogram_error
    have TB : Aw.BnT K (He.ga K "Bench") := ⟨He.cls_ok f_c_Bench, He.noat_ok f_a_program, He.noat_ok f_a_fix, He.noat_ok f_a_begun, He.noat_ok f_a_standing, He.noat_ok f_a_undone, He.noat_ok f_a_is_watched⟩
    obtain ⟨_, gME⟩ := He.int_ok KX G f_i_MAX_EDITS
    have mkB := He.mkr_ok f_k_Bench
    have GB := Aw.bn_has B TB GP GE gME rdE rdF mkB.makes mkB.kp (He.glo_ok KX G f_g_Bench) Deach_statement Dreader_places Dis_integer_lattices Dis_fix Dneed_program Dstatements_in Dsize_of Dall_in Dplaced_at Dwith_others Dwith_inner Dmoved Dadded Ddropped Dchanged Dheld_too Dfreed Dedited DBench_stand DBench_idle DBench_ready DBench_judge DBench_settle DBench_do DBench_add DBench_drop DBench_change DBench_hold DBench_free DBench___init__
    have GL := Aw.ok_Bench_len (P := PySem.Challenge.pw_anewread_k20_whole_held_places_go_with_t) (w := w) (base := base) DBench___len__ B TB
    have eU : Aw.Er0 K mg "NothingToUndo" (He.ga K "NothingToUndo") := ⟨He.glo_ok KX G f_g_NothingToUndo, (He.exc_ok f_x_NothingToUndo).1, (He.exc_ok f_x_NothingToUndo).2.1, (He.exc_ok f_x_NothingToUndo).2.2.1, (He.exc_ok f_x_NothingToUndo).2.2.2⟩
    exact (Aw.k20_has B TB hSys GP GB GL eU DBench_undo DBench_state Dstatement_at D_law_deck D_law_draw D_law_one D_law_rows D_law_marked_set D_law_tree D_law_setters D_law_marked D_law_marks D_law_step Dlaw).mono (by omega)
