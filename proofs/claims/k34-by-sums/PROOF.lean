import PyProof.Rows.All
import Wide.All
import OpenK.AllK
import Wide.FinOn
import HandS.ForMost
import HandS.IsInst
import HandS.TupAny
import HandS.RaiseMore
import HandS.Conv
import HandS.WideBits
import HandS.More
import HandS.Style
import PyProof.NeKinds
import PyProof.StrLawsIn
import HandS.TupMul
import HandS.ListItems
import HandS.Zip
import KE.KDictList
import HandS.ReplaceLit
import HandS.ReplaceList
import PySem.Challenge.RW_anewread_k34_whole_runs_by_sums
set_option Elab.async false
set_option linter.all false
set_option maxRecDepth 100000
set_option maxHeartbeats 4000000
set_option autoImplicit false
/-! calls with the guards known (so that repr of data may be asked), a def as it is had, repr -/
namespace Aw
open PySem PySem.Spec PyProof.Rows L2

structure RoomG (k : Nat) (A : Around) : Prop where
  r : Room k A
  g : A.guards = some []
theorem RoomG.mono {j k : Nat} {A : Around} (h : RoomG k A) (q : j ≤ k) : RoomG j A := ⟨h.r.mono q, h.g⟩
theorem RoomG.hu {k : Nat} {A : Around} (h : RoomG k A) : A.units + 1 < cLine := hu_of h.r
theorem RoomG.h64 {k : Nat} {A : Around} (h : RoomG k A) : A.units + 64 < cLine := h.r.units

/-- a def keeps its promise wherever nothing is being shown -/
structure FnG (P : Program) (w : World) (K : PySem.W.Frag) (mg : Str → Option Value) (base : Heap) (CX : CXT)
    (k : Nat) (f : Addr) (fd : FuncData) (ps : List Str) (sp : Sp) : Prop where
  len : ∀ vs H Q E, sp vs H Q E → vs.length = ps.length
  run : ∀ (A : Around) (outer : List Env) (s : Shared) (H : Hp) (args : Args) (us : List Value) (vs : List V)
    (Q : VK) (E : XK), RoomG k A → Env0 P w K mg base A outer s H → BindsTo s fd args (ps.zip us) → Vals vs us →
    sp vs H Q E → codeAny (model P w) A (.call (.ref f) args) (CR CX outer P w H s Q E) s

section
variable {P : Program} {w : World} {K : PySem.W.Frag} {mg : Str → Option Value} {base : Heap} {CX : CXT}

theorem FnG.mono {j k : Nat} {f : Addr} {fd : FuncData} {ps : List Str} {sp : Sp}
    (F : FnG P w K mg base CX j f fd ps sp) (h : j ≤ k) : FnG P w K mg base CX k f fd ps sp :=
  ⟨F.len, fun A o s H a us vs Q E hr => F.run A o s H a us vs Q E (hr.mono h)⟩

theorem fnG_of {k : Nat} {f : Addr} {nm qual : Str} {params : Arguments} {body : List Stmt} {scope : Scope}
    {dV kV doc pm cdv ct oc : Value} {an od : Option Addr} {osl : Array (Option Value)} {N ps : List Str} {sp : Sp}
    (lk : K.lookup f = some ⟨oc, od, .func (PySem.W.fnOf nm qual params body scope dV kV doc pm an cdv ct), osl⟩)
    (hcd : PySem.W.codeIn K cdv qual = true) (S : FnScope N ps scope)
    (len : ∀ vs H Q E, sp vs H Q E → vs.length = ps.length)
    (hb : ∀ (A : Around) (outer : List Env) (s : Shared) (H : Hp) (vs : List V) (Q : VK) (E : XK),
      RoomG k (A.deeper (envOfC qual scope s.heap.objs.size f cdv)) → sp vs H Q E →
      ∃ t, PSs (cxOf CX P w K mg base N qual scope f cdv A outer s H E) body t ∧
        t { nx := fun _ H' => Q .non H', rt := Q } (start N vs) H) :
    FnG P w K mg base CX (k + 1) f (PySem.W.fnOf nm qual params body scope dV kV doc pm an cdv ct) ps sp := by
  refine ⟨len, fun A outer s H args us vs Q E hr e0 hbd r hsp => ?_⟩
  have hl := len _ _ _ _ hsp
  have KX : K.In s.heap := e0.mod.kin.keeps fun b o e => (e0.bs b o e).1
  have lim : s.heap.NoLimit := e0.mod.nolimit.keeps fun b o e => (e0.bs b o e).1
  refine codeAny_call_function hr.r.depth (KX _ _ lk) rfl S.co S.gen rfl (PySem.W.codeRec_of KX hcd)
    (hbd _ _ _ _ ?_)
  refine wpAny_newFunctionEnv_cells S.kind (fun ⟨n, v⟩ hy => ?_) fun env he s1 x => ?_
  · rcases S.par n (List.of_mem_zip hy).1 with q | q
    · exact .inl q
    · exact .inr ⟨q, PySem.W.cellsFrom_some _ _ _ (.inl q)⟩
  subst he
  refine ⟨lim.keeps x.toInCall.keep, codeAny_func ?_⟩
  obtain ⟨t, ht, hq⟩ := hb A outer s H vs Q E ⟨hr.r.deeper _, hr.g⟩ hsp
  have I := inv_start (CX := CX) (E := E) (f := f) (cd := cdv) S hr.r.hd e0 hl r x
  refine wpAny_mono (ht.run [] s1 (start N vs) H _ I hq) (fun fl s' hs => ?_) fun e s' hs => hs
  cases fl with
  | ret u =>
    obtain ⟨v, σ', H', J, rv, q⟩ := hs
    exact ⟨v, H', J.os, J.bare, J.base, J.hok, rv, q⟩
  | next =>
    obtain ⟨σ', H', J, q⟩ := hs
    exact ⟨V.non, H', J.os, J.bare, J.base, J.hok, rfl, q⟩
  | brk => exact hs.elim fun _ h => h.elim fun _ h => h.2.elim
  | cont => exact hs.elim fun _ h => h.elim fun _ h => h.2.elim

/-- a def of the top, by its name -/
def Df (K : PySem.W.Frag) (mg : Str → Option Value) (x : Str) (st : Stmt) (ps : List Str) : Prop :=
  ∃ (f : Addr) (fd : FuncData), Fun K x x st f fd ∧ mg x = some (.ref f) ∧ Binds K fd ps []
/-- the def of this name keeps a promise -/
def Has (P : Program) (w : World) (K : PySem.W.Frag) (mg : Str → Option Value) (base : Heap) (CX : CXT) (x : Str)
    (ps : List Str) (k : Nat) (sp : Sp) : Prop :=
  ∃ (f : Addr) (fd : FuncData), (PySem.W.keepIn K (.ref f) = true ∧ ∃ oc od osl, K.lookup f = some ⟨oc, od, .func fd, osl⟩) ∧
    mg x = some (.ref f) ∧ Binds K fd ps [] ∧ FnG P w K mg base CX k f fd ps sp
theorem Has.any {ι : Type} {x : Str} {ps : List Str} {k : Nat} {sp : ι → Sp} (i₀ : ι) (h : ∀ i, Has P w K mg base CX x ps k (sp i)) :
    Has P w K mg base CX x ps k (fun vs H Q E => ∃ i, sp i vs H Q E) := by
  obtain ⟨f, fd, ⟨a, oc, od, osl, l⟩, b, c, _⟩ := h i₀
  have same : ∀ i, FnG P w K mg base CX k f fd ps (sp i) := by
    intro i
    obtain ⟨f', fd', ⟨_, oc', od', osl', l'⟩, b', _, d'⟩ := h i
    cases b.symm.trans b'
    cases l.symm.trans l'
    exact d'
  exact ⟨f, fd, ⟨a, oc, od, osl, l⟩, b, c, fun vs H Q E ⟨i, z⟩ => (same i).len _ _ _ _ z, fun A o s H ar us vs Q E hr he hb hv ⟨i, hs⟩ =>
    (same i).run A o s H ar us vs Q E hr he hb hv hs⟩
theorem Has.mono {x : Str} {ps : List Str} {j k : Nat} {sp : Sp} (h : Has P w K mg base CX x ps j sp) (q : j ≤ k) :
    Has P w K mg base CX x ps k sp := by
  obtain ⟨f, fd, a, b, c, d⟩ := h
  exact ⟨f, fd, a, b, c, d.mono q⟩
theorem Has.imp {x : Str} {ps : List Str} {k : Nat} {sp sp' : Sp} (h : Has P w K mg base CX x ps k sp)
    (q : ∀ vs H Q E, sp' vs H Q E → sp vs H Q E) : Has P w K mg base CX x ps k sp' := by
  obtain ⟨f, fd, a, b, c, d⟩ := h
  exact ⟨f, fd, a, b, c, fun vs H Q E z => d.len _ _ _ _ (q _ _ _ _ z), fun A o s H ar us vs Q E hr he hb hv hs =>
    d.run A o s H ar us vs Q E hr he hb hv (q _ _ _ _ hs)⟩
theorem Df.void {x : Str} {st : Stmt} {ps : List Str} {sp : Sp} (d : Df K mg x st ps) (h : ∀ vs H Q E, ¬ sp vs H Q E) :
    Has P w K mg base CX x ps 0 sp := by
  obtain ⟨f, fd, F, m, b⟩ := d
  have lk : ∃ oc od osl, K.lookup f = some ⟨oc, od, .func fd, osl⟩ := by
    obtain ⟨oc, od, kV, doc, pm, an, cdv, ct, osl, rfl, lk, hcd⟩ := F.ex
    exact ⟨oc, od, osl, lk⟩
  exact ⟨f, fd, ⟨F.kp, lk⟩, m, b, fun vs H Q E z => absurd z (h _ _ _ _), fun A o s H ar us vs Q E hr he hb hv hs =>
    absurd hs (h _ _ _ _)⟩
theorem Df.has {x : Str} {st : Stmt} {ps N : List Str} {k : Nat} {sp : Sp} (d : Df K mg x st ps)
    (S : FnScope N ps (defScope st)) (len : ∀ vs H Q E, sp vs H Q E → vs.length = ps.length)
    (hb : ∀ (f : Addr) (cdv : Value) (A : Around) (outer : List Env) (s : Shared) (H : Hp) (vs : List V) (Q : VK) (E : XK),
      RoomG k (A.deeper (envOfC x (defScope st) s.heap.objs.size f cdv)) → sp vs H Q E →
      ∃ t, PSs (cxOf CX0 P w K mg base N x (defScope st) f cdv A outer s H E).nox (defBody st) t ∧
        t { nx := fun _ H' => Q .non H', rt := Q } (start N vs) H) : Has P w K mg base CX0 x ps (k + 1) sp := by
  obtain ⟨f, fd, F, m, b⟩ := d
  obtain ⟨oc, od, kV, doc, pm, an, cdv, ct, osl, rfl, lk, hcd⟩ := F.ex
  refine ⟨f, _, ⟨F.kp, oc, od, osl, lk⟩, m, b, fnG_of lk hcd S len fun A outer s H vs Q E hr hsp => ?_⟩
  obtain ⟨t, h, q⟩ := hb f cdv A outer s H vs Q E hr hsp
  exact ⟨t, h.nox, q⟩
end

section
variable {X : Cx} {CX : CXT} {k : Nat} {ps : List Str} {sp : Sp} {E : XK} {x : Str} {p pos : Pos} {e : Expr}
  {es : List Expr} {t : TA}
theorem runG {f : Addr} {fd : FuncData} {pins : List (Addr × Obj)} {σ : L2.St} {H : Hp} {s : Shared} {Q : VK}
    {us : List Value} {vs : List V} (F : FnG X.prog X.w X.K X.mg X.base CX k f fd ps sp) (hr : RoomG k X.A)
    (hb : Binds X.K fd ps []) (hx : Passes CX X E) (I : Inv X pins σ H s) (r : Vals vs us) (h : sp vs H Q E) :
    wpAny (model X.prog X.w) X.A (call (.ref f) us) (EP X pins σ Q) X.xe s := by
  have hl : (us ++ []).length = ps.length := by
    rw [List.append_nil, ← r.length]
    exact F.len _ _ _ _ h
  have bb := hb s us I.kIn hl
  rw [List.append_nil] at bb
  refine wpAny_call (codeAny_mono (F.run X.A X.stack s H ⟨us, []⟩ us vs Q E hr I.env0 bb r h) fun r s' hq => ?_)
  match r, hq with
  | .error e, hq => exact hx pins σ H s e s' I hq
  | .ok (.ret u), hq => exact I.after hq
/-- f(e, ..) of a def by its name -/
theorem pe_f (F : Has X.prog X.w X.K X.mg X.base CX x ps k sp) (hr : RoomG k X.A) (hg : Gl X x) (hx : Passes CX X E)
    (ha : PA X (e :: es) t) (hdb : (x == ("__debug__" : Str)) = false := by decide)
    (he : starEach (e :: es) X.env = (false, eval e X.env) :: starEach es X.env := by rfl)
    (hpl : (backTo pos (starEach es X.env)).any (·.1) = false := by rfl) :
    PE X (.Call (.Name x p) (e :: es) [] pos) (tCall sp [] E t) := by
  obtain ⟨f, fd, ⟨hk, _⟩, hm, hb, F⟩ := F
  refine ⟨fun pins s σ H Q I h => wpAny_Call_Name_kw (ld_glob I hg hm ?_ hdb)⟩
  refine PySem.W.callWith_K (h₀ := X.base) I.ok.mod.kin hk (thn (ha.run pos pins s σ H _ I h) fun us s1 q => ?_) he hpl
  obtain ⟨vs, H1, I1, r, q⟩ := q
  rw [List.append_nil] at q
  exact ⟨I1.kIn, runG F hr hb hx I1 r q⟩
theorem pe_f0 (F : Has X.prog X.w X.K X.mg X.base CX x ps k sp) (hr : RoomG k X.A) (hg : Gl X x) (hx : Passes CX X E)
    (hdb : (x == ("__debug__" : Str)) = false := by decide) :
    PE X (.Call (.Name x p) [] [] pos) (tCall sp [] E tNil) := by
  obtain ⟨f, fd, ⟨hk, _⟩, hm, hb, F⟩ := F
  refine ⟨fun pins s σ H Q I h => wpAny_Call_Name_kw (ld_glob I hg hm ?_ hdb)⟩
  exact PySem.W.callWith_K0 I.kIn hk (runG (us := []) F hr hb hx I .nil h)

/-- repr of data -/
theorem call_reprD {k : Nat} (hr : RoomG k X.A) : CallR X (.builtin "repr") (fun xs H Q => ∃ a d, xs = [.ref a] ∧
    Dp X.K H (.ref a) d ∧ d.showable = true ∧ d.hasDict = false ∧ d.depth ≤ 100 ∧ d.shown.length ≤ sizeLine ∧
    Q (.str d.shown) H) := by
  intro pins s σ H xs us Q I r h
  obtain ⟨a, d, rfl, hd, h1, h2, h3, h4, q⟩ := h
  obtain ⟨u, rfl, r1⟩ := vals1 r
  cases (show u = Value.ref a from r1)
  obtain ⟨as, rd⟩ := Dp.reads I d _ _ hd r1
  have hu := hr.r.un
  refine repr_of_reads' rd h1 (PyData.noDict_hsm h2) hr.g (by omega) (fun _ _ e => e) (fun h' u tk hk => ?_) h4
  exact ⟨.str d.shown, H, I.kept hk, ⟨_, rfl⟩, q⟩
end
end Aw

/-! the end of a law by its def's promise -/
namespace Aw
open PySem PySem.Spec PyProof.Rows L2

def spLaw (K : PySem.W.Frag) : Sp := fun vs H Q _ => ∃ (a : Addr) (ns : List Int),
  vs = [.ref a] ∧ SqL K H a (ns.map V.int) ∧ ns.length ≤ 63 ∧ ∀ H', Q (.bl true) H'

theorem lawG_core {P : Program} {w : World} {K : PySem.W.Frag} {mg mb : Str → Option Value} {k : Nat} {fa a : Addr}
    {x : Str} {s : Shared} {vs : List Value} {ns : List Int} (KX : K.In s.heap) (hns : s.heap.Ns mainGlobals mg)
    (hb : s.heap.Ns builtinsNs mb) (hbb : ∀ x : Str, x ≠ "__name__" → mb x = bootBuiltins x)
    (hlim : s.heap.NoLimit) (hsm : ∃ mm, s.heap.Ns sysModules mm) (hg : s.gens = #[])
    (ha : s.heap.get? a = some { cls := .type "list", data := .seq vs.toArray }) (hl : ns.length ≤ 63)
    (hr : RoomG k callerA) (hfa : mg "law" = some (.ref fa))
    (F : ∀ base : Heap, K.In base → base.Ns mainGlobals mg → (∃ mm, base.Ns sysModules mm) → Has P w K mg base CX0 "law" [x] k (spLaw K))
    (H : Hp) (hO : Only H) (hS : SqL K H a (ns.map V.int)) (hok : HOk P w H s.heap) (hA : ∀ b, H b ≠ none → b = a)
    (hK : H a ≠ none → K.lookup a = none) :
    codeAny (model P w) callerA (.call (.ref fa) ⟨[.ref a], []⟩)
      (fun r s' => r = .ok (.ret (.bool true)) ∧ OldK s.heap s'.heap ∧ s'.os = s.os ∧ AllBare s'.gens) s := by
  have isA : ∀ {b : Addr} {u : HO}, H b = some u → b = a := fun {b u} q => hA b (by rw [q]; simp)
  have keepD : ∀ {b : Addr} {m : Str → Option Value}, s.heap.Ns b m → (hidT s.heap H).Ns b m := by
    rintro b m ⟨o, es, ep, e, d, r⟩
    refine ⟨o, es, ep, hidT_get e ?_, d, r⟩
    cases q : H b with
    | none => rfl
    | some u =>
      cases isA q
      rw [ha] at e
      cases e
      exact nomatch (show Data.seq vs.toArray _ = Data.dict es ep from d)
  have hKb : K.In (hidT s.heap H) := by
    intro b o e
    refine hidT_get (KX b o e) ?_
    cases q : H b with
    | none => rfl
    | some u =>
      cases isA q
      rw [hK (by rw [q]; simp)] at e
      cases e
  have hM : Mod K mg (hidT s.heap H) := by
    obtain ⟨mc, h1, h2⟩ := hlim
    exact ⟨hKb, keepD hns, ⟨mb, keepD hb, hbb⟩, ⟨mc, keepD h1, h2⟩⟩
  have e0 : Env0 P w K mg (hidT s.heap H) callerA [] s H := by
    refine ⟨rfl, hM, fun b o e => of_hidT e, Nat.le_of_eq (hidT_size _ _), trivial, fun b hb => ?_, hok, .of_eq hg⟩
    exact absurd (show b ∈ ([] : List Addr) from hb) (by simp)
  obtain ⟨f, fd, kp, m, bd, FN⟩ := F _ hKb (keepD hns) (hsm.elim fun mm h => ⟨mm, keepD h⟩)
  cases hfa.symm.trans m
  have bb := bd s [.ref a] KX rfl
  have hsp : spLaw K [.ref a] H (fun v _ => v = .bl true) (fun _ _ _ => False) := ⟨a, ns, rfl, hS, hl, fun _ => rfl⟩
  refine codeAny_mono (FN.run callerA [] s H ⟨[.ref a], []⟩ [.ref a] [.ref a] _ _ hr e0 bb (.cons rfl .nil) hsp) ?_
  intro r s' h
  match r, h with
  | .ok (.ret u), h =>
    obtain ⟨v, H', os, bare, un, hok', r', q⟩ := h
    cases (show v = .bl true from q)
    cases (show u = Value.bool true from r')
    refine ⟨rfl, OldK.of_keep fun b o e => ?_, os, bare⟩
    cases q : H b with
    | none => exact un.keep b o e q (fun z => absurd (show b ∈ ([] : List Addr) from z) (by simp)) (by simp)
    | some u =>
      rcases hO b with z | ⟨ob, xs, z⟩
      · rw [q] at z
        cases z
      · have e1 := (hok b _ z).1
        rw [e] at e1
        cases e1
        exact (hok' b _ (un.frzs b _ _ z)).1

theorem lawG {P : Program} {w : World} {K : PySem.W.Frag} {mg mb : Str → Option Value} {k : Nat} {fa a : Addr}
    {x : Str} {s : Shared} {vs : List Value} {ns : List Int} (KX : K.In s.heap) (hns : s.heap.Ns mainGlobals mg)
    (hb : s.heap.Ns builtinsNs mb) (hbb : ∀ x : Str, x ≠ "__name__" → mb x = bootBuiltins x)
    (hlim : s.heap.NoLimit) (hsm : ∃ mm, s.heap.Ns sysModules mm) (hg : s.gens = #[])
    (ha : s.heap.get? a = some { cls := .type "list", data := .seq vs.toArray }) (hi : IntsAre vs ns)
    (hl : ns.length ≤ 63) (hr : RoomG k callerA) (hfa : mg "law" = some (.ref fa))
    (F : ∀ base : Heap, K.In base → base.Ns mainGlobals mg → (∃ mm, base.Ns sysModules mm) → Has P w K mg base CX0 "law" [x] k (spLaw K)) :
    codeAny (model P w) callerA (.call (.ref fa) ⟨[.ref a], []⟩)
      (fun r s' => r = .ok (.ret (.bool true)) ∧ OldK s.heap s'.heap ∧ s'.os = s.os ∧ AllBare s'.gens) s := by
  have rv := vals_ints hi
  have h63 : (63 : Nat) ≤ sizeLine := by decide
  have lenV := hi.length
  have core := lawG_core KX hns hb hbb hlim hsm hg ha hl hr hfa F
  cases hk : K.lookup a with
  | some o =>
    have e := KX a o hk
    rw [ha] at e
    cases e
    refine core (fun _ => none) (fun _ => .inl rfl) (.inr ⟨_, vs.toArray, _, hk, rfl, rfl, rfl, ?_, by simpa using rv⟩)
      (fun b u z => nomatch (show (none : Option HO) = some u from z)) (fun b z => absurd rfl z) fun z => absurd rfl z
    rw [List.size_toArray, lenV]
    exact Nat.le_trans hl h63
  | none =>
    refine core (upd (fun _ => none) a (.frz { cls := .type "list", data := .seq vs.toArray } (.lst (ns.map V.int))))
      (fun b => ?_) (.inl (.inr ⟨_, upd_same⟩)) (fun b u z => ?_) (fun b z => ?_) fun _ => hk
    · by_cases hb : b = a
      · subst hb
        exact .inr ⟨_, _, upd_same⟩
      · exact .inl (upd_ne hb)
    · by_cases hb : b = a
      · subst hb
        rw [upd_same] at z
        cases z
        exact ⟨ha, by rw [List.length_map]; exact Nat.le_trans hl h63, vs, _, rv, ha⟩
      · rw [upd_ne hb] at z
        cases z
    · exact Classical.byContradiction fun hb => z (upd_ne hb)

theorem walkG {l : PySem.W.OpenLaw} {k : Nat} {q : Program} {loose : List Str}
    {XP : (Str → Option Value) → Heap → Prop} {YP : World → Heap → Prop} {d : DefRec} {K : Params → PySem.W.Frag}
    {x : Str} (hn : l.most = some 63) (hdf : d.params.defaults = []) (hnm : d.name = "law") (hr : RoomG k callerA)
    (hY : ∀ (w : World) (h : Heap), YP w h → (K w.params).In h)
    (F : ∀ (w : World) (mg : Str → Option Value) (h : Heap), (K w.params).In h → h.Ns mainGlobals mg →
      ∀ base : Heap, (K w.params).In base → base.Ns mainGlobals mg → (∃ mm, base.Ns sysModules mm) →
        Has l.prog w (K w.params) mg base CX0 "law" [x] k (spLaw (K w.params)))
    (hq : importsNone q = true) :
    PySem.W.WalkO q loose XP YP l.row.toRowW d [] (fun f vs => PySem.call f vs) := by
  refine Att.attach_call hn hdf fun w s₀ s₁ mg mb fa o pm cd doc a vs ns G Y ho hd hcd hmg hobj hints hlen hg => ?_
  have KX := hY w _ Y
  rw [hnm] at hmg
  exact lawG KX G.T.g G.T.b G.T.builtins G.T.nolimit ((G.T.seer hq).mods.imp fun _ h => h.1) hg hobj hints hlen hr hmg (F w mg _ KX G.T.g)
theorem df_mk {K : PySem.W.Frag} {h : Heap} {mg : Str → Option Value} {x : Str} {st : Stmt} {ps : List Str} {f : Addr}
    {oc kV doc pm cdv ct : Value} {od an : Option Addr} {osl : Array (Option Value)} (X : K.In h) (G : h.Ns mainGlobals mg)
    (a : PySem.W.nsIn K mainGlobals x = some (some (.ref f)))
    (l : K.lookup f = some ⟨oc, od, .func (PySem.W.fnOf x x (defArgs st) (defBody st) (defScope st) .none kV doc pm an cdv ct), osl⟩)
    (c : PySem.W.codeIn K cdv x = true) (k : PySem.W.keepIn K (.ref f) = true)
    (b : ∀ (kV doc pm : Value) (an : Option Addr) (cdv ct : Value) (us : List Value), us.length = ps.length →
      bindArgs (PySem.W.fnOf x x (defArgs st) (defBody st) (defScope st) .none kV doc pm an cdv ct) ⟨us, []⟩ = pure (ps.zip us)) :
    Df K mg x st ps := by
  have F := fun_mk (st := st) l c k
  exact ⟨f, _, F, PySem.W.mg_of X G a, F.binds b⟩
theorem gstr_mk {K : PySem.W.Frag} {h : Heap} {mg : Str → Option Value} {x z : Str} {t : Tok} (X : K.In h) (G : h.Ns mainGlobals mg)
    (a : PySem.W.nsIn K mainGlobals x = some (some (.str z t))) : ∃ t, mg x = some (.str z t) := ⟨t, PySem.W.mg_of X G a⟩
theorem gint_mk {K : PySem.W.Frag} {h : Heap} {mg : Str → Option Value} {x : Str} {z : Int} {t : Tok} (X : K.In h) (G : h.Ns mainGlobals mg)
    (a : PySem.W.nsIn K mainGlobals x = some (some (.int z t))) : ∃ t, mg x = some (.int z t) := ⟨t, PySem.W.mg_of X G a⟩
end Aw

/-! heaps: what is kept; data of tuples; the deck of a law; built-in names -/
namespace Aw
open PySem PySem.Spec L2

/-- names of built-ins that the top leaves alone -/
structure Blt (mg : Str → Option Value) : Prop where
  len : mg "len" = none
  int : mg "int" = none
  abs : mg "abs" = none
  str : mg "str" = none
  bool : mg "bool" = none
  range : mg "range" = none
  isinstance : mg "isinstance" = none
  tuple : mg "tuple" = none
  list : mg "list" = none
  repr : mg "repr" = none
  zip : mg "zip" = none
  enumerate : mg "enumerate" = none
  sum : mg "sum" = none
  min : mg "min" = none
  max : mg "max" = none
  all : mg "all" = none
  any : mg "any" = none
  sorted : mg "sorted" = none
  dict : mg "dict" = none

/-- what may be written -/
def Mut : HO → Prop
  | .tup _ => False
  | .frz _ _ => False
  | _ => True
/-- all but what stands at M is kept -/
def Kp (M : List Addr) (H H' : Hp) : Prop :=
  ∀ b o, H b = some o → (b ∈ M → Mut o) ∧ (b ∉ M → H' b = some o)
/-- lists stand at M -/
def Ls (M : List Addr) (H : Hp) : Prop := ∀ b ∈ M, ∃ xs, H b = some (.lst xs)
theorem Kp.refl {M : List Addr} {H : Hp} (h : Ls M H) : Kp M H H := fun b o e => ⟨fun m => by
  obtain ⟨xs, q⟩ := h b m
  rw [e] at q
  cases q
  trivial, fun _ => e⟩
/-- what may be written stands at M -/
def Ms (M : List Addr) (H : Hp) : Prop := ∀ b ∈ M, ∃ o, H b = some o ∧ Mut o
theorem Kp.reflM {M : List Addr} {H : Hp} (h : Ms M H) : Kp M H H := fun b o e => ⟨fun m => by
  obtain ⟨o', q, z⟩ := h b m
  rw [e] at q
  cases q
  exact z, fun _ => e⟩
theorem Ms.nil {H : Hp} : Ms [] H := fun b m => by cases m
theorem Ms.cons {M : List Addr} {H : Hp} {a : Addr} {o : HO} (e : H a = some o) (z : Mut o) (h : Ms M H) : Ms (a :: M) H := fun b m => by
  rcases List.mem_cons.mp m with rfl | m
  · exact ⟨o, e, z⟩
  · exact h b m
theorem Kp.nil {H : Hp} : Kp [] H H := fun b o e => ⟨fun m => (by cases m), fun _ => e⟩
theorem Kp.trans {M : List Addr} {H H1 H2 : Hp} (a : Kp M H H1) (b : Kp M H1 H2) : Kp M H H2 := fun c o e =>
  ⟨(a c o e).1, fun n => (b c o ((a c o e).2 n)).2 n⟩
theorem Kp.sub {M M' : List Addr} {H H1 : Hp} (a : Kp M H H1) (h : Ls M' H) (s : ∀ b ∈ M, b ∈ M') : Kp M' H H1 := fun c o e =>
  ⟨fun m => by
    obtain ⟨xs, q⟩ := h c m
    rw [e] at q
    cases q
    trivial, fun n => (a c o e).2 fun m => n (s c m)⟩
theorem Kp.subM {M M' : List Addr} {H H1 : Hp} (a : Kp M H H1) (h : Ms M' H) (s : ∀ b ∈ M, b ∈ M') : Kp M' H H1 := fun c o e =>
  ⟨fun m => by
    obtain ⟨o', q, z⟩ := h c m
    rw [e] at q
    cases q
    exact z, fun n => (a c o e).2 fun m => n (s c m)⟩
theorem Kp.same {H H1 : Hp} (a : Kp [] H H1) : Same H H1 := fun b o e => (a b o e).2 (by simp)
theorem Kp.of {H H1 : Hp} (a : Same H H1) : Kp [] H H1 := fun b o e => ⟨fun m => (by cases m), fun _ => a b o e⟩
theorem Kp.get {M : List Addr} {H H1 : Hp} {b : Addr} {o : HO} (a : Kp M H H1) (e : H b = some o) (n : b ∉ M) : H1 b = some o := (a b o e).2 n
theorem Kp.tup {M : List Addr} {H H1 : Hp} {b : Addr} {xs : List V} (a : Kp M H H1) (e : H b = some (.tup xs)) : H1 b = some (.tup xs) :=
  (a b _ e).2 fun m => (a b _ e).1 m
/-- a new object -/
theorem Kp.new {M : List Addr} {H H1 : Hp} {p : Addr} {o : HO} (a : Kp M H H1) (n : H1 p = none) : Kp M H (upd H1 p o) := fun b u e =>
  ⟨(a b u e).1, fun m => by
    have q := (a b u e).2 m
    rw [upd_ne (ne_of_none q n)]
    exact q⟩
theorem same_new {H : Hp} {p : Addr} {o : HO} (n : H p = none) : Same H (upd H p o) := fun b u e => by
  rw [upd_ne (ne_of_none e n)]
  exact e
/-- a write at M -/
theorem Kp.write {M : List Addr} {H H1 : Hp} {p : Addr} {o : HO} (a : Kp M H H1) (m : p ∈ M) : Kp M H (upd H1 p o) := fun b u e =>
  ⟨(a b u e).1, fun n => by
    have q := (a b u e).2 n
    rw [upd_ne (fun z : b = p => n (by rw [z]; exact m))]
    exact q⟩
/-- what was not there ahead may be written -/
theorem Kp.own {M : List Addr} {H H1 : Hp} {p : Addr} {o : HO} (a : Kp M H H1) (n : H p = none) : Kp M H (upd H1 p o) := fun b u e =>
  ⟨(a b u e).1, fun m => by
    rw [upd_ne (ne_of_none e n)]
    exact (a b u e).2 m⟩
theorem Kp.free {M : List Addr} {H H1 : Hp} {p : Addr} (a : Kp M H H1) (l : Ls M H1) (n : H1 p = none) : H p = none := by
  cases q : H p with
  | none => rfl
  | some o =>
    by_cases m : p ∈ M
    · obtain ⟨xs, z⟩ := l p m
      rw [n] at z
      cases z
    · rw [(a p o q).2 m] at n
      cases n

theorem Kp.freeM {M : List Addr} {H H1 : Hp} {p : Addr} (a : Kp M H H1) (l : Ms M H1) (n : H1 p = none) : H p = none := by
  cases q : H p with
  | none => rfl
  | some o =>
    by_cases m : p ∈ M
    · obtain ⟨o', z, _⟩ := l p m
      rw [n] at z
      cases z
    · rw [(a p o q).2 m] at n
      cases n
theorem sqT_kp {K : PySem.W.Frag} {M : List Addr} {H H1 : Hp} {b : Addr} {xs : List V} (a : Kp M H H1) (h : SqT K H b xs) : SqT K H1 b xs := by
  rcases h with (h | ⟨o, h⟩) | h
  · exact .inl (.inl (a.tup h))
  · exact .inl (.inr ⟨o, (a b _ h).2 fun m => (a b _ h).1 m⟩)
  · exact .inr h

theorem sqL_kp {K : PySem.W.Frag} {M : List Addr} {H H1 : Hp} {b : Addr} {xs : List V} (a : Kp M H H1) (n : b ∉ M) (h : SqL K H b xs) : SqL K H1 b xs := by
  rcases h with (h | ⟨o, h⟩) | h
  · exact .inl (.inl (a.get h n))
  · exact .inl (.inr ⟨o, a.get h n⟩)
  · exact .inr h

/-- data without lists -/
inductive Dt (K : PySem.W.Frag) (H : Hp) : V → PyData → Prop
  | non : Dt K H .non .none
  | bl (b : Bool) : Dt K H (.bl b) (.bool b)
  | int (i : Int) : Dt K H (.int i) (.int i)
  | str (x : Str) : Dt K H (.str x) (.str x)
  | tup {a : Addr} {xs : List V} {ds : List PyData} : SqT K H a xs → xs.length = ds.length →
      (∀ (i : Nat) (v : V) (d : PyData), xs[i]? = some v → ds[i]? = some d → Dt K H v d) → Dt K H (.ref a) (.tuple ds)
theorem Dt.kp {K : PySem.W.Frag} {M : List Addr} {H H1 : Hp} {v : V} {d : PyData} (a : Kp M H H1) (h : Dt K H v d) : Dt K H1 v d := by
  induction h with
  | non => exact .non
  | bl b => exact .bl b
  | int i => exact .int i
  | str x => exact .str x
  | tup s l _ ih => exact .tup (sqT_kp a s) l ih
theorem Dt.dp {K : PySem.W.Frag} {H : Hp} {v : V} {d : PyData} (h : Dt K H v d) : Dp K H v d := by
  induction h with
  | non => exact .non
  | bl b => exact .bl b
  | int i => exact .int i
  | str x => exact .str x
  | @tup a xs ds s l _ ih =>
    refine .tup s ?_
    clear s
    induction xs generalizing ds with
    | nil =>
      cases ds with
      | nil => exact .nil
      | cons d ds => cases l
    | cons x xs ihx =>
      cases ds with
      | nil => cases l
      | cons d ds =>
        refine .cons (ih 0 x d rfl rfl) (ihx (by simpa using l) (fun i => ?_) fun i => ?_)
        · rename_i q
          exact q (i + 1)
        · exact ih (i + 1)

/-! ### the deck of a law -/
structure Deck (H : Hp) (d c : Addr) (n : Int) : Prop where
  hd : H d = some (.lst [.ref c, .int n])
  hc : ∃ cs : List Int, H c = some (.lst (cs.map V.int)) ∧ (∀ x ∈ cs, 0 ≤ x) ∧ cs.length ≤ 63
  ne : d ≠ c
  n0 : 0 ≤ n
theorem Deck.ls {H : Hp} {d c : Addr} {n : Int} (D : Deck H d c n) : Ls [d, c] H := by
  intro b m
  rcases List.mem_cons.mp m with rfl | m
  · exact ⟨_, D.hd⟩
  · obtain ⟨cs, h, _⟩ := D.hc
    rw [List.mem_singleton.mp m]
    exact ⟨_, h⟩
theorem Deck.ls3 {H : Hp} {d c l : Addr} {n : Int} {xs : List V} (D : Deck H d c n) (h : H l = some (.lst xs)) : Ls [d, c, l] H := by
  intro b m
  rcases List.mem_cons.mp m with rfl | m
  · exact ⟨_, D.hd⟩
  rcases List.mem_cons.mp m with rfl | m
  · obtain ⟨cs, h, _⟩ := D.hc
    exact ⟨_, h⟩
  · rw [List.mem_singleton.mp m]
    exact ⟨_, h⟩
theorem Deck.fresh {H : Hp} {d c p : Addr} {n : Int} (D : Deck H d c n) (h : H p = none) : p ≠ d ∧ p ≠ c := by
  obtain ⟨cs, hc, _⟩ := D.hc
  exact ⟨Ne.symm (ne_of_none D.hd h), Ne.symm (ne_of_none hc h)⟩
theorem Deck.kp {M : List Addr} {H H1 : Hp} {d c : Addr} {n : Int} (D : Deck H d c n) (k : Kp M H H1) (hd : d ∉ M) (hc : c ∉ M) : Deck H1 d c n := by
  obtain ⟨cs, h, a, b⟩ := D.hc
  exact ⟨k.get D.hd hd, ⟨cs, k.get h hc, a, b⟩, D.ne, D.n0⟩

/-- a draw -/
def spDraw : Sp := fun vs H Q _ => ∃ (d c : Addr) (n m : Int), vs = [.ref d, .int m] ∧ Deck H d c n ∧ n < 10 ^ 12 ∧ 1 ≤ m ∧ m < 2 ^ 30 ∧
  ∀ (H' : Hp) (r : Int), 0 ≤ r → r < m → Deck H' d c (n + 1) → Kp [d, c] H H' → Q (.int r) H'
theorem spDraw.use {H : Hp} {Q : VK} {E : XK} {d c : Addr} {n m : Int} (D : Deck H d c n) (hn : n < 10 ^ 12) (h1 : 1 ≤ m) (h2 : m < 2 ^ 30)
    (k : ∀ (H' : Hp) (r : Int), 0 ≤ r → r < m → Deck H' d c (n + 1) → Kp [d, c] H H' → Q (.int r) H') : spDraw [.ref d, .int m] H Q E :=
  ⟨d, c, n, m, rfl, D, hn, h1, h2, k⟩
/-- the deck is made -/
def spDeck (K : PySem.W.Frag) : Sp := fun vs H Q _ => ∃ (a : Addr) (ns : List Int), vs = [.ref a] ∧ SqL K H a (ns.map V.int) ∧ ns.length ≤ 63 ∧
  ∀ (H' : Hp) (d c : Addr), H d = none → H c = none → Deck H' d c 0 → Kp [] H H' → Q (.ref d) H'
/-- one of the items of a list, of a text -/
def spOneL (K : PySem.W.Frag) : Sp := fun vs H Q _ => ∃ (d c a : Addr) (n : Int) (xs : List V), vs = [.ref d, .ref a] ∧ Deck H d c n ∧ n < 10 ^ 12 ∧ SqL K H a xs ∧ a ≠ d ∧ a ≠ c ∧
  1 ≤ xs.length ∧ xs.length < 2 ^ 30 ∧ ∀ (H' : Hp) (i : Nat) (x : V), xs[i]? = some x → Deck H' d c (n + 1) → Kp [d, c] H H' → Q x H'
def spOneS : Sp := fun vs H Q _ => ∃ (d c : Addr) (n : Int) (z : Str), vs = [.ref d, .str z] ∧ Deck H d c n ∧ n < 10 ^ 12 ∧
  1 ≤ z.length ∧ z.length ≤ 1000 ∧ ∀ (H' : Hp) (k : Nat), k ∈ z.cps.toList → Deck H' d c (n + 1) → Kp [d, c] H H' → Q (.str ⟨#[k]⟩) H'
def spOne (K : PySem.W.Frag) : Sp := fun vs H Q E => spOneL K vs H Q E ∨ spOneS vs H Q E
theorem spOne.list {K : PySem.W.Frag} {H : Hp} {Q : VK} {E : XK} {d c a : Addr} {n : Int} {xs : List V} (D : Deck H d c n) (hn : n < 10 ^ 12) (s : SqL K H a xs) (h1 : a ≠ d) (h2 : a ≠ c)
    (h3 : 1 ≤ xs.length) (h4 : xs.length < 2 ^ 30) (k : ∀ (H' : Hp) (i : Nat) (x : V), xs[i]? = some x → Deck H' d c (n + 1) → Kp [d, c] H H' → Q x H') : spOne K [.ref d, .ref a] H Q E :=
  .inl ⟨d, c, a, n, xs, rfl, D, hn, s, h1, h2, h3, h4, k⟩
theorem spOne.text {K : PySem.W.Frag} {H : Hp} {Q : VK} {E : XK} {d c : Addr} {n : Int} {z : Str} (D : Deck H d c n) (hn : n < 10 ^ 12) (h3 : 1 ≤ z.length) (h4 : z.length ≤ 1000)
    (k : ∀ (H' : Hp) (i : Nat), i ∈ z.cps.toList → Deck H' d c (n + 1) → Kp [d, c] H H' → Q (.str ⟨#[i]⟩) H') : spOne K [.ref d, .str z] H Q E :=
  .inr ⟨d, c, n, z, rfl, D, hn, h3, h4, k⟩
end Aw

/-! readings, one step each; named readings of calls -/
namespace Aw
open PySem PySem.Spec L2

section
variable {σ : L2.St} {H : Hp} {D : Ends} {Q : VK} {v x y : V} {i j : Nat} {t u : TS} {te ta tb tc : TE} {tt tu : TT} {ts : TA} {g : TG} {gs : TGs}

/-! ### statements -/
theorem r_seq (h : t { D with nx := u D } σ H) : tSeq t u D σ H := h
theorem r_next (h : D.nx σ H) : tNext D σ H := h
theorem r_asg (h : te σ H fun x H1 => g x σ H1 D.nx) : tAsg te g D σ H := h
theorem r_name {R : L2.St → Hp → Prop} (h : R (σ.set i (some v)) H) : gName i v σ H R := h
theorem r_sub {to ti : TE} {w : TSet} {R : L2.St → Hp → Prop} (h : to σ H fun o H1 => ti σ H1 fun i H2 => w o i v H2 fun H3 => R σ H3) : gSub to ti w v σ H R := h
theorem r_gtup {K : PySem.W.Frag} {n : Nat} {a : Addr} {xs : List V} {R : L2.St → Hp → Prop} (h : SqT K H a xs) (l : xs.length = n) (q : gs xs σ H R) : gTup K n gs (.ref a) σ H R := ⟨a, xs, rfl, h, l, q⟩
theorem r_gcons {R : L2.St → Hp → Prop} {xs : List V} (h : g x σ H fun σ' H' => gs xs σ' H' R) : gCons g gs (x :: xs) σ H R := ⟨x, xs, rfl, h⟩
theorem r_gnil {R : L2.St → Hp → Prop} (h : R σ H) : gNil [] σ H R := ⟨rfl, h⟩
theorem r_ifS (h : tt σ H fun b H1 => if b = true then t D σ H1 else u D σ H1) : tIfS tt t u D σ H := h
theorem r_ret (h : te σ H D.rt) : tRet te D σ H := h
theorem r_retN (h : D.rt .non H) : tRetN D σ H := h
theorem r_drop (h : te σ H fun _ H1 => D.nx σ H1) : tDrop te D σ H := h
theorem r_par (h : ts σ H fun vs H1 => ∃ v w, vs = [v, w] ∧ D.nx ((σ.set i (some v)).set j (some w)) H1) : tPar i j ts D σ H := h
theorem r_two {R : V → V → Prop} (h : R x y) : ∃ v w, [x, y] = [v, w] ∧ R v w := ⟨x, y, rfl, h⟩
theorem r_par3 {l : Nat} (h : ts σ H fun vs H1 => ∃ u v w, vs = [u, v, w] ∧ D.nx (((σ.set i (some u)).set j (some v)).set l (some w)) H1) : tPar3 i j l ts D σ H := h
theorem r_three {R : V → V → V → Prop} {z : V} (h : R x y z) : ∃ u v w, [x, y, z] = [u, v, w] ∧ R u v w := ⟨x, y, z, rfl, h⟩
theorem r_aug {ti : TIp} (e : σ[i]? = some (some x)) (h : te σ H fun y H1 => ti x y H1 fun z H2 => D.nx (σ.set i (some z)) H2) : tAug i te ti D σ H := ⟨x, e, h⟩
theorem r_ipI {f : Int → Int → Int} {a b : Int} (h : Q (.int (f a b)) H) : ipI f (.int a) (.int b) H Q := ⟨a, b, rfl, rfl, h⟩

/-! ### expressions -/
theorem r_var (e : σ[i]? = some (some v)) (h : Q v H) : tVar i σ H Q := ⟨v, e, h⟩
theorem r_C (h : Q v H) : tC v σ H Q := h
theorem r_op {r : R2} (h : ta σ H fun x H1 => tb σ H1 fun y H2 => r x y H2 Q) : tOp r ta tb σ H Q := h
theorem r_un {r : V → Hp → VK → Prop} (h : ta σ H fun x H1 => r x H1 Q) : tUn r ta σ H Q := h
theorem r_I0 {f : Int → Int → V} {a b : Int} (h : Q (f a b) H) : rI0 f (.int a) (.int b) H Q := ⟨a, b, rfl, rfl, h⟩
theorem r_I {C : Int → Int → Prop} {f : Int → Int → V} {a b : Int} (h : Q (f a b) H) (c : C a b) : rI C f (.int a) (.int b) H Q := ⟨a, b, rfl, rfl, c, h⟩
theorem r_U {f : Int → V} {a : Int} (h : Q (f a) H) : rU f (.int a) H Q := ⟨a, rfl, h⟩
theorem r_tup (h : ts σ H fun xs H1 => xs.length ≤ sizeLine ∧ ∀ p, H1 p = none → Q (.ref p) (upd H1 p (.tup xs))) : tTup ts σ H Q := h
theorem r_lst (h : ts σ H fun xs H1 => xs.length ≤ sizeLine ∧ ∀ p, H1 p = none → Q (.ref p) (upd H1 p (.lst xs))) : tLst ts σ H Q := h
theorem r_nil {R : List V → Hp → Prop} (h : R [] H) : tNil σ H R := h
theorem r_cons {R : List V → Hp → Prop} (h : te σ H fun x H1 => ts σ H1 fun xs H2 => R (x :: xs) H2) : tCons te ts σ H R := h
theorem r_call {sp : Sp} {E : XK} (h : ts σ H fun vs H1 => sp (vs ++ []) H1 Q E) : tCall sp [] E ts σ H Q := h
theorem r_CB {r : List V → Hp → VK → Prop} (h : ts σ H fun vs H1 => r vs H1 Q) : tCB r ts σ H Q := h
theorem r_BM {K : PySem.W.Frag} {T : String} {r : V → List V → Hp → VK → Prop} {to : TE} (h : to σ H fun x H1 => tyV K T x H1 ∧ ts σ H1 fun xs H2 => r x xs H2 Q) : tBM K T r to ts σ H Q := h
theorem r_BM0 {K : PySem.W.Frag} {T : String} {r : V → List V → Hp → VK → Prop} {to : TE} (h : to σ H fun x H1 => tyV K T x H1 ∧ r x [] H1 Q) : tBM0 K T r to σ H Q := h
theorem r_tyL {K : PySem.W.Frag} {a : Addr} {xs : List V} {R : Prop} (h : H a = some (.lst xs)) (q : R) : tyV K "list" (.ref a) H ∧ R := ⟨.inl ⟨rfl, _, SqL.of h⟩, q⟩
theorem r_M1 {r : V → List V → Hp → VK → Prop} {to : TE} (h : to σ H fun x H1 => (∃ a, x = .str a) ∧ te σ H1 fun y H2 => r x [y] H2 Q) : tM1 r to te σ H Q := h
theorem r_isS {z : Str} {R : Prop} (h : R) : (∃ a, V.str z = .str a) ∧ R := ⟨⟨z, rfl⟩, h⟩
theorem r_if (h : tt σ H fun c H1 => if c = true then ta σ H1 Q else tb σ H1 Q) : tIf tt ta tb σ H Q := h

/-- both ways of a conditional expression meet -/
theorem r_ifJ (R : V → Hp → Prop) (h : ∀ Q' : VK, (∀ x H', R x H' → Q' x H') → tIf tt ta tb σ H Q') (k : ∀ x H', R x H' → Q x H') : tIf tt ta tb σ H Q := h Q k
/-- the ways of a statement meet -/
theorem r_seqJ (R : L2.St → Hp → Prop) (h : ∀ nx' : L2.St → Hp → Prop, (∀ σ' H', R σ' H' → nx' σ' H') → t { D with nx := nx' } σ H) (k : ∀ σ' H', R σ' H' → u D σ' H') : tSeq t u D σ H := h (u D) k

/-! ### tests -/
def Bl (R : Bool → Hp → Prop) : V → Hp → Prop := fun x H => ∃ k, x = .bl k ∧ R k H
theorem r_bl {R : Bool → Hp → Prop} {b : Bool} (h : R b H) : Bl R (.bl b) H := ⟨b, rfl, h⟩
theorem r_test {R : Bool → Hp → Prop} (h : te σ H (Bl R)) : tTest te σ H R := h
theorem r_B {R : Bool → Hp → Prop} (h : te σ H (Bl R)) : tB te σ H R := h
theorem r_and {R : Bool → Hp → Prop} (h : tt σ H fun c H1 => if c = true then tu σ H1 R else R false H1) : tAnd tt tu σ H R := h
theorem r_or {R : Bool → Hp → Prop} (h : tt σ H fun c H1 => if c = true then R true H1 else tu σ H1 R) : tOr tt tu σ H R := h
theorem r_orP {R : Bool → Hp → Prop} {p q : Bool} (h1 : ∀ R' : Bool → Hp → Prop, R' p H → tt σ H R') (h2 : ∀ R' : Bool → Hp → Prop, R' q H → tu σ H R') (h : R (p || q) H) : tOr tt tu σ H R := by
  refine h1 _ ?_
  cases p with
  | true => exact iteT h
  | false => exact iteF (h2 _ h)
theorem r_andP {R : Bool → Hp → Prop} {p q : Bool} (h1 : ∀ R' : Bool → Hp → Prop, R' p H → tt σ H R') (h2 : ∀ R' : Bool → Hp → Prop, R' q H → tu σ H R') (h : R (p && q) H) : tAnd tt tu σ H R := by
  refine h1 _ ?_
  cases p with
  | true => exact iteT (h2 _ h)
  | false => exact iteF h
theorem r_not {R : Bool → Hp → Prop} (h : tt σ H fun c H1 => R (!c) H1) : tNot tt σ H R := h
theorem r_andV (h : ta σ H (Bl fun c H1 => if c = true then tb σ H1 Q else Q (.bl false) H1)) : tAndV ta tb σ H Q := h
theorem r_orV (h : ta σ H (Bl fun c H1 => if c = true then Q (.bl true) H1 else tb σ H1 Q)) : tOrV ta tb σ H Q := h
theorem r_notV (h : ta σ H (Bl fun c H1 => Q (.bl (!c)) H1)) : tNotV ta σ H Q := h
theorem r_chain {r r' : R2} (h : ta σ H fun x H1 => tb σ H1 fun y H2 => r x y H2 (Bl fun k H3 => if k = true then tc σ H3 fun w' H4 => r' y w' H4 Q else Q (.bl false) H3)) : tChain r r' ta tb tc σ H Q := h
theorem r_eq (s : scal x y = true) (h : Q (.bl (decide (x = y))) H) : rEq x y H Q := ⟨s, h⟩
theorem r_ne (s : scal x y = true) (h : Q (.bl (!decide (x = y))) H) : rNe x y H Q := ⟨s, h⟩
theorem r_eqT (e : x = y) (s : scal x y = true) (h : Q (.bl true) H) : rEq x y H Q := ⟨s, by rw [decide_eq_true e]; exact h⟩
theorem r_eqF (e : x ≠ y) (s : scal x y = true) (h : Q (.bl false) H) : rEq x y H Q := ⟨s, by rw [decide_eq_false e]; exact h⟩
theorem r_neT (e : x ≠ y) (s : scal x y = true) (h : Q (.bl true) H) : rNe x y H Q := ⟨s, by rw [decide_eq_false e]; exact h⟩
theorem r_neF (e : x = y) (s : scal x y = true) (h : Q (.bl false) H) : rNe x y H Q := ⟨s, by rw [decide_eq_true e]; exact h⟩
theorem ifd {p A B : Prop} [Decidable p] (h1 : p → A) (h2 : ¬ p → B) : if decide p = true then A else B :=
  ite2 (fun c => h1 (of_decide_eq_true c)) fun c => h2 fun q => c (decide_eq_true q)
theorem ifn {p A B : Prop} [Decidable p] (h1 : ¬ p → A) (h2 : p → B) : if (!decide p) = true then A else B := by
  by_cases h : p
  · rw [decide_eq_true h]
    exact iteF (h2 h)
  · rw [decide_eq_false h]
    exact iteT (h1 h)
theorem ifT {A B : Prop} (h : A) : if true = true then A else B := iteT h
theorem ifF {A B : Prop} (h : B) : if false = true then A else B := iteF h
theorem ifnT {A B : Prop} (h : B) : if (!true) = true then A else B := iteF h
theorem ifnF {A B : Prop} (h : A) : if (!false) = true then A else B := iteT h

theorem c_pow {i j : Int} (h : i.natAbs < 2 ^ 64) (h1 : 0 ≤ j) (h2 : j ≤ 1000000) : CPow i j := ⟨h1, h2, h⟩
theorem c_div {i j : Int} (h : 0 < j) (h1 : j < 1073741824) : CDiv i j := ⟨h, h1⟩
theorem c_mulL {i j : Int} (h : -(2 ^ 64) < i) (h1 : i < 2 ^ 64) : CMul i j := .inl ⟨h, h1⟩
theorem c_mulR {i j : Int} (h : -(2 ^ 64) < j) (h1 : j < 2 ^ 64) : CMul i j := .inr ⟨h, h1⟩

def rAddS : R2 := fun x y H Q => ∃ i j, x = .str i ∧ y = .str j ∧ i.length + j.length ≤ sizeLine ∧ Q (.str (i ++ j)) H
theorem op_addS {X : Cx} : OpR X (binaryOp .Add) rAddS := op_add_str
theorem r_addS {a b : Str} (h : Q (.str (a ++ b)) H) (l : a.length + b.length ≤ sizeLine) : rAddS (.str a) (.str b) H Q := ⟨a, b, rfl, rfl, l, h⟩

/-! ### subscripts -/
theorem r_ixL {K : PySem.W.Frag} {a : Addr} {xs : List V} {k : Int} (h : SqL K H a xs) (e : atI xs k = some v) (q : Q v H) : rIxL K (.ref a) (.int k) H Q := ⟨a, xs, k, v, rfl, rfl, h, e, q⟩
theorem r_ixT {K : PySem.W.Frag} {a : Addr} {xs : List V} {k : Int} (h : SqT K H a xs) (e : atI xs k = some v) (q : Q v H) : rIxT K (.ref a) (.int k) H Q := ⟨a, xs, k, v, rfl, rfl, h, e, q⟩
theorem r_ixS {z : Str} {k : Int} {c : Nat} (l : z.length ≤ sizeLine) (e : atI z.cps.toList k = some c) (q : Q (.str ⟨#[c]⟩) H) : rIxS (.str z) (.int k) H Q := ⟨z, k, c, rfl, rfl, l, e, q⟩
theorem r_ixD {K : PySem.W.Frag} {w : World} {a : Addr} {z : Str} (h : KDct K w a z v) (q : Q v H) : rIxD K w (.ref a) (.str z) H Q := ⟨a, z, v, rfl, rfl, h, q⟩
theorem r_setL {R : Hp → Prop} {a : Addr} {xs : List V} {k : Int} {m : Nat} (h : H a = some (.lst xs)) (e : ixN xs.length k = some m) (q : R (upd H a (.lst (xs.set m v)))) : rSetL (.ref a) (.int k) v H R := ⟨a, xs, k, m, rfl, rfl, h, e, q⟩
theorem r_append {a : Addr} {xs : List V} (h : H a = some (.lst xs)) (q : Q .non (upd H a (.lst (xs ++ [x])))) (l : xs.length < sizeLine) : rAppend (.ref a) [x] H Q := ⟨a, xs, x, rfl, rfl, h, l, q⟩
theorem r_extend {a b : Addr} {xs zs : List V} (h : H a = some (.lst xs)) (h2 : H b = some (.lst zs)) (q : Q .non (upd H a (.lst (xs ++ zs)))) (l : xs.length + zs.length ≤ sizeLine) : rExtend (.ref a) [.ref b] H Q := ⟨a, b, xs, zs, rfl, rfl, h, h2, l, q⟩
theorem r_cat {a b : Addr} {xs zs : List V} (h : H a = some (.lst xs)) (h2 : H b = some (.lst zs)) (l : xs.length + zs.length ≤ sizeLine) (q : ∀ p, H p = none → Q (.ref p) (upd H p (.lst (xs ++ zs)))) : rCat (.ref a) (.ref b) H Q := ⟨a, b, xs, zs, rfl, rfl, h, h2, l, q⟩
theorem r_eqD {K : PySem.W.Frag} {d e : PyData} (h1 : Dp K H x d) (h2 : Dp K H y e) (s1 : SeqAt.shaped d = true) (s2 : SeqAt.shaped e = true) (q : Q (.bl (PyData.eqv d e)) H) : rEqD K x y H Q := ⟨d, e, h1, h2, s1, s2, q⟩
theorem r_neD {K : PySem.W.Frag} {d e : PyData} (h1 : Dp K H x d) (h2 : Dp K H y e) (s1 : SeqAt.shaped d = true) (s2 : SeqAt.shaped e = true) (q : Q (.bl (!PyData.eqv d e)) H) : rNeD K x y H Q := ⟨d, e, h1, h2, s1, s2, q⟩

theorem at_nn {α : Type} {xs : List α} {r : Int} {v : α} (h0 : 0 ≤ r) (h : xs[r.toNat]? = some v) : atI xs r = some v := by
  have q := atI_nat h
  rw [Int.toNat_of_nonneg h0] at q
  exact q
theorem ix_nn {n : Nat} {r : Int} (h0 : 0 ≤ r) (h : r < n) : ixN n r = some r.toNat := by
  unfold ixN
  rw [if_pos h0, if_pos h]

/-! ### slices -/
theorem r_sl {r : V → Option Int → Option Int → Hp → VK → Prop} {tl th : TO} (h : te σ H fun x H1 => tl σ H1 fun l H2 => th σ H2 fun u H3 => r x l u H3 Q) : tSl r te tl th σ H Q := h
theorem r_noPart {R : Option Int → Hp → Prop} (h : R none H) : tNoPart σ H R := h
def PartI (R : Option Int → Hp → Prop) : V → Hp → Prop := fun x H1 => ∃ i, x = .int i ∧ R (some i) H1
theorem r_part {R : Option Int → Hp → Prop} (h : te σ H (PartI R)) : tPart te σ H R := h
theorem r_partI {R : Option Int → Hp → Prop} {k : Int} (h : R (some k) H) : PartI R (.int k) H := ⟨k, rfl, h⟩
theorem r_slL {K : PySem.W.Frag} {a : Addr} {xs : List V} {lo hi : Option Int} (s : SqL K H a xs) (h : ∀ p, H p = none → Q (.ref p) (upd H p (.lst (cutV xs lo hi)))) : rSlL K (.ref a) lo hi H Q := ⟨a, xs, rfl, s, h⟩
theorem r_slS {z : Str} {lo hi : Option Int} (h : Q (.str (cutS z lo hi)) H) (l : z.length ≤ sizeLine) : rSlS (.str z) lo hi H Q := ⟨z, rfl, l, h⟩
theorem cutV_map {α : Type} (f : α → V) (xs : List α) (lo hi : Option Int) : ∃ ys : List α, cutV (xs.map f) lo hi = ys.map f ∧ ys.length ≤ xs.length ∧ ∀ y ∈ ys, y ∈ xs := by
  unfold cutV
  rw [List.length_map, ← List.map_drop, ← List.map_take]
  refine ⟨_, rfl, ?_, fun y hy => List.mem_of_mem_drop (List.mem_of_mem_take hy)⟩
  rw [List.length_take, List.length_drop]
  omega

/-! ### dicts -/
theorem r_pnil {R : List (V × V) → Hp → Prop} (h : R [] H) : tPairs [] σ H R := h
theorem r_pcons {R : List (V × V) → Hp → Prop} {tk tv : TE} {r : List (TE × TE)} (h : tk σ H fun x H1 => tv σ H1 fun y H2 => tPairs r σ H2 fun ps H3 => R ((x, y) :: ps) H3) : tPairs ((tk, tv) :: r) σ H R := h
def DG (Q : VK) : V → V → Hp → Prop := fun x y H2 => ∃ a v, x = .ref a ∧ DGet H2 a y (some v) ∧ Q v H2
theorem r_dget {td ty : TE} (h : td σ H fun x H1 => ty σ H1 fun y H2 => DG Q x y H2) : tDGet td ty σ H Q := h
theorem r_DG {a : Addr} (h : DGet H a y (some v)) (q : Q v H) : DG Q (.ref a) y H := ⟨a, v, rfl, h, q⟩
theorem dget_k {a : Addr} {kvs : List (Key × V)} {z : Str} (e : H a = some (.dK kvs)) (q : valV kvs (Sum.inr z) = some v) : DGet H a (.str z) (some v) := by
  have h := DGet.k (k := Sum.inr z) e
  rw [q] at h
  exact h
theorem dget_i {a : Addr} {kvs : List (Key × V)} {z : Int} (e : H a = some (.dK kvs)) (q : valV kvs (Sum.inl z) = some v) : DGet H a (.int z) (some v) := by
  have h := DGet.k (k := Sum.inl z) e
  rw [q] at h
  exact h

/-! ### loops -/
/-- the turns of a walk -/
def Turns (J : It) (g : TG) (tb : TS) (D : Ends) (σ : L2.St) (H1 : Hp) : Prop := ∃ W : Nat → Nat → L2.St → Hp → Prop, (∃ m, W 0 m σ H1) ∧ ∀ i m σ H, W i m σ H →
  (J.stop i H ∧ D.nx σ H) ∨ (J.go i H ∧ ∃ N : L2.St → Hp → Prop, (∀ σ' H', N σ' H' → ∃ m', m' < m ∧ W (i + 1) m' σ' H') ∧ ∀ x H', J.yld i H x H' → g x σ H' fun σ2 H2 => tb { D with nx := N, ct := N, bk := D.nx } σ2 H2)
def ForT (K : PySem.W.Frag) (g : TG) (tb : TS) (D : Ends) (σ : L2.St) : V → Hp → Prop := fun x H1 => ∃ a, x = .ref a ∧ (∃ xs, SqT K H1 a xs) ∧ Turns (Itt K a) g tb D σ H1
def ForL (K : PySem.W.Frag) (g : TG) (tb : TS) (D : Ends) (σ : L2.St) : V → Hp → Prop := fun x H1 => ∃ a, x = .ref a ∧ (∃ xs, SqL K H1 a xs) ∧ Turns (Itl K a) g tb D σ H1
def ForR (g : TG) (tb : TS) (D : Ends) (σ : L2.St) : List V → Hp → Prop := fun vs H1 => ∃ j : Int, vs = [.int j] ∧ -(2 ^ 62) ≤ j ∧ j < 2 ^ 62 ∧ Turns (Itr 0 j.toNat) g tb D σ H1
def ForR2 (g : TG) (tb : TS) (D : Ends) (σ : L2.St) : List V → Hp → Prop := fun vs H1 => ∃ i j : Int, vs = [.int i, .int j] ∧ (-(2 ^ 62) ≤ i ∧ i < 2 ^ 62 ∧ -(2 ^ 62) ≤ j ∧ j < 2 ^ 62) ∧ Turns (Itr i (j - i).toNat) g tb D σ H1
section
variable {K : PySem.W.Frag} {tb : TS}
theorem r_forT (h : te σ H (ForT K g tb D σ)) : tFor (iTup K te) g tb D σ H := h
theorem r_forL (h : te σ H (ForL K g tb D σ)) : tFor (iList K te) g tb D σ H := h
theorem r_forR (h : ts σ H (ForR g tb D σ)) : tFor (iRng1 ts) g tb D σ H := h
theorem r_forR2 (h : ts σ H (ForR2 g tb D σ)) : tFor (iRng2 ts) g tb D σ H := h
theorem r_ForT {a : Addr} {xs : List V} (s : SqT K H a xs) (R : Nat → L2.St → Hp → Prop) (h0 : R 0 σ H) (hl : ∀ i σ H, R i σ H → SqT K H a xs)
    (hs : ∀ (i : Nat) x σ H, xs[i]? = some x → R i σ H → g x σ H fun σ2 H2 => tb { D with nx := R (i + 1), ct := R (i + 1), bk := D.nx } σ2 H2) (hd : ∀ σ H, R xs.length σ H → D.nx σ H) :
    ForT K g tb D σ (.ref a) H := ⟨a, rfl, ⟨xs, s⟩, for_tup R h0 (fun i σ H _ => hl i σ H) hs hd⟩
theorem r_ForL {a : Addr} {xs : List V} (s : SqL K H a xs) (R : Nat → L2.St → Hp → Prop) (h0 : R 0 σ H) (hl : ∀ i σ H, R i σ H → SqL K H a xs)
    (hs : ∀ (i : Nat) x σ H, xs[i]? = some x → R i σ H → g x σ H fun σ2 H2 => tb { D with nx := R (i + 1), ct := R (i + 1), bk := D.nx } σ2 H2) (hd : ∀ σ H, R xs.length σ H → D.nx σ H) :
    ForL K g tb D σ (.ref a) H := ⟨a, rfl, ⟨xs, s⟩, for_list R h0 (fun i σ H _ => hl i σ H) hs hd⟩
theorem r_ForR {n : Int} (R : Nat → L2.St → Hp → Prop) (h1 : -(2 ^ 62) ≤ n) (h2 : n < 2 ^ 62) (h0 : R 0 σ H)
    (hs : ∀ (i : Nat) σ H, i < n.toNat → R i σ H → g (.int (i : Int)) σ H fun σ2 H2 => tb { D with nx := R (i + 1), ct := R (i + 1), bk := D.nx } σ2 H2) (hd : ∀ σ H, R n.toNat σ H → D.nx σ H) :
    ForR g tb D σ [.int n] H := by
  refine ⟨n, rfl, h1, h2, for_range (lo := 0) (n := n.toNat) R h0 (fun i σ H hi p => ?_) hd⟩
  have z := hs i σ H hi p
  rw [← Int.zero_add (i : Int)] at z
  exact z
theorem r_ForR2 {lo hi : Int} (R : Nat → L2.St → Hp → Prop) (h1 : -(2 ^ 62) ≤ lo ∧ lo < 2 ^ 62 ∧ -(2 ^ 62) ≤ hi ∧ hi < 2 ^ 62) (h0 : R 0 σ H)
    (hs : ∀ (i : Nat) σ H, i < (hi - lo).toNat → R i σ H → g (.int (lo + i)) σ H fun σ2 H2 => tb { D with nx := R (i + 1), ct := R (i + 1), bk := D.nx } σ2 H2) (hd : ∀ σ H, R (hi - lo).toNat σ H → D.nx σ H) :
    ForR2 g tb D σ [.int lo, .int hi] H := ⟨lo, hi, rfl, h1, for_range (lo := lo) (n := (hi - lo).toNat) R h0 hs hd⟩
end

/-! ### comprehensions -/
def LcTurns (J : It) (g : TG) (tt : TT) (te : TE) (vs : List Nat) (σ : L2.St) (Q : VK) (H1 : Hp) : Prop := ∀ D, H1 D = none → ∃ W : Nat → Nat → Hp → Prop, (∃ m, W 0 m (upd H1 D (.lst []))) ∧ ∀ i m H, W i m H →
  (J.stop i H ∧ Q (.ref D) H) ∨ (J.go i H ∧ ∃ Nx : Hp → Prop, (∀ H', Nx H' → ∃ m', m' < m ∧ W (i + 1) m' H') ∧ ∀ x H', J.yld i H x H' → g x (wipe σ vs) H' fun σ2 H2 => wipe σ2 vs = wipe σ vs ∧ tt σ2 H2 fun b H3 =>
    if b = true then te σ2 H3 fun y H4 => ∃ acc, H4 D = some (.lst acc) ∧ acc.length < sizeLine ∧ Nx (upd H4 D (.lst (acc ++ [y]))) else Nx H3)
def LcT (K : PySem.W.Frag) (g : TG) (tt : TT) (te : TE) (vs : List Nat) (σ : L2.St) (Q : VK) : V → Hp → Prop := fun x H1 => ∃ a, x = .ref a ∧ (∃ xs, SqT K H1 a xs) ∧ LcTurns (Itt K a) g tt te vs σ Q H1
def LcL (K : PySem.W.Frag) (g : TG) (tt : TT) (te : TE) (vs : List Nat) (σ : L2.St) (Q : VK) : V → Hp → Prop := fun x H1 => ∃ a, x = .ref a ∧ (∃ xs, SqL K H1 a xs) ∧ LcTurns (Itl K a) g tt te vs σ Q H1
def LcR (g : TG) (tt : TT) (te : TE) (vs : List Nat) (σ : L2.St) (Q : VK) : List V → Hp → Prop := fun us H1 => ∃ j : Int, us = [.int j] ∧ -(2 ^ 62) ≤ j ∧ j < 2 ^ 62 ∧ LcTurns (Itr 0 j.toNat) g tt te vs σ Q H1
section
variable {K : PySem.W.Frag} {tt : TT} {vs : List Nat} {ti : TE}
theorem r_lcT (h : ti σ H (LcT K g tt te vs σ Q)) : tLc (iTup K ti) g tt te vs σ H Q := h
theorem r_lcL (h : ti σ H (LcL K g tt te vs σ Q)) : tLc (iList K ti) g tt te vs σ H Q := h
theorem r_lcR (h : ts σ H (LcR g tt te vs σ Q)) : tLc (iRng1 ts) g tt te vs σ H Q := h
/-- the end of a turn of a comprehension: the element y is taken -/
def LcEnd (D : Addr) (N : Hp → Prop) : VK := fun y H4 => ∃ acc, H4 D = some (.lst acc) ∧ acc.length < sizeLine ∧ N (upd H4 D (.lst (acc ++ [y])))
theorem r_LcEnd {D : Addr} {N : Hp → Prop} {acc : List V} (h : H D = some (.lst acc)) (l : acc.length < sizeLine) (q : N (upd H D (.lst (acc ++ [y])))) : LcEnd D N y H := ⟨acc, h, l, q⟩
def LcTurn (tt : TT) (te : TE) (vs : List Nat) (σ : L2.St) (D : Addr) (N : Hp → Prop) : L2.St → Hp → Prop := fun σ2 H2 => wipe σ2 vs = wipe σ vs ∧ tt σ2 H2 fun b H3 => if b = true then te σ2 H3 (LcEnd D N) else N H3
theorem r_LcL {a : Addr} {xs : List V} (s : SqL K H a xs) (h : ∀ p, H p = none → ∃ R : Nat → Hp → Prop, R 0 (upd H p (.lst [])) ∧ (∀ i H, R i H → SqL K H a xs) ∧
    (∀ (i : Nat) x H, xs[i]? = some x → R i H → g x (wipe σ vs) H (LcTurn tt te vs σ p (R (i + 1)))) ∧ ∀ H, R xs.length H → Q (.ref p) H) : LcL K g tt te vs σ Q (.ref a) H := by
  refine ⟨a, rfl, ⟨xs, s⟩, fun p hp => ?_⟩
  obtain ⟨R, h0, hl, hs, hd⟩ := h p hp
  exact lc_list R h0 (fun i H _ => hl i H) hs hd
theorem r_LcT {a : Addr} {xs : List V} (s : SqT K H a xs) (h : ∀ p, H p = none → ∃ R : Nat → Hp → Prop, R 0 (upd H p (.lst [])) ∧ (∀ i H, R i H → SqT K H a xs) ∧
    (∀ (i : Nat) x H, xs[i]? = some x → R i H → g x (wipe σ vs) H (LcTurn tt te vs σ p (R (i + 1)))) ∧ ∀ H, R xs.length H → Q (.ref p) H) : LcT K g tt te vs σ Q (.ref a) H := by
  refine ⟨a, rfl, ⟨xs, s⟩, fun p hp => ?_⟩
  obtain ⟨R, h0, hl, hs, hd⟩ := h p hp
  exact lc_tup R h0 (fun i H _ => hl i H) hs hd
theorem r_LcR {n : Int} (h1 : -(2 ^ 62) ≤ n) (h2 : n < 2 ^ 62) (h : ∀ p, H p = none → ∃ R : Nat → Hp → Prop, R 0 (upd H p (.lst [])) ∧
    (∀ (i : Nat) H, i < n.toNat → R i H → g (.int (i : Int)) (wipe σ vs) H (LcTurn tt te vs σ p (R (i + 1)))) ∧ ∀ H, R n.toNat H → Q (.ref p) H) : LcR g tt te vs σ Q [.int n] H := by
  refine ⟨n, rfl, h1, h2, fun p hp => ?_⟩
  obtain ⟨R, h0, hs, hd⟩ := h p hp
  refine lc_range (lo := 0) (n := n.toNat) R h0 (fun i H hi q => ?_) hd
  have z := hs i H hi q
  rw [← Int.zero_add (i : Int)] at z
  exact z
theorem r_LcTurn {D : Addr} {N : Hp → Prop} {σ2 : L2.St} (e : wipe σ2 vs = wipe σ vs) (h : tt σ2 H fun b H3 => if b = true then te σ2 H3 (LcEnd D N) else N H3) : LcTurn tt te vs σ D N σ2 H := ⟨e, h⟩
theorem r_yes {R : Bool → Hp → Prop} (h : R true H) : tYes σ H R := h
end

/-! ### in -/
theorem r_in {K : PySem.W.Frag} {a : Addr} {xs : List V} (h : SqL K H a xs ∨ SqT K H a xs) (f1 : flatV x = true) (f2 : xs.all flatV = true) (q : Q (.bl (inV x xs)) H) : rIn K false x (.ref a) H Q :=
  ⟨a, xs, rfl, h, f1, f2, by rw [if_neg Bool.false_ne_true]; exact q⟩
theorem r_inT {K : PySem.W.Frag} {a : Addr} {xs : List V} (h : SqL K H a xs ∨ SqT K H a xs) (f1 : flatV x = true) (f2 : xs.all flatV = true) (e : inV x xs = true) (q : Q (.bl true) H) : rIn K false x (.ref a) H Q :=
  ⟨a, xs, rfl, h, f1, f2, by rw [if_neg Bool.false_ne_true, e]; exact q⟩
theorem r_inF {K : PySem.W.Frag} {a : Addr} {xs : List V} (h : SqL K H a xs ∨ SqT K H a xs) (f1 : flatV x = true) (f2 : xs.all flatV = true) (e : inV x xs = false) (q : Q (.bl false) H) : rIn K false x (.ref a) H Q :=
  ⟨a, xs, rfl, h, f1, f2, by rw [if_neg Bool.false_ne_true, e]; exact q⟩
theorem kpW {a : Addr} {xs : List V} {o : HO} (h : H a = some (.lst xs)) : Kp [a] H (upd H a o) :=
  (Kp.refl (M := [a]) fun b m => ⟨xs, by rw [List.mem_singleton.mp m]; exact h⟩).write (by simp)
end

/-! ### calls by name of what they ask -/
section
variable {X : Cx} {H : Hp} {Q : VK}
def qAbs : List V → Hp → VK → Prop := fun xs H Q => ∃ i, xs = [.int i] ∧ Q (.int (if i < 0 then -i else i)) H
theorem c_abs : CallR X (.builtin "abs") qAbs := call_abs
theorem r_abs {i : Int} (h : Q (.int (if i < 0 then -i else i)) H) : qAbs [.int i] H Q := ⟨i, rfl, h⟩
def qInt : List V → Hp → VK → Prop := fun xs H Q => (∃ i, xs = [.int i] ∧ Q (.int i) H) ∨ ∃ k, xs = [.bl k] ∧ Q (.int (if k then 1 else 0)) H
theorem c_int : CallR X (.type "int") qInt := call_int1
theorem r_int {i : Int} (h : Q (.int i) H) : qInt [.int i] H Q := .inl ⟨i, rfl, h⟩
theorem r_intB {b : Bool} (h : Q (.int (if b then 1 else 0)) H) : qInt [.bl b] H Q := .inr ⟨b, rfl, h⟩
def qLen (K : PySem.W.Frag) : List V → Hp → VK → Prop := fun xs H Q => ∃ x n, xs = [x] ∧ LenV K x H n ∧ Q (.int n) H
theorem c_len : CallR X (.builtin "len") (qLen X.K) := call_len
theorem r_lenL {K : PySem.W.Frag} {a : Addr} {xs : List V} (h : SqL K H a xs) (q : Q (.int (xs.length : Nat)) H) : qLen K [.ref a] H Q := ⟨_, _, rfl, .inl ⟨_, h, rfl⟩, q⟩
theorem r_lenT {K : PySem.W.Frag} {a : Addr} {xs : List V} (h : SqT K H a xs) (q : Q (.int (xs.length : Nat)) H) : qLen K [.ref a] H Q := ⟨_, _, rfl, .inr ⟨_, h, rfl⟩, q⟩
theorem r_lenS {K : PySem.W.Frag} {z : Str} (q : Q (.int (z.length : Nat)) H) (h : z.length ≤ sizeLine) : qLen K [.str z] H Q := ⟨_, _, rfl, ⟨h, rfl⟩, q⟩
def qStr : List V → Hp → VK → Prop := fun xs H Q => (∃ i, xs = [.int i] ∧ i.natAbs.log2 < 1920 ∧ Q (.str (toString i)) H) ∨ ∃ a, xs = [.str a] ∧ Q (.str a) H
theorem c_str : CallR X (.type "str") qStr := call_str_int.or SkE.call_str_str
theorem r_strI {i : Int} (h : Q (.str (toString i)) H) (l : i.natAbs.log2 < 1920) : qStr [.int i] H Q := .inl ⟨i, rfl, l, h⟩
theorem r_strS {z : Str} (h : Q (.str z) H) : qStr [.str z] H Q := .inr ⟨z, rfl, h⟩
def qTup (K : PySem.W.Frag) : List V → Hp → VK → Prop := fun xs H Q => ∃ p ys, xs = [.ref p] ∧ ((SqL K H p ys ∧ ∀ l, H l = none → Q (.ref l) (upd H l (.tup ys))) ∨ (SqT K H p ys ∧ Q (.ref p) H))
theorem c_tup : CallR X (.type "tuple") (qTup X.K) := call_tuple_of
theorem r_tupL {K : PySem.W.Frag} {a : Addr} {xs : List V} (s : SqL K H a xs) (h : ∀ l, H l = none → Q (.ref l) (upd H l (.tup xs))) : qTup K [.ref a] H Q := ⟨a, xs, rfl, .inl ⟨s, h⟩⟩
theorem r_tupT {K : PySem.W.Frag} {a : Addr} {xs : List V} (s : SqT K H a xs) (h : Q (.ref a) H) : qTup K [.ref a] H Q := ⟨a, xs, rfl, .inr ⟨s, h⟩⟩
def qLst (K : PySem.W.Frag) : List V → Hp → VK → Prop := fun xs H Q => ∃ p ys, xs = [.ref p] ∧ (SqL K H p ys ∨ SqT K H p ys) ∧ ∀ l, H l = none → Q (.ref l) (upd H l (.lst ys))
theorem c_lst : CallR X (.type "list") (qLst X.K) := call_list_of
theorem r_lstL {K : PySem.W.Frag} {a : Addr} {xs : List V} (s : SqL K H a xs) (h : ∀ l, H l = none → Q (.ref l) (upd H l (.lst xs))) : qLst K [.ref a] H Q := ⟨a, xs, rfl, .inl s, h⟩
theorem r_lstT {K : PySem.W.Frag} {a : Addr} {xs : List V} (s : SqT K H a xs) (h : ∀ l, H l = none → Q (.ref l) (upd H l (.lst xs))) : qLst K [.ref a] H Q := ⟨a, xs, rfl, .inr s, h⟩
def qRepr (K : PySem.W.Frag) : List V → Hp → VK → Prop := fun xs H Q => ∃ a d, xs = [.ref a] ∧
    Dp K H (.ref a) d ∧ d.showable = true ∧ d.hasDict = false ∧ d.depth ≤ 100 ∧ d.shown.length ≤ sizeLine ∧ Q (.str d.shown) H
theorem c_repr {k : Nat} (hr : RoomG k X.A) : CallR X (.builtin "repr") (qRepr X.K) := call_reprD hr
end

/-! ### names of the top -/
section
variable {X : Cx} {x : Str} {pos : Pos}
theorem pe_ty {T : String} (hg : Gl X x) (hm : X.mg x = none) (hv : bootBuiltins x = some (.type T)) (hn : x ≠ "__name__" := by decide) (hd : (x == ("__debug__" : Str)) = false := by decide) : PE X (.Name x pos) (tC (.ty T)) := pe_bltn hg hm hv rfl hn hd
theorem pe_gref {a : Addr} (hg : Gl X x) (hm : X.mg x = some (.ref a)) (hd : (x == ("__debug__" : Str)) = false := by decide) : PE X (.Name x pos) (tC (.ref a)) := pe_glob hg hm rfl hd
theorem pe_gint {i : Int} {t : Tok} (hg : Gl X x) (hm : X.mg x = some (.int i t)) (hd : (x == ("__debug__" : Str)) = false := by decide) : PE X (.Name x pos) (tC (.int i)) := pe_glob hg hm ⟨t, rfl⟩ hd
theorem pe_gstr {z : Str} {t : Tok} (hg : Gl X x) (hm : X.mg x = some (.str z t)) (hd : (x == ("__debug__" : Str)) = false := by decide) : PE X (.Name x pos) (tC (.str z)) := pe_glob hg hm ⟨t, rfl⟩ hd
end

/-! ### isinstance of data -/
def tyD : PyData → String
  | .none => "NoneType"
  | .bool _ => "bool"
  | .int _ => "int"
  | .str _ => "str"
  | .list _ => "list"
  | .tuple _ => "tuple"
  | .dict _ => "dict"
def isaD (d : PyData) (n : String) : Bool := tyD d == n || (tyD d == "bool" && n == "int")
def qIs (K : PySem.W.Frag) : List V → Hp → VK → Prop := fun xs H Q => ∃ (x : V) (d : PyData) (n : String), xs = [x, .ty n] ∧ Dp K H x d ∧
  n ∈ ["int", "bool", "str", "tuple", "list", "dict"] ∧ Q (.bl (isaD d n)) H
theorem tyX_L {K : PySem.W.Frag} {H : Hp} {a : Addr} {xs : List V} (h : SqL K H a xs) : TyX K H (.ref a) (.type "list") := by
  rcases h with (h | ⟨o, h⟩) | ⟨o, its, n, h, c, _⟩
  · exact .base (.lst h)
  · exact .base (.frz h)
  · exact .kList h c
theorem tyX_T {K : PySem.W.Frag} {H : Hp} {a : Addr} {xs : List V} (h : SqT K H a xs) : TyX K H (.ref a) (.type "tuple") := by
  rcases h with (h | ⟨o, h⟩) | ⟨o, its, n, h, c, _⟩
  · exact .base (.tup h)
  · exact .fTuple h
  · exact .kTuple h c
section
variable {X : Cx} {H : Hp} {Q : VK}
def types : List String := ["int", "bool", "str", "tuple", "list", "dict"]
theorem kitAll : ∀ t ∈ "NoneType" :: types, ∀ n ∈ types, kitB t n = some (t == n || (t == "bool" && n == "int")) := by decide +kernel
theorem kitD (K : PySem.W.Frag) (d : PyData) (n : String) (h : n ∈ types) : PySem.W.kitOne K (.type (tyD d)) (.type n) = some (isaD d n) := by
  refine kit_ty (kitAll _ ?_ n h)
  cases d <;> simp [tyD, types]
theorem tyX_D {K : PySem.W.Frag} {x : V} {d : PyData} (h : Dp K H x d) : TyX K H x (.type (tyD d)) := by
  cases h with
  | non => exact .base .non
  | bl b => exact .base (.bl b)
  | int i => exact .base (.int i)
  | str z => exact .base (.str z)
  | lst s _ => exact tyX_L s
  | tup s _ => exact tyX_T s
theorem c_is : CallR X (.builtin "isinstance") (qIs X.K) := by
  intro pins s σ H xs us Q I r h
  obtain ⟨x, d, n, rfl, hd, hn, q⟩ := h
  exact call_isi pins s σ H _ us Q I r ⟨x, _, _, _, _, rfl, .ty n, tyX_D hd, kitD X.K d n hn, q⟩
theorem r_isT {K : PySem.W.Frag} {x : V} {d : PyData} {n : String} (h : Dp K H x d) (e : isaD d n = true) (hn : n ∈ types) (q : Q (.bl true) H) : qIs K [x, .ty n] H Q := ⟨x, d, n, rfl, h, hn, by rw [e]; exact q⟩
theorem r_isF {K : PySem.W.Frag} {x : V} {d : PyData} {n : String} (h : Dp K H x d) (e : isaD d n = false) (hn : n ∈ types) (q : Q (.bl false) H) : qIs K [x, .ty n] H Q := ⟨x, d, n, rfl, h, hn, by rw [e]; exact q⟩
end
end Aw

/-! texts with a bound; data that may be shown -/
namespace Aw
open PySem PySem.Spec L2

/-- a text of at most n signs -/
structure Sok (x : Str) (n : Nat) : Prop where
  ok : PyData.strOk x = true
  len : x.length ≤ n
theorem Sok.app {x y : Str} {m n : Nat} (a : Sok x m) (b : Sok y n) : Sok (x ++ y) (m + n) := by
  refine ⟨?_, ?_⟩
  · have h1 := a.ok
    have h2 := b.ok
    unfold PyData.strOk at *
    rw [Str.cps_append, Array.all_append, h1, h2]
    rfl
  · rw [Str.length_append]
    have := a.len
    have := b.len
    omega
theorem Sok.mono {x : Str} {m n : Nat} (a : Sok x m) (h : m ≤ n) : Sok x n := ⟨a.ok, Nat.le_trans a.len h⟩
theorem Sok.line {x : Str} {m : Nat} (a : Sok x m) (h : m ≤ 16777216) : x.length ≤ sizeLine := by
  rw [sizeLine_eq]
  exact Nat.le_trans a.len h
theorem Sok.lit {x : Str} {n : Nat} (h : (PyData.strOk x && decide (x.length ≤ n)) = true) : Sok x n := by
  rw [Bool.and_eq_true, decide_eq_true_eq] at h
  exact ⟨h.1, h.2⟩
theorem Sok.repr {x : Str} {n : Nat} (a : Sok x n) : (reprText x).length ≤ 10 * n + 2 := by
  have h := PySem.StrLaws.reprText_len x (fun c hc => by
    have q := a.ok
    unfold PyData.strOk at q
    rw [Array.all_eq_true_iff_forall_mem] at q
    have := of_decide_eq_true (q c (Array.mem_def.mpr hc))
    omega)
  have := a.len
  omega
/-- small ints as texts -/
theorem Sok.num : ∀ i : Int, -99 ≤ i → i ≤ 99 → Sok (Str.ofString (toString i)) 3 := by
  have h : ∀ n : Fin 199, (PyData.strOk (Str.ofString (toString ((n.val : Int) - 99))) && decide ((Str.ofString (toString ((n.val : Int) - 99))).length ≤ 3)) = true := by
    decide +kernel
  intro i h1 h2
  have q := h ⟨(i + 99).toNat, by omega⟩
  have e : (((i + 99).toNat : Nat) : Int) - 99 = i := by omega
  simp only [e] at q
  exact Sok.lit q

theorem log2_small {i : Int} (h1 : -(2 ^ 64) < i) (h2 : i < 2 ^ 64) : i.natAbs.log2 < 1920 := by
  by_cases h : i.natAbs = 0
  · rw [h]
    decide
  · exact Nat.lt_of_lt_of_le ((Nat.log2_lt h).mpr (show i.natAbs < 2 ^ 64 by omega)) (by decide)
/-! ### data that is shown -/
structure Shw (d : PyData) (k n : Nat) : Prop where
  sh : d.showable = true
  nd : d.hasDict = false
  dep : d.depth ≤ k
  len : d.shown.length ≤ n
theorem Shw.mono {d : PyData} {k n k' n' : Nat} (h : Shw d k n) (hk : k ≤ k') (hn : n ≤ n') : Shw d k' n' := ⟨h.sh, h.nd, Nat.le_trans h.dep hk, Nat.le_trans h.len hn⟩
theorem Shw.str {x : Str} {m k : Nat} (h : Sok x m) : Shw (.str x) k (10 * m + 2) :=
  ⟨by rw [PyData.showable], by rw [PyData.hasDict], by rw [PyData.depth]; exact Nat.zero_le _, by rw [PyData.shown]; exact h.repr⟩
theorem Shw.non {k : Nat} : Shw .none k 4 :=
  ⟨by rw [PyData.showable], by rw [PyData.hasDict], by rw [PyData.depth]; exact Nat.zero_le _, by rw [PyData.shown]; decide +kernel⟩
theorem Shw.bool {b : Bool} {k : Nat} : Shw (.bool b) k 5 :=
  ⟨by rw [PyData.showable], by rw [PyData.hasDict], by rw [PyData.depth]; exact Nat.zero_le _, by rw [PyData.shown]; cases b <;> decide +kernel⟩
theorem shownAll_len {ds : List PyData} {k n : Nat} (h : ∀ d ∈ ds, Shw d k n) : PyData.showableAll ds = true ∧ PyData.hasDictAll ds = false ∧ PyData.depthAll ds ≤ k ∧ (PyData.shownAll ds).length = ds.length ∧
    ((PyData.shownAll ds).map (·.length)).sum ≤ ds.length * n := by
  induction ds with
  | nil => exact ⟨by rw [PyData.showableAll], by rw [PyData.hasDictAll], by rw [PyData.depthAll]; exact Nat.zero_le _, by rw [PyData.shownAll]; rfl, by rw [PyData.shownAll]; exact Nat.zero_le _⟩
  | cons d r ih =>
    obtain ⟨a1, a2, a3, a4, a5⟩ := ih fun d hd => h d (List.mem_cons_of_mem _ hd)
    have q := h d (List.mem_cons_self ..)
    refine ⟨by rw [PyData.showableAll, q.sh, a1]; rfl, by rw [PyData.hasDictAll, q.nd, a2]; rfl, by rw [PyData.depthAll]; exact Nat.max_le.mpr ⟨q.dep, a3⟩, by rw [PyData.shownAll, List.length_cons, List.length_cons, a4], ?_⟩
    have := q.len
    rw [PyData.shownAll, List.map_cons, List.sum_cons, List.length_cons, Nat.add_mul, Nat.one_mul]
    omega
theorem Shw.list {ds : List PyData} {k n : Nat} (h : ∀ d ∈ ds, Shw d k n) : Shw (.list ds) (k + 1) (ds.length * (n + 2) + 3) := by
  obtain ⟨a1, a2, a3, a4, a5⟩ := shownAll_len h
  refine ⟨by rw [PyData.showable]; exact a1, by rw [PyData.hasDict]; exact a2, by rw [PyData.depth]; omega, ?_⟩
  rw [PyData.shown]
  have q := listText_len_le (PyData.shownAll ds)
  rw [a4] at q
  rw [Nat.mul_add]
  omega
theorem Shw.tup {ds : List PyData} {k n : Nat} (h : ∀ d ∈ ds, Shw d k n) : Shw (.tuple ds) (k + 1) (ds.length * (n + 2) + 3) := by
  obtain ⟨a1, a2, a3, a4, a5⟩ := shownAll_len h
  refine ⟨by rw [PyData.showable]; exact a1, by rw [PyData.hasDict]; exact a2, by rw [PyData.depth]; omega, ?_⟩
  rw [PyData.shown]
  have q := tupleText_len_le (PyData.shownAll ds)
  rw [a4] at q
  rw [Nat.mul_add]
  omega
theorem r_repr {K : PySem.W.Frag} {H : Hp} {Q : VK} {a : Addr} {d : PyData} {k n : Nat} (h : Dp K H (.ref a) d) (s : Shw d k n) (hk : k ≤ 100) (hn : n ≤ 16777216) (q : Q (.str d.shown) H) : qRepr K [.ref a] H Q :=
  ⟨a, d, rfl, h, s.sh, s.nd, Nat.le_trans s.dep hk, by rw [sizeLine_eq]; exact Nat.le_trans s.len hn, q⟩

/-! ### rows of data -/
structure DtL (K : PySem.W.Frag) (H : Hp) (vs : List V) (ds : List PyData) : Prop where
  len : vs.length = ds.length
  all : ∀ (i : Nat) (v : V) (d : PyData), vs[i]? = some v → ds[i]? = some d → Dt K H v d
theorem DtL.nil {K : PySem.W.Frag} {H : Hp} : DtL K H [] [] := ⟨rfl, fun i v d e => by simp at e⟩
theorem DtL.kp {K : PySem.W.Frag} {M : List Addr} {H H1 : Hp} {vs : List V} {ds : List PyData} (h : DtL K H vs ds) (a : Kp M H H1) : DtL K H1 vs ds := ⟨h.len, fun i v d e e' => (h.all i v d e e').kp a⟩
theorem DtL.snoc {K : PySem.W.Frag} {H : Hp} {vs : List V} {ds : List PyData} {v : V} {d : PyData} (h : DtL K H vs ds) (hv : Dt K H v d) : DtL K H (vs ++ [v]) (ds ++ [d]) := by
  refine ⟨by rw [List.length_append, List.length_append, h.len]; rfl, fun i u e q q' => ?_⟩
  by_cases hi : i < vs.length
  · rw [List.getElem?_append_left hi] at q
    rw [List.getElem?_append_left (by rw [← h.len]; exact hi)] at q'
    exact h.all i u e q q'
  · rw [List.getElem?_append_right (by omega)] at q
    rw [List.getElem?_append_right (by rw [← h.len]; omega), ← h.len] at q'
    have hlt := (List.getElem?_eq_some_iff.mp q).1
    rw [List.length_singleton] at hlt
    obtain h0 : i - vs.length = 0 := by omega
    rw [h0] at q q'
    cases q
    cases q'
    exact hv
theorem DtL.cons {K : PySem.W.Frag} {H : Hp} {vs : List V} {ds : List PyData} {v : V} {d : PyData} (hv : Dt K H v d) (h : DtL K H vs ds) : DtL K H (v :: vs) (d :: ds) := by
  refine ⟨by rw [List.length_cons, List.length_cons, h.len], fun i u e q q' => ?_⟩
  cases i with
  | zero =>
    cases q
    cases q'
    exact hv
  | succ i => exact h.all i u e (by simpa using q) (by simpa using q')
theorem DtL.tup {K : PySem.W.Frag} {H : Hp} {vs : List V} {ds : List PyData} {a : Addr} (h : DtL K H vs ds) (e : H a = some (.tup vs)) : Dt K H (.ref a) (.tuple ds) := .tup (SqT.of e) h.len h.all

/-! ### data taken apart and put together -/
section
variable {K : PySem.W.Frag} {H : Hp} {v : V}
theorem Dt.isInt {i : Int} (h : Dt K H v (.int i)) : v = .int i := by cases h; rfl
theorem Dt.isStr {x : Str} (h : Dt K H v (.str x)) : v = .str x := by cases h; rfl
theorem Dt.isNone (h : Dt K H v .none) : v = .non := by cases h; rfl
theorem Dt.isTup {ds : List PyData} (h : Dt K H v (.tuple ds)) : ∃ (a : Addr) (xs : List V), v = .ref a ∧ SqT K H a xs ∧ xs.length = ds.length ∧
    ∀ (i : Nat) (v : V) (d : PyData), xs[i]? = some v → ds[i]? = some d → Dt K H v d := by
  cases h with
  | tup s l q => exact ⟨_, _, rfl, s, l, q⟩
theorem Dt.is0 (h : Dt K H v (.tuple [])) : ∃ a : Addr, v = .ref a ∧ SqT K H a [] := by
  obtain ⟨a, xs, rfl, s, l, q⟩ := h.isTup
  obtain rfl : xs = [] := List.length_eq_zero_iff.mp l
  exact ⟨a, rfl, s⟩
theorem Dt.is1 {d : PyData} (h : Dt K H v (.tuple [d])) : ∃ (a : Addr) (x : V), v = .ref a ∧ SqT K H a [x] ∧ Dt K H x d := by
  obtain ⟨a, xs, rfl, s, l, q⟩ := h.isTup
  match xs, l, s, q with
  | [x], _, s, q => exact ⟨a, x, rfl, s, q 0 x d rfl rfl⟩
theorem Dt.is2 {d e : PyData} (h : Dt K H v (.tuple [d, e])) : ∃ (a : Addr) (x y : V), v = .ref a ∧ SqT K H a [x, y] ∧ Dt K H x d ∧ Dt K H y e := by
  obtain ⟨a, xs, rfl, s, l, q⟩ := h.isTup
  match xs, l, s, q with
  | [x, y], _, s, q => exact ⟨a, x, y, rfl, s, q 0 x d rfl rfl, q 1 y e rfl rfl⟩
theorem Dt.is3 {d e f : PyData} (h : Dt K H v (.tuple [d, e, f])) : ∃ (a : Addr) (x y z : V), v = .ref a ∧ SqT K H a [x, y, z] ∧ Dt K H x d ∧ Dt K H y e ∧ Dt K H z f := by
  obtain ⟨a, xs, rfl, s, l, q⟩ := h.isTup
  match xs, l, s, q with
  | [x, y, z], _, s, q => exact ⟨a, x, y, z, rfl, s, q 0 x d rfl rfl, q 1 y e rfl rfl, q 2 z f rfl rfl⟩
theorem Dt.is4 {d e f g : PyData} (h : Dt K H v (.tuple [d, e, f, g])) : ∃ (a : Addr) (x y z u : V), v = .ref a ∧ SqT K H a [x, y, z, u] ∧ Dt K H x d ∧ Dt K H y e ∧ Dt K H z f ∧ Dt K H u g := by
  obtain ⟨a, xs, rfl, s, l, q⟩ := h.isTup
  match xs, l, s, q with
  | [x, y, z, u], _, s, q => exact ⟨a, x, y, z, u, rfl, s, q 0 x d rfl rfl, q 1 y e rfl rfl, q 2 z f rfl rfl, q 3 u g rfl rfl⟩
theorem Dt.mk0 {a : Addr} (h : H a = some (.tup [])) : Dt K H (.ref a) (.tuple []) := .tup (SqT.of h) rfl fun i v d e => by simp at e
theorem Dt.mk1 {a : Addr} {x : V} {d : PyData} (h : H a = some (.tup [x])) (h0 : Dt K H x d) : Dt K H (.ref a) (.tuple [d]) :=
  .tup (SqT.of h) rfl fun i v d' e e' => by
    match i, e, e' with
    | 0, e, e' => cases e; cases e'; exact h0
theorem Dt.mk2 {a : Addr} {x y : V} {d e : PyData} (h : H a = some (.tup [x, y])) (h0 : Dt K H x d) (h1 : Dt K H y e) : Dt K H (.ref a) (.tuple [d, e]) :=
  .tup (SqT.of h) rfl fun i v d' e e' => by
    match i, e, e' with
    | 0, e, e' => cases e; cases e'; exact h0
    | 1, e, e' => cases e; cases e'; exact h1
theorem Dt.mk3 {a : Addr} {x y z : V} {d e f : PyData} (h : H a = some (.tup [x, y, z])) (h0 : Dt K H x d) (h1 : Dt K H y e) (h2 : Dt K H z f) : Dt K H (.ref a) (.tuple [d, e, f]) :=
  .tup (SqT.of h) rfl fun i v d' e e' => by
    match i, e, e' with
    | 0, e, e' => cases e; cases e'; exact h0
    | 1, e, e' => cases e; cases e'; exact h1
    | 2, e, e' => cases e; cases e'; exact h2
theorem Dt.mk4 {a : Addr} {x y z u : V} {d e f g : PyData} (h : H a = some (.tup [x, y, z, u])) (h0 : Dt K H x d) (h1 : Dt K H y e) (h2 : Dt K H z f) (h3 : Dt K H u g) : Dt K H (.ref a) (.tuple [d, e, f, g]) :=
  .tup (SqT.of h) rfl fun i v d' e e' => by
    match i, e, e' with
    | 0, e, e' => cases e; cases e'; exact h0
    | 1, e, e' => cases e; cases e'; exact h1
    | 2, e, e' => cases e; cases e'; exact h2
    | 3, e, e' => cases e; cases e'; exact h3
end
end Aw

/-! comparing with an empty row; data with lists and dicts; signs of texts -/
namespace Aw
open PySem PySem.Spec L2

/-! ### rows compared with an empty one -/
def rNil (K : PySem.W.Frag) (neg : Bool) : R2 := fun x y H Q => ∃ (a b : Addr) (xs : List V), x = .ref a ∧ y = .ref b ∧
  ((SqL K H a xs ∧ SqL K H b []) ∨ (SqT K H a xs ∧ SqT K H b [])) ∧ Q (.bl (xs.isEmpty != neg)) H
section
variable {X : Cx} {H : Hp} {Q : VK}
theorem vals_nil {us : List Value} (r : Vals [] us) : us = [] := by cases r; rfl
theorem op_eqNil (hu : X.A.units + 64 < cLine) : OpR X (compareOp .Eq) (rNil X.K false) := by
  intro pins s σ H x y v u Q I rx ry h
  obtain ⟨a, b, xs, rfl, rfl, h, q⟩ := h
  cases (show v = Value.ref a from rx)
  cases (show u = Value.ref b from ry)
  have hu' : X.A.units < cLine := by omega
  rcases h with ⟨ha, hb⟩ | ⟨ha, hb⟩
  · obtain ⟨its, r, ⟨o, n, e, c, _, d⟩, _⟩ := I.list ha
    obtain ⟨its2, r2, ⟨o2, n2, e2, c2, _, d2⟩, _⟩ := I.list hb
    obtain rfl := vals_nil r2
    have hl : s.heap.IsList a its.toArray := ⟨o, e, c, n, d⟩
    have hl2 : s.heap.IsList b #[] := ⟨o2, e2, c2, n2, d2⟩
    cases xs with
    | nil =>
      obtain rfl := vals_nil r
      exact PySem.SeqAt.eq_listAt (e := fun _ => true) hl hl2 rfl hu' (fun j h1 => absurd h1 (by simp)) ⟨.bl true, H, I, rfl, q⟩
    | cons x xs =>
      cases r with
      | cons r0 r1 => exact PySem.SeqAt.eq_list_lengthsAt hl hl2 (by simp) hu' ⟨.bl false, H, I, rfl, q⟩
  · obtain ⟨its, r, ⟨o, e, c, n, d⟩, _⟩ := I.tuple ha
    obtain ⟨its2, r2, ⟨o2, e2, c2, n2, d2⟩, _⟩ := I.tuple hb
    obtain rfl := vals_nil r2
    have hl : s.heap.IsTuple a its.toArray := ⟨o, e, c, n, d⟩
    have hl2 : s.heap.IsTuple b #[] := ⟨o2, e2, c2, n2, d2⟩
    refine PySem.SeqAt.eq_tupleAt (e := fun _ => true) hl hl2 hu' (fun j h1 h2 => absurd h2 (by simp)) ?_
    cases xs with
    | nil =>
      obtain rfl := vals_nil r
      exact ⟨.bl true, H, I, rfl, q⟩
    | cons x xs =>
      cases r with
      | cons r0 r1 => exact ⟨.bl false, H, I, rfl, q⟩
theorem op_neNil (hu : X.A.units + 64 < cLine) : OpR X (compareOp .NotEq) (rNil X.K true) := by
  intro pins s σ H x y v u Q I rx ry h
  obtain ⟨a, b, xs, rfl, rfl, h, q⟩ := h
  cases (show v = Value.ref a from rx)
  cases (show u = Value.ref b from ry)
  have hu' : X.A.units < cLine := by omega
  rcases h with ⟨ha, hb⟩ | ⟨ha, hb⟩
  · obtain ⟨its, r, ⟨o, n, e, c, _, d⟩, _⟩ := I.list ha
    obtain ⟨its2, r2, ⟨o2, n2, e2, c2, _, d2⟩, _⟩ := I.list hb
    obtain rfl := vals_nil r2
    have hl : s.heap.IsList a its.toArray := ⟨o, e, c, n, d⟩
    have hl2 : s.heap.IsList b #[] := ⟨o2, e2, c2, n2, d2⟩
    cases xs with
    | nil =>
      obtain rfl := vals_nil r
      exact PySem.SeqAt.RcNeAt.lists (e := fun _ => true) hl hl2 rfl hu' (fun j h1 => absurd h1 (by simp)) _ _ _ _ ⟨.bl false, H, I, rfl, q⟩
    | cons x xs =>
      cases r with
      | cons r0 r1 => exact PySem.SeqAt.RcNeAt.lists_lengths hl hl2 (by simp) hu' _ _ _ _ ⟨.bl true, H, I, rfl, q⟩
  · obtain ⟨its, r, ⟨o, e, c, n, d⟩, _⟩ := I.tuple ha
    obtain ⟨its2, r2, ⟨o2, e2, c2, n2, d2⟩, _⟩ := I.tuple hb
    obtain rfl := vals_nil r2
    have hl : s.heap.IsTuple a its.toArray := ⟨o, e, c, n, d⟩
    have hl2 : s.heap.IsTuple b #[] := ⟨o2, e2, c2, n2, d2⟩
    refine PySem.SeqAt.RcNeAt.tuples (e := fun _ => true) hl hl2 hu' (fun j h1 h2 => absurd h2 (by simp)) _ _ _ _ ?_
    cases xs with
    | nil =>
      obtain rfl := vals_nil r
      exact ⟨.bl false, H, I, rfl, q⟩
    | cons x xs =>
      cases r with
      | cons r0 r1 => exact ⟨.bl true, H, I, rfl, q⟩
theorem r_eqNL {K : PySem.W.Frag} {a b : Addr} {xs : List V} (h1 : SqL K H a xs) (h2 : SqL K H b []) (q : Q (.bl xs.isEmpty) H) : rNil K false (.ref a) (.ref b) H Q := ⟨a, b, xs, rfl, rfl, .inl ⟨h1, h2⟩, by simpa using q⟩
theorem r_eqNT {K : PySem.W.Frag} {a b : Addr} {xs : List V} (h1 : SqT K H a xs) (h2 : SqT K H b []) (q : Q (.bl xs.isEmpty) H) : rNil K false (.ref a) (.ref b) H Q := ⟨a, b, xs, rfl, rfl, .inr ⟨h1, h2⟩, by simpa using q⟩
theorem r_neNL {K : PySem.W.Frag} {a b : Addr} {xs : List V} (h1 : SqL K H a xs) (h2 : SqL K H b []) (q : Q (.bl (!xs.isEmpty)) H) : rNil K true (.ref a) (.ref b) H Q := ⟨a, b, xs, rfl, rfl, .inl ⟨h1, h2⟩, by simpa using q⟩
theorem r_neNT {K : PySem.W.Frag} {a b : Addr} {xs : List V} (h1 : SqT K H a xs) (h2 : SqT K H b []) (q : Q (.bl (!xs.isEmpty)) H) : rNil K true (.ref a) (.ref b) H Q := ⟨a, b, xs, rfl, rfl, .inr ⟨h1, h2⟩, by simpa using q⟩
end

/-! ### data with lists and dicts -/
def keyD : Key → PyData
  | .inl i => .int i
  | .inr x => .str x
/-- data, the lists and dicts of which are none of M -/
inductive Dw (M : List Addr) (K : PySem.W.Frag) (H : Hp) : V → PyData → Prop
  | non : Dw M K H .non .none
  | bl (b : Bool) : Dw M K H (.bl b) (.bool b)
  | int (i : Int) : Dw M K H (.int i) (.int i)
  | str (x : Str) : Dw M K H (.str x) (.str x)
  | tup {a : Addr} {xs : List V} {ds : List PyData} : SqT K H a xs → xs.length = ds.length →
      (∀ (i : Nat) (v : V) (d : PyData), xs[i]? = some v → ds[i]? = some d → Dw M K H v d) → Dw M K H (.ref a) (.tuple ds)
  | lst {a : Addr} {xs : List V} {ds : List PyData} : H a = some (.lst xs) → a ∉ M → xs.length = ds.length →
      (∀ (i : Nat) (v : V) (d : PyData), xs[i]? = some v → ds[i]? = some d → Dw M K H v d) → Dw M K H (.ref a) (.list ds)
  | dct {a : Addr} {kvs : List (Key × V)} {ps : List (PyData × PyData)} : H a = some (.dK kvs) → a ∉ M → kvs.length = ps.length →
      (∀ (i : Nat) (kv : Key × V) (p : PyData × PyData), kvs[i]? = some kv → ps[i]? = some p → p.1 = keyD kv.1) →
      (∀ (i : Nat) (kv : Key × V) (p : PyData × PyData), kvs[i]? = some kv → ps[i]? = some p → Dw M K H kv.2 p.2) → Dw M K H (.ref a) (.dict ps)
section
variable {K : PySem.W.Frag} {M : List Addr} {H H1 : Hp} {v : V} {d : PyData}
theorem Dw.kp (a : Kp M H H1) (h : Dw M K H v d) : Dw M K H1 v d := by
  induction h with
  | non => exact .non
  | bl b => exact .bl b
  | int i => exact .int i
  | str x => exact .str x
  | tup s l _ ih => exact .tup (sqT_kp a s) l ih
  | lst e n l _ ih => exact .lst (a.get e n) n l ih
  | dct e n l q _ ih => exact .dct (a.get e n) n l q ih
theorem Dw.kp0 (a : Kp [] H H1) (h : Dw M K H v d) : Dw M K H1 v d := by
  induction h with
  | non => exact .non
  | bl b => exact .bl b
  | int i => exact .int i
  | str x => exact .str x
  | tup s l _ ih => exact .tup (sqT_kp a s) l ih
  | lst e n l _ ih => exact .lst (a.get e (by simp)) n l ih
  | dct e n l q _ ih => exact .dct (a.get e (by simp)) n l q ih
theorem Dw.sub {M' : List Addr} (s : ∀ a ∈ M', a ∈ M) (h : Dw M K H v d) : Dw M' K H v d := by
  induction h with
  | non => exact .non
  | bl b => exact .bl b
  | int i => exact .int i
  | str x => exact .str x
  | tup s l _ ih => exact .tup s l ih
  | lst e n l _ ih => exact .lst e (fun m => n (s _ m)) l ih
  | dct e n l q _ ih => exact .dct e (fun m => n (s _ m)) l q ih
theorem Dw.nil (h : Dw M K H v d) : Dw [] K H v d := h.sub (by simp)
theorem Dt.dw (h : Dt K H v d) : Dw M K H v d := by
  induction h with
  | non => exact .non
  | bl b => exact .bl b
  | int i => exact .int i
  | str x => exact .str x
  | tup s l _ ih => exact .tup s l ih
theorem Dw.isTup {ds : List PyData} (h : Dw M K H v (.tuple ds)) : ∃ (a : Addr) (xs : List V), v = .ref a ∧ SqT K H a xs ∧ xs.length = ds.length ∧
    ∀ (i : Nat) (v : V) (d : PyData), xs[i]? = some v → ds[i]? = some d → Dw M K H v d := by
  cases h with
  | tup s l q => exact ⟨_, _, rfl, s, l, q⟩
theorem Dw.isStr {x : Str} (h : Dw M K H v (.str x)) : v = .str x := by cases h; rfl
theorem Dw.isInt {i : Int} (h : Dw M K H v (.int i)) : v = .int i := by cases h; rfl
theorem Dw.ty (h : Dw M K H v d) : TyX K H v (.type (tyD d)) := by
  cases h with
  | non => exact .base .non
  | bl b => exact .base (.bl b)
  | int i => exact .base (.int i)
  | str z => exact .base (.str z)
  | tup s _ _ => exact tyX_T s
  | lst e _ _ _ => exact .base (.lst e)
  | dct e _ _ _ _ => exact .base (.dK e)
end
def qIs2 (K : PySem.W.Frag) : List V → Hp → VK → Prop := fun xs H Q => ∃ (x : V) (d : PyData) (n : String), xs = [x, .ty n] ∧ TyX K H x (.type (tyD d)) ∧
  n ∈ types ∧ Q (.bl (isaD d n)) H
theorem c_is2 {X : Cx} : CallR X (.builtin "isinstance") (qIs2 X.K) := by
  intro pins s σ H xs us Q I r h
  obtain ⟨x, d, n, rfl, hd, hn, q⟩ := h
  exact call_isi pins s σ H _ us Q I r ⟨x, _, _, _, _, rfl, .ty n, hd, kitD X.K d n hn, q⟩
section
variable {K : PySem.W.Frag} {M : List Addr} {H : Hp} {Q : VK} {x : V} {d : PyData} {n : String}
theorem r_is2 (h : Dw M K H x d) (hn : n ∈ types) (q : Q (.bl (isaD d n)) H) : qIs2 K [x, .ty n] H Q := ⟨x, d, n, rfl, h.ty, hn, q⟩
theorem r_is2T (h : Dw M K H x d) (e : isaD d n = true) (hn : n ∈ types) (q : Q (.bl true) H) : qIs2 K [x, .ty n] H Q := ⟨x, d, n, rfl, h.ty, hn, by rw [e]; exact q⟩
theorem r_is2F (h : Dw M K H x d) (e : isaD d n = false) (hn : n ∈ types) (q : Q (.bl false) H) : qIs2 K [x, .ty n] H Q := ⟨x, d, n, rfl, h.ty, hn, by rw [e]; exact q⟩
theorem r_is2i {i : Int} (hn : n ∈ types) (q : Q (.bl (isaD (.int i) n)) H) : qIs2 K [.int i, .ty n] H Q := r_is2 (M := []) (.int i) hn q
theorem r_is2s {i : Str} (hn : n ∈ types) (q : Q (.bl (isaD (.str i) n)) H) : qIs2 K [.str i, .ty n] H Q := r_is2 (M := []) (.str i) hn q
end

/-! ### texts, sign by sign -/
theorem sign_in (x : Str) (c : Nat) : (!(Builtin.Str.occurrences x ⟨#[c]⟩ 0 x.length 1).isEmpty) = decide (c ∈ x.cps.toList) := StrLaws.found_one x c
def rInC : R2 := fun x y H Q => ∃ (c : Nat) (z : Str), x = .str ⟨#[c]⟩ ∧ y = .str z ∧ Q (.bl (decide (c ∈ z.cps.toList))) H
def rNotInC : R2 := fun x y H Q => ∃ (c : Nat) (z : Str), x = .str ⟨#[c]⟩ ∧ y = .str z ∧ Q (.bl (!decide (c ∈ z.cps.toList))) H
section
variable {X : Cx} {H : Hp} {Q : VK} {σ : L2.St}
theorem op_inC : OpR X (compareOp .In) rInC := by
  intro pins s σ H x y v u Q I rx ry h
  obtain ⟨c, z, rfl, rfl, q⟩ := h
  exact op_in_str pins s σ H _ _ v u Q I rx ry ⟨_, _, rfl, rfl, by rw [sign_in]; exact q⟩
theorem op_notinC : OpR X (compareOp .NotIn) rNotInC := by
  intro pins s σ H x y v u Q I rx ry h
  obtain ⟨c, z, rfl, rfl, q⟩ := h
  exact op_notin_str pins s σ H _ _ v u Q I rx ry ⟨_, _, rfl, rfl, by rw [sign_in]; exact q⟩
theorem r_inC {c : Nat} {z : Str} (q : Q (.bl (decide (c ∈ z.cps.toList))) H) : rInC (.str ⟨#[c]⟩) (.str z) H Q := ⟨c, z, rfl, rfl, q⟩
theorem r_notinC {c : Nat} {z : Str} (q : Q (.bl (!decide (c ∈ z.cps.toList))) H) : rNotInC (.str ⟨#[c]⟩) (.str z) H Q := ⟨c, z, rfl, rfl, q⟩

/-! ### turned about; the last one taken; sign by sign -/
def RevL (K : PySem.W.Frag) (Q : VK) : V → Hp → Prop := fun x H1 => ∃ a xs, x = .ref a ∧ SqL K H1 a xs ∧ ∀ p, H1 p = none → Q (.ref p) (upd H1 p (.lst xs.reverse))
theorem r_revL {K : PySem.W.Frag} {te : TE} (h : te σ H (RevL K Q)) : tRevL K te σ H Q := h
theorem r_RevL {K : PySem.W.Frag} {a : Addr} {xs : List V} (s : SqL K H a xs) (h : ∀ p, H p = none → Q (.ref p) (upd H p (.lst xs.reverse))) : RevL K Q (.ref a) H := ⟨a, xs, rfl, s, h⟩
theorem r_pop {a : Addr} {xs : List V} {y : V} (h : H a = some (.lst (xs ++ [y]))) (q : Q y (upd H a (.lst xs))) : rPop (.ref a) [] H Q :=
  ⟨a, _, y, rfl, rfl, h, by simp, by rw [List.dropLast_concat]; exact q⟩
def LcS (g : TG) (tt : TT) (te : TE) (vs : List Nat) (σ : L2.St) (Q : VK) : V → Hp → Prop := fun v H1 => ∃ x, v = .str x ∧ LcTurns (Its x) g tt te vs σ Q H1
section
variable {g : TG} {tt : TT} {te ti : TE} {vs : List Nat}
theorem r_lcS (h : ti σ H (LcS g tt te vs σ Q)) : tLc (iStr ti) g tt te vs σ H Q := h
theorem r_LcS {x : Str} (h : ∀ p, H p = none → ∃ R : Nat → Hp → Prop, R 0 (upd H p (.lst [])) ∧
    (∀ (i : Nat) (c : Nat) H, x.cps.toList[i]? = some c → R i H → g (.str ⟨#[c]⟩) (wipe σ vs) H (LcTurn tt te vs σ p (R (i + 1)))) ∧ ∀ H, R x.cps.toList.length H → Q (.ref p) H) : LcS g tt te vs σ Q (.str x) H := by
  refine ⟨x, rfl, fun p hp => ?_⟩
  obtain ⟨R, h0, hs, hd⟩ := h p hp
  refine ⟨fun i m H' => i + m = x.cps.size ∧ R i H', ⟨x.cps.size, by omega, h0⟩, fun i m H' ⟨e, r⟩ => ?_⟩
  by_cases hi : i < x.cps.size
  · refine .inr ⟨hi, R (i + 1), fun H2 r2 => ⟨m - 1, by omega, by omega, r2⟩, fun v H2 hy => ?_⟩
    obtain ⟨rfl, c, hc, rfl⟩ := hy
    exact hs i c _ (by rw [Array.getElem?_toList]; exact hc) r
  · refine .inl ⟨by show x.cps.size ≤ i; omega, hd H' ?_⟩
    have e : i = x.cps.toList.length := by rw [Array.length_toList]; omega
    rw [← e]
    exact r
/-- the signs of a text that are not f -/
theorem r_LcSf {x : Str} {f : Nat → Bool} {i : Nat} (hz : x.length ≤ 16777216) (ht : ∀ (c : Nat) (H' : Hp) (R : Bool → Hp → Prop), R (f c) H' → tt ((wipe σ vs).set i (some (.str ⟨#[c]⟩))) H' R)
    (he : ∀ (c : Nat) (H' : Hp) (R : VK), R (.str ⟨#[c]⟩) H' → te ((wipe σ vs).set i (some (.str ⟨#[c]⟩))) H' R) (hw : ∀ v : V, wipe ((wipe σ vs).set i (some v)) vs = wipe σ vs)
    (h : ∀ p, H p = none → Q (.ref p) (upd H p (.lst ((x.cps.toList.filter f).map fun c => V.str ⟨#[c]⟩)))) : LcS (gName i) tt te vs σ Q (.str x) H := by
  refine r_LcS fun p hp => ⟨fun n H' => H' = upd H p (.lst (((x.cps.toList.take n).filter f).map fun c => V.str ⟨#[c]⟩)), rfl, ?_, ?_⟩
  · rintro n c H' hc rfl
    refine r_name (r_LcTurn (hw _) (ht c _ _ ?_))
    have htk : x.cps.toList.take (n + 1) = x.cps.toList.take n ++ [c] := by rw [List.take_add_one, hc]; rfl
    cases hf : f c with
    | true =>
      refine ifT (he c _ _ (r_LcEnd upd_same ?_ ?_))
      · rw [List.length_map, sizeLine_eq]
        have a := List.length_filter_le f (x.cps.toList.take n)
        rw [List.length_take] at a
        have b := (List.getElem?_eq_some_iff.mp hc).1
        have e : x.cps.toList.length = x.length := by rw [Array.length_toList]; rfl
        omega
      · show _ = upd H p (.lst (((x.cps.toList.take (n + 1)).filter f).map fun c => V.str ⟨#[c]⟩))
        rw [htk, List.filter_append, List.filter_cons_of_pos (by exact hf), List.filter_nil, List.map_append]
        funext b
        by_cases hb : b = p
        · rw [hb, upd_same, upd_same]
          rfl
        · rw [upd_ne hb, upd_ne hb, upd_ne hb]
    | false =>
      refine ifF ?_
      show _ = upd H p (.lst (((x.cps.toList.take (n + 1)).filter f).map fun c => V.str ⟨#[c]⟩))
      rw [htk, List.filter_append, List.filter_cons_of_neg (by rw [hf]; exact Bool.false_ne_true), List.filter_nil, List.append_nil]
  · rintro H' rfl
    rw [List.take_length]
    exact h p hp
end
/-! ### while -/
theorem r_while {c : TT} {tb : TS} {D : Ends} (Pv : Nat → L2.St → Hp → Prop) (m : Nat) (h0 : Pv m σ H)
    (hs : ∀ m σ H, Pv m σ H → c σ H fun b H1 => if b = true then ∃ N : L2.St → Hp → Prop, (∀ σ' H', N σ' H' → ∃ m', m' < m ∧ Pv m' σ' H') ∧ tb { D with nx := N, ct := N, bk := D.nx } σ H1 else D.nx σ H1) : tWhile c tb D σ H :=
  ⟨Pv, ⟨m, h0⟩, hs⟩
theorem r_turn {tb : TS} {D : Ends} {Pv : Nat → L2.St → Hp → Prop} {m : Nat} (h : tb { D with nx := fun σ' H' => ∃ m', m' < m ∧ Pv m' σ' H', ct := fun σ' H' => ∃ m', m' < m ∧ Pv m' σ' H', bk := D.nx } σ H) :
    ∃ N : L2.St → Hp → Prop, (∀ σ' H', N σ' H' → ∃ m', m' < m ∧ Pv m' σ' H') ∧ tb { D with nx := N, ct := N, bk := D.nx } σ H := ⟨_, fun _ _ z => z, h⟩
/-! ### d.get(k, x) -/
def DG2 (a : Addr) (Q : VK) : V → V → Hp → Prop := fun y z H3 => ∃ o, DGet H3 a y o ∧ Q (o.getD z) H3
def DG2a (ty tx : TE) (σ : L2.St) (Q : VK) : V → Hp → Prop := fun x H1 => ∃ a, x = .ref a ∧ IsD H1 a ∧ ty σ H1 fun y H2 => tx σ H2 fun z H3 => DG2 a Q y z H3
theorem r_dget2 {td ty tx : TE} (h : td σ H (DG2a ty tx σ Q)) : tDGet2 td ty tx σ H Q := h
theorem r_DG2a {ty tx : TE} {a : Addr} {kvs : List (Key × V)} (e : H a = some (.dK kvs)) (h : ty σ H fun y H2 => tx σ H2 fun z H3 => DG2 a Q y z H3) : DG2a ty tx σ Q (.ref a) H := ⟨a, rfl, .inl ⟨kvs, .inl e⟩, h⟩
theorem r_DG2 {a : Addr} {kvs : List (Key × V)} {z : V} {x : Str} (e : H a = some (.dK kvs)) (q : Q ((valV kvs (Sum.inr x)).getD z) H) : DG2 a Q (.str x) z H := ⟨_, DGet.k (k := Sum.inr x) e, q⟩
/-- a written dict of texts and ints -/
def szK (kvs : List (Str × Int)) : List (Key × V) := kvs.map fun p => (Sum.inr p.1, V.int p.2)
def szOf (kvs : List (Str × Int)) (w : Str) : Int := ((kvs.find? fun p => decide (p.1 = w)).map (·.2)).getD 0
theorem szK_get (w : Str) : ∀ kvs : List (Str × Int), (valV (szK kvs) (Sum.inr w)).getD (.int 0) = .int (szOf kvs w)
  | [] => rfl
  | (x, n) :: r => by
    have q := szK_get w r
    unfold valV szK szOf at q ⊢
    rw [List.map_cons]
    by_cases h : x = w
    · subst h
      rw [List.find?_cons_of_pos (by simp), List.find?_cons_of_pos (by simp)]
      rfl
    · rw [List.find?_cons_of_neg (by simpa using h), List.find?_cons_of_neg (by simpa using h)]
      exact q
/-! ### more walks -/
section
variable {K : PySem.W.Frag} {g : TG} {tt : TT} {te : TE} {ts : TA} {vs : List Nat} {tb : TS} {D : Ends}
theorem r_slT {a : Addr} {xs : List V} {lo hi : Option Int} (h : SqT K H a xs) (n : ¬ (HT.sIx xs.length 0 lo = 0 ∧ HT.sIx xs.length xs.length hi = xs.length)) (q : ∀ p, H p = none → Q (.ref p) (upd H p (.tup (cutV xs lo hi)))) : rSlT K (.ref a) lo hi H Q := ⟨a, xs, rfl, h, n, q⟩
def LcR2 (g : TG) (tt : TT) (te : TE) (vs : List Nat) (σ : L2.St) (Q : VK) : List V → Hp → Prop := fun us H1 => ∃ i j : Int, us = [.int i, .int j] ∧ (-(2 ^ 62) ≤ i ∧ i < 2 ^ 62 ∧ -(2 ^ 62) ≤ j ∧ j < 2 ^ 62) ∧ LcTurns (Itr i (j - i).toNat) g tt te vs σ Q H1
theorem r_lcR2 (h : ts σ H (LcR2 g tt te vs σ Q)) : tLc (iRng2 ts) g tt te vs σ H Q := h
theorem r_LcR2 {lo hi : Int} (h1 : -(2 ^ 62) ≤ lo ∧ lo < 2 ^ 62 ∧ -(2 ^ 62) ≤ hi ∧ hi < 2 ^ 62) (h : ∀ p, H p = none → ∃ R : Nat → Hp → Prop, R 0 (upd H p (.lst [])) ∧
    (∀ (i : Nat) H, i < (hi - lo).toNat → R i H → g (.int (lo + i)) (wipe σ vs) H (LcTurn tt te vs σ p (R (i + 1)))) ∧ ∀ H, R (hi - lo).toNat H → Q (.ref p) H) : LcR2 g tt te vs σ Q [.int lo, .int hi] H := by
  refine ⟨lo, hi, rfl, h1, fun p hp => ?_⟩
  obtain ⟨R, h0, hs, hd⟩ := h p hp
  exact lc_range (lo := lo) (n := (hi - lo).toNat) R h0 hs hd
def ForE (K : PySem.W.Frag) (g : TG) (tb : TS) (D : Ends) (σ : L2.St) : List V → Hp → Prop := fun us H1 => ∃ a xs, us = [.ref a] ∧ SqL K H1 a xs ∧ Turns (Ite K a) g tb D σ H1
theorem r_forE (h : ts σ H (ForE K g tb D σ)) : tFor (iEnum K ts) g tb D σ H := by
  refine cast ?_ h
  rfl
theorem r_ForE {a : Addr} {xs : List V} (s : SqL K H a xs) (R : Nat → L2.St → Hp → Prop) (h0 : R 0 σ H) (hl : ∀ i σ H, R i σ H → SqL K H a xs)
    (hs : ∀ (i : Nat) x σ H T, xs[i]? = some x → R i σ H → H T = none → g (.ref T) σ (upd H T (.tup [.int (i : Nat), x])) fun σ2 H2 => tb { D with nx := R (i + 1), ct := R (i + 1), bk := D.nx } σ2 H2)
    (hd : ∀ σ H, R xs.length σ H → D.nx σ H) : ForE K g tb D σ [.ref a] H := by
  refine ⟨a, xs, rfl, s, fun i m σ H => i + m = xs.length ∧ R i σ H, ⟨xs.length, by omega, h0⟩, fun i m σ H ⟨e, r⟩ => ?_⟩
  have sl := hl i σ H r
  by_cases hi : i < xs.length
  · refine .inr ⟨⟨xs, xs[i], sl, List.getElem?_eq_getElem hi⟩, R (i + 1), fun σ' H' r' => ⟨m - 1, by omega, by omega, r'⟩, fun v H' hy => ?_⟩
    obtain ⟨T, x, rfl, hT, rfl, hx⟩ := hy
    exact hs i x σ H T (hx xs sl) r hT
  · refine .inl ⟨⟨xs, sl, by omega⟩, hd σ H ?_⟩
    have e2 : i = xs.length := by omega
    rw [← e2]
    exact r
end
theorem ix_listK {X : Cx} {K : PySem.W.Frag} (h : X.K = K) : IxR X (rIxL K) := by
  subst h
  exact ix_list
theorem ix_tupK {X : Cx} {K : PySem.W.Frag} (h : X.K = K) : IxR X (rIxT K) := by
  subst h
  exact ix_tup
end
/-! ### repr of any data -/
def qRepr2 (K : PySem.W.Frag) : List V → Hp → VK → Prop := fun xs H Q => ∃ x d, xs = [x] ∧
    Dp K H x d ∧ d.showable = true ∧ d.hasDict = false ∧ d.depth ≤ 100 ∧ d.shown.length ≤ sizeLine ∧ Q (.str d.shown) H
theorem c_repr2 {X : Cx} {k : Nat} (hr : RoomG k X.A) : CallR X (.builtin "repr") (qRepr2 X.K) := by
  intro pins s σ H xs us Q I r h
  obtain ⟨x, d, rfl, hd, h1, h2, h3, h4, q⟩ := h
  cases hd with
  | non =>
    obtain ⟨u, rfl, r1⟩ := vals1 r
    cases (show u = Value.none from r1)
    refine PySem.P.repr_of_none ⟨.str _, H, I.tok _, ⟨_, rfl⟩, ?_⟩
    rw [PyData.shown] at q
    exact q
  | bl b =>
    obtain ⟨u, rfl, r1⟩ := vals1 r
    cases (show u = Value.bool b from r1)
    refine PySem.P.repr_of_bool ⟨.str _, H, I.tok _, ⟨_, rfl⟩, ?_⟩
    rw [PyData.shown] at q
    exact q
  | int i =>
    obtain ⟨u, rfl, r1⟩ := vals1 r
    obtain ⟨t, rfl⟩ := (show ∃ t, u = Value.int i t from r1)
    rw [PyData.showable] at h1
    refine PySem.P.repr_of_int (of_decide_eq_true h1) ⟨.str _, H, I.tok _, ⟨_, rfl⟩, ?_⟩
    rw [PyData.shown] at q
    exact q
  | str z =>
    obtain ⟨u, rfl, r1⟩ := vals1 r
    obtain ⟨t, rfl⟩ := (show ∃ t, u = Value.str z t from r1)
    rw [PyData.shown] at q h4
    exact PySem.P.repr_of_str ⟨.str _, H, I.tok _, ⟨_, rfl⟩, q⟩ h4
  | lst s' a => exact call_reprD hr pins s σ H _ us Q I r ⟨_, _, rfl, .lst s' a, h1, h2, h3, h4, q⟩
  | tup s' a => exact call_reprD hr pins s σ H _ us Q I r ⟨_, _, rfl, .tup s' a, h1, h2, h3, h4, q⟩
theorem r_repr2 {K : PySem.W.Frag} {H : Hp} {Q : VK} {x : V} {d : PyData} {k n : Nat} (h : Dp K H x d) (s : Shw d k n) (hk : k ≤ 100) (hn : n ≤ 16777216) (q : Q (.str d.shown) H) : qRepr2 K [x] H Q :=
  ⟨x, d, rfl, h, s.sh, s.nd, Nat.le_trans s.dep hk, by rw [sizeLine_eq]; exact Nat.le_trans s.len hn, q⟩
/-! ### a tuple, many times -/
def rRepW (K : PySem.W.Frag) : R2 := fun x y H Q => ∃ (l : Addr) (k : Int) (xs : List V), x = .ref l ∧ y = .int k ∧ SqT K H l xs ∧ xs ≠ [] ∧ 2 ≤ k ∧ k ≤ 100000 ∧ xs.length ≤ 100 ∧ ∀ p, H p = none → Q (.ref p) (upd H p (.tup (List.replicate k.toNat xs).flatten))
theorem op_repW {X : Cx} : OpR X (binaryOp .Mult) (rRepW X.K) := by
  intro pins s σ H x y v u Q I rx ry hh
  obtain ⟨l, k, xs, rfl, rfl, hT, hne, k2, k3, hz, q⟩ := hh
  cases rx
  obtain ⟨tk, rfl⟩ := ry
  obtain ⟨vals, rv, ⟨⟨cl, dd, da, sl⟩, ho, hc, n, hd⟩, hs⟩ := I.tuple hT
  simp only at hc hd
  subst hc
  subst hd
  have ev : vals.length = xs.length := rv.length.symm
  have hv0 : vals.toArray.isEmpty = false := by
    cases vals with
    | nil =>
      rw [List.length_nil] at ev
      exact absurd (List.eq_nil_of_length_eq_zero ev.symm) hne
    | cons _ _ => rfl
  have esz : vals.toArray.size = xs.length := by rw [List.size_toArray, ev]
  have hprod : ((vals.toArray.size : Nat) : Int) * k ≤ 10000000 := by
    rw [esz]
    have := Int.mul_le_mul_of_nonneg_right (show ((xs.length : Nat) : Int) ≤ 100 by omega) (show 0 ≤ k by omega)
    omega
  have hflat : k.toNat * xs.length ≤ 10000000 := by
    have := Nat.mul_le_mul (show k.toNat ≤ 100000 by omega) hz
    omega
  have b0 : (decide (k < -(2 ^ 63)) || decide (k ≥ 2 ^ 63)) = false := by simp; omega
  have b1 : (vals.toArray.isEmpty || k == 1) = false := by rw [hv0]; simp; omega
  have b2 : (decide (k ≤ 0) || vals.toArray.isEmpty) = false := by rw [hv0]; simp; omega
  have b4 : Builtin.Tuple.tupleTooMany (((vals.toArray.size : Nat) : Int) * k) = false := by
    unfold Builtin.Tuple.tupleTooMany
    rw [sizeLine_eq]
    exact decide_eq_false (by omega)
  have bs : (List.foldl (fun x1 x2 => x1 ++ x2) #[] (List.replicate k.toNat vals.toArray)).size ≤ sizeLine := by
    rw [size_rep, List.size_toArray, PyProof.Rows.lm_len_rep_flat, ev, sizeLine_eq]
    omega
  refine wpAny_binaryOp_repeat_ref (T := "tuple") (U := "int") (by decide) ⟨_, ho, rfl⟩ (fun s' => typeIs_int s' k tk)
    noFill_tuple_mul F.fills_int_mul F.slot_int_rmul repeat_tuple F.slot_int_index.lookup ?_
  refine call_meets F.slot_int_rmul (typeIs_int s k tk) F.entry_int_rmul (F.args_int_rmul_2 _ _)
    (int_rmul_tuple k tk l vals.toArray n dd sl) ⟨ho, rfl, ⟨_, ho, rfl⟩, ?_⟩
  refine call_meets F.slot_tuple_mul ⟨_, ho, rfl⟩ F.entry_tuple_mul (F.args_tuple_mul_2 _ _)
    (tuple_mulW l vals.toArray n dd sl k tk b0 b1 b2 (by omega) b4 bs) ⟨ho, ?_⟩
  rw [size_rep]
  refine ⟨.ref s.heap.objs.size, _, I.laid (t' := s.toks) (o := .tup (List.replicate k.toNat xs).flatten) (fun b ob z => Heap.get?_push_of_some _ z) (Nat.le_refl _) ?_, rfl, q _ (I.hok.fresh (Nat.le_refl _))⟩
  refine ⟨?_, _, rv.rep k.toNat, PyProof.Rows.IsTup.new _ _⟩
  rw [PyProof.Rows.lm_len_rep_flat, sizeLine_eq]
  omega
theorem r_repW {K : PySem.W.Frag} {H : Hp} {Q : VK} {l : Addr} {k : Int} {xs : List V} (h : SqT K H l xs) (h0 : xs ≠ []) (h1 : 2 ≤ k) (h2 : k ≤ 100000) (h3 : xs.length ≤ 100) (q : ∀ p, H p = none → Q (.ref p) (upd H p (.tup (List.replicate k.toNat xs).flatten))) :
    rRepW K (.ref l) (.int k) H Q := ⟨l, k, xs, rfl, rfl, h, h0, h1, h2, h3, q⟩
/-! ### written data -/
/-- an expression that makes data and keeps all that is there -/
def CD (K : PySem.W.Frag) (σ : L2.St) (H0 : Hp) (te : TE) (d : PyData) : Prop := ∀ (H : Hp) (Q : VK), Kp [] H0 H → (∀ H' v, Kp [] H H' → Dt K H' v d → Q v H') → te σ H Q
def CDs (K : PySem.W.Frag) (σ : L2.St) (H0 : Hp) (ts : TA) (ds : List PyData) : Prop := ∀ (H : Hp) (R : List V → Hp → Prop), Kp [] H0 H → (∀ H' vs, Kp [] H H' → DtL K H' vs ds → R vs H') → ts σ H R
section
variable {K : PySem.W.Frag} {σ : L2.St} {H0 : Hp} {te : TE} {ts : TA} {d : PyData} {ds : List PyData}
theorem cd_str {x : Str} : CD K σ H0 (tC (.str x)) (.str x) := fun H Q _ h => h H _ Kp.nil (.str x)
theorem cd_int {x : Int} : CD K σ H0 (tC (.int x)) (.int x) := fun H Q _ h => h H _ Kp.nil (.int x)
theorem cd_non : CD K σ H0 (tC .non) .none := fun H Q _ h => h H _ Kp.nil .non
theorem cd_var {i : Nat} {v : V} (e : σ[i]? = some (some v)) (hv : Dt K H0 v d) : CD K σ H0 (tVar i) d := fun H Q k h => ⟨v, e, h H _ Kp.nil (hv.kp k)⟩
theorem cds_nil : CDs K σ H0 tNil [] := fun H R _ h => h H _ Kp.nil DtL.nil
theorem cds_cons (a : CD K σ H0 te d) (b : CDs K σ H0 ts ds) : CDs K σ H0 (tCons te ts) (d :: ds) := fun H R k h =>
  a H _ k fun H1 v k1 hv => b H1 _ (k.trans k1) fun H2 vs k2 hs => h H2 (v :: vs) (k1.trans k2) (DtL.cons (hv.kp k2) hs)
theorem cd_tup (b : CDs K σ H0 ts ds) (hz : ds.length ≤ 16777216) : CD K σ H0 (tTup ts) (.tuple ds) := fun H Q k h =>
  b H _ k fun H1 vs k1 hs => ⟨by rw [hs.len, sizeLine_eq]; exact hz, fun p hp => h _ _ (k1.new hp) ((hs.kp (Kp.nil.new hp)).tup upd_same)⟩
theorem CD.use {H : Hp} {Q : VK} (a : CD K σ H te d) (h : ∀ H' v, Kp [] H H' → Dt K H' v d → Q v H') : te σ H Q := a H Q Kp.nil h
theorem CDs.use {H : Hp} {R : List V → Hp → Prop} (a : CDs K σ H ts ds) (h : ∀ H' vs, Kp [] H H' → DtL K H' vs ds → R vs H') : ts σ H R := a H R Kp.nil h
end
theorem DtL.app {K : PySem.W.Frag} {H : Hp} {vs us : List V} {ds es : List PyData} (h : DtL K H vs ds) (g : DtL K H us es) : DtL K H (vs ++ us) (ds ++ es) := by
  refine ⟨by rw [List.length_append, List.length_append, h.len, g.len], fun i u e q q' => ?_⟩
  by_cases hi : i < vs.length
  · rw [List.getElem?_append_left hi] at q
    rw [List.getElem?_append_left (by rw [← h.len]; exact hi)] at q'
    exact h.all i u e q q'
  · rw [List.getElem?_append_right (by omega)] at q
    rw [List.getElem?_append_right (by rw [← h.len]; omega), ← h.len] at q'
    exact g.all _ u e q q'
theorem DtL.rep {K : PySem.W.Frag} {H : Hp} {vs : List V} {ds : List PyData} (h : DtL K H vs ds) : ∀ n : Nat, DtL K H (List.replicate n vs).flatten (List.replicate n ds).flatten
  | 0 => DtL.nil
  | n + 1 => by
    rw [List.replicate_succ, List.replicate_succ, List.flatten_cons, List.flatten_cons]
    exact h.app (DtL.rep h n)
theorem Dt.items {K : PySem.W.Frag} {H : Hp} {v : V} {ds : List PyData} (h : Dt K H v (.tuple ds)) : ∃ (a : Addr) (xs : List V), v = .ref a ∧ SqT K H a xs ∧ DtL K H xs ds := by
  obtain ⟨a, xs, e, s, l, q⟩ := h.isTup
  exact ⟨a, xs, e, s, l, q⟩
theorem r_rep {H : Hp} {Q : VK} {l : Addr} {k : Int} {xs : List V} (h : H l = some (.lst xs)) (h1 : 0 ≤ k) (h2 : k ≤ 1000) (h3 : xs.length ≤ 1000) (q : ∀ p, H p = none → Q (.ref p) (upd H p (.lst (List.replicate k.toNat xs).flatten))) : rRep (.ref l) (.int k) H Q :=
  ⟨l, k, xs, rfl, rfl, h, by omega, by omega, by
    have := Nat.mul_le_mul h3 (show k.toNat ≤ 1000 by omega)
    rw [sizeLine_eq]
    omega, q⟩
theorem op_neNilK {X : Cx} {K : PySem.W.Frag} (h : X.K = K) (hu : X.A.units + 64 < cLine) : OpR X (compareOp .NotEq) (rNil K true) := by
  subst h
  exact op_neNil hu
theorem op_eqNilK {X : Cx} {K : PySem.W.Frag} (h : X.K = K) (hu : X.A.units + 64 < cLine) : OpR X (compareOp .Eq) (rNil K false) := by
  subst h
  exact op_eqNil hu
end Aw

/-! repr of data with lists and dicts; methods, makers -/
namespace Aw
open PySem PySem.Spec L2

section
variable {X : Cx} {pins : List (Addr × Obj)} {σ : L2.St} {H : Hp} {s : Shared}
theorem readsAll_of {h : Heap} : ∀ {xs : List V} {ds : List PyData} {its : List Value}, xs.length = ds.length → Vals xs its →
    (∀ (i : Nat) (v : V) (d : PyData), xs[i]? = some v → ds[i]? = some d → ∀ u, RelV v u → ∃ as, Reads h u d as ∧ sysModules ∉ as) → ∃ as, ReadsAll h its ds as ∧ sysModules ∉ as
  | [], [], _, _, r, _ => by
    cases r
    exact ⟨[], .nil, by simp⟩
  | x :: xs, d :: ds, _, l, r, f => by
    cases r with
    | cons r0 r1 =>
      obtain ⟨as, a1, a2⟩ := f 0 x d rfl rfl _ r0
      obtain ⟨bs, b1, b2⟩ := readsAll_of (by simpa using l) r1 fun i v d e e' => f (i + 1) v d (by simpa using e) (by simpa using e')
      exact ⟨as ++ bs, .cons a1 b1, fun m => (List.mem_append.mp m).elim a2 b2⟩
  | [], _ :: _, _, l, _, _ => by cases l
  | _ :: _, [], _, l, _, _ => by cases l
theorem Dw.reads {M : List Addr} {v : V} {d : PyData} (I : Inv X pins σ H s) (hM : H sysModules = none) (h : Dw M X.K H v d) : ∀ u, RelV v u → ∃ as, Reads s.heap u d as ∧ sysModules ∉ as := by
  induction h with
  | non => intro u r; cases r; exact ⟨_, Reads.none, by simp⟩
  | bl b => intro u r; cases r; exact ⟨_, Reads.bool b, by simp⟩
  | int i => intro u r; obtain ⟨t, rfl⟩ := r; exact ⟨_, Reads.int i t, by simp⟩
  | str x => intro u r; obtain ⟨t, rfl⟩ := r; exact ⟨_, Reads.str x t, by simp⟩
  | tup hs l _ ih =>
    intro u r
    cases r
    obtain ⟨its, rv, ⟨o, ho, hc, n, hd⟩, _⟩ := I.tuple hs
    obtain ⟨as, a1, a2⟩ := readsAll_of l rv ih
    exact ⟨_, Reads.tuple ho hc hd a1, a2⟩
  | @lst a xs ds he _ l _ ih =>
    intro u r
    cases r
    obtain ⟨its, rv, ⟨o, n, ho, hc, _, hd⟩, _⟩ := I.list (SqL.of he)
    obtain ⟨as, a1, a2⟩ := readsAll_of l rv ih
    refine ⟨_, Reads.list ho hc hd a1, fun m => ?_⟩
    rcases List.mem_cons.mp m with z | z
    · rw [z, he] at hM
      cases hM
    · exact a2 z
  | @dct a kvs ps he _ l hk _ ih =>
    intro u r
    cases r
    obtain ⟨_, hsm, vs, kv, o, es, ep, ho, hx, hd, _, pr, _⟩ := dk_of I.hok he
    have keys : ∀ {es : List DictEntry} {kvs : List (Key × V)} {vs : List (Key × Value)} {ps : List (PyData × PyData)}, PySem.Pairs (mixKind X.prog X.w) es vs → KV kvs vs → kvs.length = ps.length →
        (∀ (i : Nat) (kv : Key × V) (p : PyData × PyData), kvs[i]? = some kv → ps[i]? = some p → p.1 = keyD kv.1) →
        (∀ (i : Nat) (kv : Key × V) (p : PyData × PyData), kvs[i]? = some kv → ps[i]? = some p → ∀ u, RelV kv.2 u → ∃ as, Reads s.heap u p.2 as ∧ sysModules ∉ as) →
        (∃ as, ReadsAll s.heap (es.map (·.key)) (ps.map (·.1)) as ∧ sysModules ∉ as) ∧ (∃ as, ReadsAll s.heap (es.map (·.val)) (ps.map (·.2)) as ∧ sysModules ∉ as) := by
      intro es kvs vs ps pr
      induction pr generalizing kvs ps with
      | nil =>
        intro kv l hk ih
        cases kv
        have : ps = [] := List.length_eq_zero_iff.mp l.symm
        subst this
        exact ⟨⟨[], .nil, by simp⟩, ⟨[], .nil, by simp⟩⟩
      | @cons e q es qs h1 h2 h3 ihp =>
        intro kv l hk ih
        cases kv with
        | @cons p q' kvs' _ hpq hr =>
        cases ps with
        | nil => cases l
        | cons pp ps =>
          obtain ⟨⟨as, a1, a2⟩, ⟨bs, b1, b2⟩⟩ := ihp hr (by simpa using l) (fun i kv p e e' => hk (i + 1) kv p (by simpa using e) (by simpa using e')) (fun i kv p e e' => ih (i + 1) kv p (by simpa using e) (by simpa using e'))
          have hk0 := hk 0 _ _ rfl rfl
          obtain ⟨e1, e2⟩ := hpq
          obtain ⟨cs, c1, c2⟩ := ih 0 _ _ rfl rfl _ e2
          refine ⟨⟨[] ++ as, ?_, by simpa using a2⟩, ⟨cs ++ bs, ?_, fun m => (List.mem_append.mp m).elim c2 b2⟩⟩
          · refine ReadsAll.cons ?_ a1
            show Reads s.heap e.key pp.1 []
            rw [hk0, e1]
            rcases keyIs_shape h1 with ⟨i, t, z1, z2⟩ | ⟨x, t, z1, z2⟩
            · rw [z1, z2]
              exact Reads.int i t
            · rw [z1, z2]
              exact Reads.str x t
          · refine ReadsAll.cons ?_ b1
            show Reads s.heap e.val pp.2 cs
            rw [h2]
            exact c1
    obtain ⟨⟨as, a1, a2⟩, ⟨bs, b1, b2⟩⟩ := keys pr kv l hk ih
    refine ⟨_, Reads.dict ho hx.1 hd a1 b1, fun m => ?_⟩
    rcases List.mem_append.mp m with m | m
    · rcases List.mem_cons.mp m with z | z
      · rw [← z] at hsm
        exact absurd hsm (by decide)
      · exact a2 z
    · exact b2 m
end

/-- data that is shown, with dicts -/
structure ShwD (d : PyData) (k n : Nat) : Prop where
  sh : d.showable = true
  dep : d.depth ≤ k
  len : d.shown.length ≤ n
theorem Shw.toD {d : PyData} {k n : Nat} (h : Shw d k n) : ShwD d k n := ⟨h.sh, h.dep, h.len⟩
def qRepr3 (K : PySem.W.Frag) : List V → Hp → VK → Prop := fun xs H Q => ∃ x d, xs = [x] ∧
    Dw [] K H x d ∧ d.showable = true ∧ d.depth ≤ 100 ∧ d.shown.length ≤ sizeLine ∧ Q (.str d.shown) H
theorem c_repr3 {X : Cx} {k : Nat} (hr : RoomG k X.A) (hM : ∃ mm, X.base.Ns sysModules mm) : CallR X (.builtin "repr") (qRepr3 X.K) := by
  intro pins s σ H xs us Q I r h
  obtain ⟨x, d, rfl, hd, h1, h3, h4, q⟩ := h
  have hS : H sysModules = none := by
    obtain ⟨mm, o, es, ep, e, _⟩ := hM
    exact (I.bs _ _ e).2
  have go : ∀ a : Addr, x = .ref a → wpAny (model X.prog X.w) X.A (call (.builtin "repr") us) (EP X pins σ Q) X.xe s := by
    intro a e
    subst e
    obtain ⟨u, rfl, r1⟩ := vals1 r
    cases (show u = Value.ref a from r1)
    obtain ⟨as, rd, hn⟩ := hd.reads I hS _ r1
    have hu := hr.r.un
    refine repr_of_reads' rd h1 (fun _ => hn) hr.g (by omega) (fun _ _ e => e) (fun h' u tk hk => ?_) h4
    exact ⟨.str d.shown, H, I.kept hk, ⟨_, rfl⟩, q⟩
  cases hd with
  | non =>
    obtain ⟨u, rfl, r1⟩ := vals1 r
    cases (show u = Value.none from r1)
    refine PySem.P.repr_of_none ⟨.str _, H, I.tok _, ⟨_, rfl⟩, ?_⟩
    rw [PyData.shown] at q
    exact q
  | bl b =>
    obtain ⟨u, rfl, r1⟩ := vals1 r
    cases (show u = Value.bool b from r1)
    refine PySem.P.repr_of_bool ⟨.str _, H, I.tok _, ⟨_, rfl⟩, ?_⟩
    rw [PyData.shown] at q
    exact q
  | int i =>
    obtain ⟨u, rfl, r1⟩ := vals1 r
    obtain ⟨t, rfl⟩ := (show ∃ t, u = Value.int i t from r1)
    rw [PyData.showable] at h1
    refine PySem.P.repr_of_int (of_decide_eq_true h1) ⟨.str _, H, I.tok _, ⟨_, rfl⟩, ?_⟩
    rw [PyData.shown] at q
    exact q
  | str z =>
    obtain ⟨u, rfl, r1⟩ := vals1 r
    obtain ⟨t, rfl⟩ := (show ∃ t, u = Value.str z t from r1)
    rw [PyData.shown] at q h4
    exact PySem.P.repr_of_str ⟨.str _, H, I.tok _, ⟨_, rfl⟩, q⟩ h4
  | tup _ _ _ => exact go _ rfl
  | lst _ _ _ _ => exact go _ rfl
  | dct _ _ _ _ _ => exact go _ rfl
theorem r_repr3 {K : PySem.W.Frag} {H : Hp} {Q : VK} {x : V} {d : PyData} {k n : Nat} (h : Dw [] K H x d) (s : ShwD d k n) (hk : k ≤ 100) (hn : n ≤ 16777216) (q : Q (.str d.shown) H) : qRepr3 K [x] H Q :=
  ⟨x, d, rfl, h, s.sh, Nat.le_trans s.dep hk, by rw [sizeLine_eq]; exact Nat.le_trans s.len hn, q⟩

/-! ### methods and makers -/
theorem RoomG.make {k : Nat} {A : Around} (h : RoomG (k + 1) A) (C : Addr) (us : List Value) (kw : List (Str × Value)) : RoomG k (A.under (.builtin "type.__call__" ⟨.ref C :: us, kw⟩)) := ⟨h.r.make C us kw, h.g⟩
/-- a method of the class at C keeps its promise -/
def HasM (P : Program) (w : World) (K : PySem.W.Frag) (mg : Str → Option Value) (base : Heap) (CX : CXT) (C : Addr) (m : Str) (ps : List Str) (k : Nat) (sp : Sp) : Prop :=
  ∃ (f : Addr) (fd : FuncData), (∃ oc od osl, K.lookup f = some ⟨oc, od, .func fd, osl⟩) ∧ Meth K C m f ∧ Binds K fd ps [] ∧ FnG P w K mg base CX k f fd ps sp
/-- a method of the class at C stands in the top -/
def DfM (K : PySem.W.Frag) (C : Addr) (m q : Str) (st : Stmt) (ps : List Str) : Prop :=
  ∃ (f : Addr) (fd : FuncData), Fun K m q st f fd ∧ Meth K C m f ∧ Binds K fd ps []
section
variable {P : Program} {w : World} {K : PySem.W.Frag} {mg : Str → Option Value} {base : Heap} {CX : CXT} {C : Addr} {m q : Str} {st : Stmt} {ps N : List Str} {j k : Nat} {sp sp' : Sp}
theorem HasM.mono (h : HasM P w K mg base CX C m ps j sp) (z : j ≤ k) : HasM P w K mg base CX C m ps k sp := by
  obtain ⟨f, fd, a, b, c, d⟩ := h
  exact ⟨f, fd, a, b, c, d.mono z⟩
theorem HasM.imp (h : HasM P w K mg base CX C m ps k sp) (z : ∀ vs H Q E, sp' vs H Q E → sp vs H Q E) : HasM P w K mg base CX C m ps k sp' := by
  obtain ⟨f, fd, a, b, c, d⟩ := h
  exact ⟨f, fd, a, b, c, fun vs H Q E y => d.len _ _ _ _ (z _ _ _ _ y), fun A o s H ar us vs Q E hr he hb hv hs => d.run A o s H ar us vs Q E hr he hb hv (z _ _ _ _ hs)⟩
theorem DfM.void (d : DfM K C m q st ps) (h : ∀ vs H Q E, ¬ sp vs H Q E) : HasM P w K mg base CX C m ps 0 sp := by
  obtain ⟨f, fd, F, mm, b⟩ := d
  have lk : ∃ oc od osl, K.lookup f = some ⟨oc, od, .func fd, osl⟩ := by
    obtain ⟨oc, od, kV, doc, pm, an, cdv, ct, osl, rfl, lk, hcd⟩ := F.ex
    exact ⟨oc, od, osl, lk⟩
  exact ⟨f, fd, lk, mm, b, fun vs H Q E z => absurd z (h _ _ _ _), fun A o s H ar us vs Q E hr he hb hv hs => absurd hs (h _ _ _ _)⟩
theorem DfM.has (d : DfM K C m q st ps) (S : FnScope N ps (defScope st)) (len : ∀ vs H Q E, sp vs H Q E → vs.length = ps.length)
    (hb : ∀ (f : Addr) (cdv : Value) (A : Around) (outer : List Env) (s : Shared) (H : Hp) (vs : List V) (Q : VK) (E : XK),
      RoomG k (A.deeper (PyProof.Rows.envOfC q (defScope st) s.heap.objs.size f cdv)) → sp vs H Q E →
      ∃ t, PSs (cxOf CX0 P w K mg base N q (defScope st) f cdv A outer s H E).nox (defBody st) t ∧
        t { nx := fun _ H' => Q .non H', rt := Q } (start N vs) H) : HasM P w K mg base CX0 C m ps (k + 1) sp := by
  obtain ⟨f, fd, F, mm, b⟩ := d
  obtain ⟨oc, od, kV, doc, pm, an, cdv, ct, osl, rfl, lk, hcd⟩ := F.ex
  refine ⟨f, _, ⟨oc, od, osl, lk⟩, mm, b, fnG_of lk hcd S len fun A outer s H vs Q E hr hsp => ?_⟩
  obtain ⟨t, h, q⟩ := hb f cdv A outer s H vs Q E hr hsp
  exact ⟨t, h.nox, q⟩
end
section
variable {X : Cx} {CX : CXT} {k : Nat} {C : Addr} {ps : List Str} {sp : Sp} {E : XK} {x m : Str} {p pos apos : Pos} {e o : Expr} {es : List Expr} {ta : TE} {t : TA}
/-- o.m(e, ..) -/
theorem pe_m {pl : Sem Bool} (F : HasM X.prog X.w X.K X.mg X.base CX C m ps k sp) (c : Cls X.K C) (hr : RoomG k X.A) (hx : Passes CX X E) (he : PE X o ta) (ha : PA X (e :: es) t)
    (hst : starEach (e :: es) X.env = (false, eval e X.env) :: starEach es X.env := by rfl) (hpl : (backTo pos (starEach es X.env)).any (·.1) = false := by rfl)
    (ht : eval (.Call (.Attribute o m apos) (e :: es) [] pos) X.env = (do
      let ov ← eval o X.env
      standAt apos.atName
      let (f, first) ← holding [ov] (getMethod ov m pl)
      callWith pos f first (backTo pos (starEach (e :: es) X.env)) (backToKw pos (keywordEach [] X.env))) := by rfl) :
    PE X (.Call (.Attribute o m apos) (e :: es) [] pos) (tMeth C m sp [] E ta t) := by
  obtain ⟨f, fd, _, hm, hb, F⟩ := F
  refine ⟨fun pins s σ H Q I h => ?_⟩
  refine PySem.W.methodCall_KW (pl := pl) (thn (he.run pins s σ H _ I h) fun u s1 ⟨x, H1, I1, rx, a, dx, fs, ex, ea, l, q⟩ => ?_) ht
  subst ex
  obtain rfl : u = Value.ref a := rx
  refine getmeth_ok I1 ea c hm l ?_
  refine PySem.W.callWith_K (first := [.ref a]) (h₀ := X.base) I.ok.mod.kin hm.kp (thn (ha.run pos pins s1 σ H1 _ I1 q) fun us s2 ⟨vs, H2, I2, r, q2⟩ => ⟨I2.kIn, ?_⟩) hst hpl
  have q2 : sp (.ref a :: (vs ++ [])) H2 Q E := q2
  rw [List.append_nil] at q2
  exact runG (us := .ref a :: us) (vs := .ref a :: vs) F hr hb hx I2 (.cons rfl r) q2
theorem pe_m0 {pl : Sem Bool} (F : HasM X.prog X.w X.K X.mg X.base CX C m ps k sp) (c : Cls X.K C) (hr : RoomG k X.A) (hx : Passes CX X E) (he : PE X o ta)
    (ht : eval (.Call (.Attribute o m apos) [] [] pos) X.env = (do
      let ov ← eval o X.env
      standAt apos.atName
      let (f, first) ← holding [ov] (getMethod ov m pl)
      callWith pos f first (backTo pos (starEach [] X.env)) (backToKw pos (keywordEach [] X.env))) := by rfl) :
    PE X (.Call (.Attribute o m apos) [] [] pos) (tMeth C m sp [] E ta tNil) := by
  obtain ⟨f, fd, _, hm, hb, F⟩ := F
  refine ⟨fun pins s σ H Q I h => ?_⟩
  refine PySem.W.methodCall_KW (pl := pl) (thn (he.run pins s σ H _ I h) fun u s1 ⟨x, H1, I1, rx, a, dx, fs, ex, ea, l, q⟩ => ?_) ht
  subst ex
  obtain rfl : u = Value.ref a := rx
  refine getmeth_ok I1 ea c hm l ?_
  exact PySem.W.callWith_K0 (first := [.ref a]) I1.kIn hm.kp (runG (us := [.ref a]) (vs := [.ref a]) F hr hb hx I1 (.cons rfl .nil) q)
theorem runMake {f : Addr} {fd : FuncData} {pins : List (Addr × Obj)} {σ : L2.St} {H : Hp} {s : Shared} {Q : VK} {us : List Value} {vs : List V} (M : Mk X.K C f) (F : FnG X.prog X.w X.K X.mg X.base CX k f fd ps sp) (hr : RoomG (k + 1) X.A) (hb : Binds X.K fd ps [])
    (hx : Passes CX X E) (I : Inv X pins σ H s) (r : Vals vs us)
    (h : ∀ x dx, H x = none → H dx = none → dx ≠ x → sp (.ref x :: vs) (upd (upd H dx (.own x)) x (.ins C dx [])) (fun v H2 => v = .non ∧ Q (.ref x) H2) E) :
    wpAny (model X.prog X.w) X.A (call (.ref C) us) (EP X pins σ Q) X.xe s := by
  have hq := h (s.heap.objs.size + 1) s.heap.objs.size (I.hok.fresh (Nat.le_succ _)) (I.hok.fresh (Nat.le_refl _)) (Nat.ne_of_lt (Nat.lt_succ_self _))
  have I2 := Inv.made (C := C) I
  have r2 : Vals (V.ref (s.heap.objs.size + 1) :: vs) (Value.ref (s.heap.objs.size + 1) :: us) := .cons rfl r
  have hl : (Value.ref (s.heap.objs.size + 1) :: us ++ []).length = ps.length := by
    have e := r2.length
    rw [F.len _ _ _ _ hq] at e
    rw [List.append_nil]
    exact e.symm
  have bb := hb _ (Value.ref (s.heap.objs.size + 1) :: us) I2.kIn hl
  rw [List.append_nil] at bb
  refine wpAny_call (make_map (f := f) I.kIn M.makes M.init (beq_iff_eq.mp M.fn) (codeAny_mono (F.run _ X.stack _ _ ⟨Value.ref (s.heap.objs.size + 1) :: us, []⟩ (Value.ref (s.heap.objs.size + 1) :: us) _ _ E (hr.make C us [])
    (I2.env0.make C us []) bb r2 hq) fun r s' hq' => ?_))
  cases r with
  | error e => exact hx pins σ _ _ e s' I2 hq'
  | ok fl =>
    cases fl with
    | ret u =>
      obtain ⟨v, H', I3, rv, ev, q3⟩ := I2.after hq'
      subst ev
      exact ⟨rv, ⟨V.ref (s.heap.objs.size + 1), H', I3, rfl, q3⟩⟩
    | next => exact False.elim hq'
    | brk => exact False.elim hq'
    | cont => exact False.elim hq'
/-- a class of the top and its __init__ -/
def HasC (P : Program) (w : World) (K : PySem.W.Frag) (mg : Str → Option Value) (base : Heap) (CX : CXT) (x : Str) (C : Addr) (ps : List Str) (k : Nat) (sp : Sp) : Prop :=
  ∃ (f : Addr) (fd : FuncData), Mk K C f ∧ mg x = some (.ref C) ∧ Binds K fd ps [] ∧ FnG P w K mg base CX k f fd ps sp
theorem pe_new (F : HasC X.prog X.w X.K X.mg X.base CX x C ps k sp) (hr : RoomG (k + 1) X.A) (hg : Gl X x) (hx : Passes CX X E)
    (ha : PA X (e :: es) t) (hdb : (x == ("__debug__" : Str)) = false := by decide) (he : starEach (e :: es) X.env = (false, eval e X.env) :: starEach es X.env := by rfl) (hpl : (backTo pos (starEach es X.env)).any (·.1) = false := by rfl) :
    PE X (.Call (.Name x p) (e :: es) [] pos) (tMake C sp [] E t) := by
  obtain ⟨f, fd, M, hm, hb, F⟩ := F
  refine ⟨fun pins s σ H Q I h => ?_⟩
  refine wpAny_Call_Name_kw (ld_glob I hg hm ?_ hdb)
  refine PySem.W.callWith_K (h₀ := X.base) I.ok.mod.kin M.kp (thn (ha.run pos pins s σ H _ I h) fun us s1 ⟨vs, H1, I1, r, q⟩ => ⟨I1.kIn, ?_⟩) he hpl
  refine runMake M F hr hb hx I1 r fun x dx a b c => ?_
  have z : sp (.ref x :: (vs ++ [])) _ _ _ := q x dx a b c
  rw [List.append_nil] at z
  exact z
end
end Aw

/-! dicts: walked, copied, listed; fields, methods: readings -/
namespace Aw
open PySem PySem.Spec L2

section
variable {σ : L2.St} {H : Hp} {D : Ends} {Q : VK} {v x y : V} {te td ty tv ta : TE} {tt : TT} {ts : TA} {g : TG} {tb : TS} {vs : List Nat} {K : PySem.W.Frag}
/-! ### fields, methods, makers -/
def FldQ (K : PySem.W.Frag) (f : Str) (Q : VK) : V → Hp → Prop := fun x H1 => ∃ a C dx fs v, x = .ref a ∧ H1 a = some (.ins C dx fs) ∧ Cls K C ∧ NoAttr K C f ∧ fs.lookup f = some v ∧ Q v H1
theorem r_fld {f : Str} (h : ta σ H (FldQ K f Q)) : tFld K ta f σ H Q := h
theorem r_Fld {f : Str} {a C dx : Addr} {fs : List (Str × V)} (e : H a = some (.ins C dx fs)) (c : Cls K C) (n : NoAttr K C f) (l : fs.lookup f = some v) (q : Q v H) : FldQ K f Q (.ref a) H := ⟨a, C, dx, fs, v, rfl, e, c, n, l, q⟩
def SFldQ (K : PySem.W.Frag) (f : Str) (y : V) (D : Ends) (σ : L2.St) : V → Hp → Prop := fun x H2 => ∃ a C dx fs, x = .ref a ∧ H2 a = some (.ins C dx fs) ∧ Cls K C ∧ NoAttr K C f ∧ fs.length < 1000 ∧ D.nx σ (upd H2 a (.ins C dx (putF f y fs)))
theorem r_sfld {f : Str} (h : tv σ H fun y H1 => ta σ H1 (SFldQ K f y D σ)) : sFld K ta tv f D σ H := h
theorem r_SFld {f : Str} {a C dx : Addr} {fs : List (Str × V)} (e : H a = some (.ins C dx fs)) (c : Cls K C) (n : NoAttr K C f) (l : fs.length < 1000) (q : D.nx σ (upd H a (.ins C dx (putF f y fs)))) : SFldQ K f y D σ (.ref a) H := ⟨a, C, dx, fs, rfl, e, c, n, l, q⟩
def MethQ (C : Addr) (m : Str) (sp : Sp) (E : XK) (ts : TA) (σ : L2.St) (Q : VK) : V → Hp → Prop := fun x H1 => ∃ a dx fs, x = .ref a ∧ H1 a = some (.ins C dx fs) ∧ fs.lookup m = none ∧ ts σ H1 fun vs H2 => sp (x :: (vs ++ [])) H2 Q E
theorem r_meth {C : Addr} {m : Str} {sp : Sp} {E : XK} (h : ta σ H (MethQ C m sp E ts σ Q)) : tMeth C m sp [] E ta ts σ H Q := h
theorem r_Meth {C a dx : Addr} {m : Str} {sp : Sp} {E : XK} {fs : List (Str × V)} (e : H a = some (.ins C dx fs)) (l : fs.lookup m = none) (q : ts σ H fun vs H2 => sp (.ref a :: (vs ++ [])) H2 Q E) : MethQ C m sp E ts σ Q (.ref a) H := ⟨a, dx, fs, rfl, e, l, q⟩
theorem r_make {C : Addr} {sp : Sp} {E : XK} (h : ts σ H fun vs H1 => ∀ x dx, H1 x = none → H1 dx = none → dx ≠ x → sp (.ref x :: (vs ++ [])) (upd (upd H1 dx (.own x)) x (.ins C dx [])) (fun v H2 => v = .non ∧ Q (.ref x) H2) E) : tMake C sp [] E ts σ H Q := h
/-! ### dicts: get, put, in, pop, copied -/
def DPutQ (D : Ends) (σ : L2.St) (v : V) : V → V → Hp → Prop := fun x y H3 => ∃ a H4, x = .ref a ∧ DPut H3 a y v H4 ∧ D.nx σ H4
theorem r_dput (h : tv σ H fun v H1 => td σ H1 fun x H2 => ty σ H2 fun y H3 => DPutQ D σ v x y H3) : sDPut td ty tv D σ H := h
theorem r_DPut {a : Addr} {kvs : List (Key × V)} {k : Key} (e : H a = some (.dK kvs)) (l : kvs.length < sizeLine) (q : D.nx σ (upd H a (.dK (putK kvs k v)))) : DPutQ D σ v (.ref a) (kV k) H := ⟨a, _, rfl, DPut.k e l, q⟩
def DInQ (Q : VK) : V → V → Hp → Prop := fun y x H2 => ∃ a o, x = .ref a ∧ DGet H2 a y o ∧ Q (.bl o.isSome) H2
theorem r_din (h : ty σ H fun y H1 => td σ H1 fun x H2 => DInQ Q y x H2) : tDIn ty td σ H Q := h
theorem r_DIn {a : Addr} {kvs : List (Key × V)} {z : Str} (e : H a = some (.dK kvs)) (q : Q (.bl (valV kvs (Sum.inr z)).isSome) H) : DInQ Q (.str z) (.ref a) H := ⟨a, _, rfl, DGet.k (k := Sum.inr z) e, q⟩
def DG1 (a : Addr) (Q : VK) : V → Hp → Prop := fun y H2 => ∃ o, DGet H2 a y o ∧ Q (o.getD .non) H2
def DG1a (ty : TE) (σ : L2.St) (Q : VK) : V → Hp → Prop := fun x H1 => ∃ a, x = .ref a ∧ IsD H1 a ∧ ty σ H1 (DG1 a Q)
theorem r_dget1 (h : td σ H (DG1a ty σ Q)) : tDGet1 td ty σ H Q := h
theorem r_DG1a {a : Addr} {kvs : List (Key × V)} (e : H a = some (.dK kvs)) (h : ty σ H (DG1 a Q)) : DG1a ty σ Q (.ref a) H := ⟨a, rfl, .inl ⟨kvs, .inl e⟩, h⟩
theorem r_DG1 {a : Addr} {kvs : List (Key × V)} {z : Str} (e : H a = some (.dK kvs)) (q : Q ((valV kvs (Sum.inr z)).getD .non) H) : DG1 a Q (.str z) H := ⟨_, DGet.k (k := Sum.inr z) e, q⟩
theorem r_DG2i {a : Addr} {kvs : List (Key × V)} {z : V} {i : Int} (e : H a = some (.dK kvs)) (q : Q ((valV kvs (Sum.inl i)).getD z) H) : DG2 a Q (.int i) z H := ⟨_, DGet.k (k := Sum.inl i) e, q⟩
def DPop1Q (a : Addr) (Q : VK) : V → Hp → Prop := fun y H2 => ∃ kvs k v, H2 a = some (.dK kvs) ∧ y = kV k ∧ valV kvs k = some v ∧ Q v (upd H2 a (.dK (dropK kvs k)))
def DPop1a (ty : TE) (σ : L2.St) (Q : VK) : V → Hp → Prop := fun x H1 => ∃ a, x = .ref a ∧ IsD H1 a ∧ ty σ H1 (DPop1Q a Q)
theorem r_dpop1 (h : td σ H (DPop1a ty σ Q)) : tDPop1 td ty σ H Q := h
theorem r_DPop1a {a : Addr} {kvs : List (Key × V)} (e : H a = some (.dK kvs)) (h : ty σ H (DPop1Q a Q)) : DPop1a ty σ Q (.ref a) H := ⟨a, rfl, .inl ⟨kvs, .inl e⟩, h⟩
theorem r_DPop1 {a : Addr} {kvs : List (Key × V)} {z : Str} (e : H a = some (.dK kvs)) (l : valV kvs (Sum.inr z) = some v) (q : Q v (upd H a (.dK (dropK kvs (Sum.inr z))))) : DPop1Q a Q (.str z) H := ⟨kvs, Sum.inr z, v, e, rfl, l, q⟩
def qDict : List V → Hp → VK → Prop := fun xs H Q => ∃ (a : Addr) (kvs : List (Key × V)), xs = [.ref a] ∧ Rd H a (.dK kvs) ∧ ∀ p, H p = none → Q (.ref p) (upd H p (.dK kvs))
theorem c_dict {X : Cx} : CallR X (.type "dict") qDict := call_dictD
theorem r_dict {a : Addr} {kvs : List (Key × V)} (e : H a = some (.dK kvs)) (h : ∀ p, H p = none → Q (.ref p) (upd H p (.dK kvs))) : qDict [.ref a] H Q := ⟨a, kvs, rfl, .inl e, h⟩
/-- {k: v} -/
theorem r_disp1 {tk tw : TE} (h : ∀ p, H p = none → tk σ (upd H p (.dK [])) fun y H1 => tw σ H1 fun z H2 => H2 p = some (.dK []) ∧ ∃ k : Key, y = kV k ∧ Q (.ref p) (upd H2 p (.dK [(k, z)]))) : tDisp [(tk, tw)] σ H Q := by
  intro p hp
  refine r_pcons ?_
  have q := h p hp
  exact cast (by rfl) (show tk σ (upd H p (.dK [])) fun y H1 => tw σ H1 fun z H2 => tPairs [] σ H2 fun ps H3 => H3 p = some (.dK []) ∧ ∃ kvs : List (Key × V), (y, z) :: ps = kvs.map (fun kv => (kV kv.1, kv.2)) ∧ kvs.length ≤ 15 ∧ Q (.ref p) (upd H3 p (.dK (mergeK [] kvs))) from by
    refine cast ?_ q
    congr 1
    funext y H1
    congr 1
    funext z H2
    refine propext ⟨fun ⟨e, k, ek, q⟩ => r_pnil ⟨e, [(k, z)], by rw [ek]; rfl, by simp, q⟩, fun ⟨e, kvs, ek, _, q⟩ => ⟨e, ?_⟩⟩
    match kvs, ek with
    | [kv], ek =>
      simp only [List.map_cons, List.map_nil, List.cons.injEq, Prod.mk.injEq, and_true] at ek
      obtain ⟨e1, e2⟩ := ek
      subst e2
      exact ⟨kv.1, e1, q⟩)
/-! ### a dict is walked -/
def ForK (g : TG) (tb : TS) (D : Ends) (σ : L2.St) : V → Hp → Prop := fun x H1 => ∃ d o, x = .ref d ∧ ((∃ kvs, H1 d = some (.frz o (.dK kvs)) ∧ Turns (Itk d o kvs) g tb D σ H1) ∨ ∃ kvs, H1 d = some (.frz o (.dT kvs)) ∧ Turns (Itkt d o kvs) g tb D σ H1)
theorem r_forK (h : te σ H (ForK g tb D σ)) : tFor (iKeys te) g tb D σ H := h
theorem r_ForK {d : Addr} {o : Obj} {kvs : List (Key × V)} (s : H d = some (.frz o (.dK kvs))) (R : Nat → L2.St → Hp → Prop) (h0 : R 0 σ H) (hl : ∀ i σ H, R i σ H → H d = some (.frz o (.dK kvs)))
    (hs : ∀ (i : Nat) k v σ H, kvs[i]? = some (k, v) → R i σ H → g (kV k) σ H fun σ2 H2 => tb { D with nx := R (i + 1), ct := R (i + 1), bk := D.nx } σ2 H2) (hd : ∀ σ H, R kvs.length σ H → D.nx σ H) :
    ForK g tb D σ (.ref d) H := by
  refine ⟨d, o, rfl, .inl ⟨kvs, s, fun i m σ H => i + m = kvs.length ∧ R i σ H, ⟨kvs.length, by omega, h0⟩, fun i m σ H ⟨e, r⟩ => ?_⟩⟩
  have sl := hl i σ H r
  by_cases hi : i < kvs.length
  · refine .inr ⟨⟨sl, hi⟩, R (i + 1), fun σ' H' r' => ⟨m - 1, by omega, by omega, r'⟩, fun v H' hy => ?_⟩
    obtain ⟨rfl, k, u, hk, rfl⟩ := hy
    exact hs i k u σ _ hk r
  · refine .inl ⟨⟨sl, by omega⟩, hd σ H ?_⟩
    have e2 : i = kvs.length := by omega
    rw [← e2]
    exact r
def LcV (g : TG) (tt : TT) (te : TE) (vs : List Nat) (σ : L2.St) (Q : VK) : V → Hp → Prop := fun x H1 => ∃ d o kvs, x = .ref d ∧ H1 d = some (.frz o (.dK kvs)) ∧ LcTurns (Itd d o kvs) g tt te vs σ Q H1
theorem r_lcV {ti : TE} (h : ti σ H (LcV g tt te vs σ Q)) : tLc (iVals ti) g tt te vs σ H Q := h
/-- the values of a dict of ints that are f -/
theorem r_LcVf {d : Addr} {o : Obj} {kvs : List (Key × V)} {ms : List Int} {f : Int → Bool} {i : Nat} (s : H d = some (.frz o (.dK kvs))) (hm : kvs.map (·.2) = ms.map V.int) (hz : ms.length ≤ 16777216)
    (ht : ∀ (c : Int) (H' : Hp) (R : Bool → Hp → Prop), R (f c) H' → tt ((wipe σ vs).set i (some (.int c))) H' R) (he : ∀ (c : Int) (H' : Hp) (R : VK), R (.int c) H' → te ((wipe σ vs).set i (some (.int c))) H' R)
    (hw : ∀ v : V, wipe ((wipe σ vs).set i (some v)) vs = wipe σ vs) (h : ∀ p, H p = none → Q (.ref p) (upd H p (.lst ((ms.filter f).map V.int)))) : LcV (gName i) tt te vs σ Q (.ref d) H := by
  refine ⟨d, o, kvs, rfl, s, fun p hp => ?_⟩
  have hdp : d ≠ p := ne_of_none s hp
  have hlen : kvs.length = ms.length := by have := congrArg List.length hm; simpa using this
  refine ⟨fun n m H' => n + m = kvs.length ∧ H' = upd H p (.lst (((ms.take n).filter f).map V.int)), ⟨kvs.length, by omega, rfl⟩, fun n m H' ⟨e, e2⟩ => ?_⟩
  subst e2
  have sl : upd H p (.lst (((ms.take n).filter f).map V.int)) d = some (.frz o (.dK kvs)) := by rw [upd_ne hdp]; exact s
  by_cases hi : n < kvs.length
  · refine .inr ⟨⟨sl, hi⟩, fun H' => H' = upd H p (.lst (((ms.take (n + 1)).filter f).map V.int)), fun H' e' => ⟨m - 1, by omega, by omega, e'⟩, fun v H' hy => ?_⟩
    obtain ⟨rfl, k, hk⟩ := hy
    have hnm : n < ms.length := by omega
    obtain ⟨c, hc⟩ : ∃ c, ms[n]? = some c := ⟨ms[n], List.getElem?_eq_getElem hnm⟩
    have hv : v = .int c := by
      have q : (kvs.map (·.2))[n]? = some v := by rw [List.getElem?_map, hk]; rfl
      rw [hm, List.getElem?_map, hc] at q
      exact (Option.some.inj q).symm
    subst hv
    refine r_name (r_LcTurn (hw _) (ht c _ _ ?_))
    have htk : ms.take (n + 1) = ms.take n ++ [c] := by rw [List.take_add_one, hc]; rfl
    cases hf : f c with
    | true =>
      refine ifT (he c _ _ (r_LcEnd upd_same ?_ ?_))
      · rw [List.length_map, sizeLine_eq]
        have a := List.length_filter_le f (ms.take n)
        rw [List.length_take] at a
        omega
      · show _ = upd H p (.lst (((ms.take (n + 1)).filter f).map V.int))
        rw [htk, List.filter_append, List.filter_cons_of_pos (by exact hf), List.filter_nil, List.map_append, upd_upd]
        rfl
    | false =>
      refine ifF ?_
      show _ = upd H p (.lst (((ms.take (n + 1)).filter f).map V.int))
      rw [htk, List.filter_append, List.filter_cons_of_neg (by rw [hf]; exact Bool.false_ne_true), List.filter_nil, List.append_nil]
  · refine .inl ⟨⟨sl, by omega⟩, ?_⟩
    have e2 : n = ms.length := by omega
    rw [e2, List.take_length]
    exact h p hp
/-! ### locks -/
theorem r_lock {t : TS} {d : Addr} {u : HO} (e : H d = some u) (m : L2.Mut (some u)) (h : ∀ od, t ⟨fun σ' H' => H' d = some (.frz od u) ∧ D.nx σ' (upd H' d u), fun v H' => H' d = some (.frz od u) ∧ D.rt v (upd H' d u), fun σ' H' => H' d = some (.frz od u) ∧ D.bk σ' (upd H' d u), fun σ' H' => H' d = some (.frz od u) ∧ D.ct σ' (upd H' d u)⟩ σ (upd H d (.frz od u))) :
    tLock t D σ H := ⟨d, u, e, m, h⟩
theorem r_lockE {t : TE} {d : Addr} {u : HO} (e : H d = some u) (m : L2.Mut (some u)) (h : ∀ od, t σ (upd H d (.frz od u)) fun v H' => H' d = some (.frz od u) ∧ Q v (upd H' d u)) : tLockE t σ H Q := ⟨d, u, e, m, h⟩
theorem Kp.unlock {M : List Addr} {H' : Hp} {d : Addr} {u : HO} {od : Obj} (k : Kp M (upd H d (.frz od u)) H') (e : H d = some u) (n : d ∉ M) : Kp M H (upd H' d u) := fun b o eb => by
  by_cases hb : b = d
  · subst hb
    rw [e] at eb
    cases eb
    exact ⟨fun m => absurd m n, fun _ => upd_same⟩
  · have q := k b o (by rw [upd_ne hb]; exact eb)
    exact ⟨q.1, fun m => by rw [upd_ne hb]; exact q.2 m⟩
/-! ### zip of tuples, of lists -/
end
/-! ### list(d.values()) -/
def tListVals (te : TE) : TE := fun σ H Q => te σ H fun x H1 => ∃ (d : Addr) (kvs : List (Key × V)), x = .ref d ∧ H1 d = some (.dK kvs) ∧ ∀ p, H1 p = none → Q (.ref p) (upd H1 p (.lst (kvs.map (·.2))))
theorem kv_vals : ∀ {kvs : List (Key × V)} {vs : List (Key × Value)}, KV kvs vs → Vals (kvs.map (·.2)) (vs.map (·.2))
  | _, _, .nil => .nil
  | _, _, .cons h t => .cons h.2 (kv_vals t)
theorem pe_listVals {X : Cx} {e : Expr} {te : TE} {p apos cpos pos : Pos} (hc : X.calm = true) (he : PE X e te) (hg : Gl X "list") (hm : X.mg "list" = none) (hv : bootBuiltins "list" = some (.type "list")) (hbase : attributeBase e "values" X.env (eval e X.env) = eval e X.env := by rfl) (hline : (apos.endLine == cpos.line) = true := by rfl)
    (hs : starEach [.Call (.Attribute e "values" apos) [] [] cpos] X.env = (false, eval (.Call (.Attribute e "values" apos) [] [] cpos) X.env) :: starEach [] X.env := by rfl) :
    PE X (.Call (.Name "list" p) [.Call (.Attribute e "values" apos) [] [] cpos] [] pos) (tListVals te) := by
  refine ⟨fun pins s σ H Q I hq => ?_⟩
  refine wpAny_Call_Name_kw (ld_blt I hg hm hv ?_)
  refine PyProof.Rows.callWith_type1 ?_ hs rfl
  rw [hs]
  show wpAny _ _ (spliced ((false, eval (.Call (.Attribute e "values" apos) [] [] cpos) X.env) :: backTo pos (starEach [] X.env))) _ _ s
  refine Calls.spliced_cons ?_
  refine wpAny_Call_method (T := "dict") (id := "dict.values") hbase rfl hline F.plainAttrs_dict F.slot_dict_values F.type_dict_values (thn (he.run pins s σ H _ I hq) fun u s1 ⟨x, H1, I1, rx, d, kvs, ex, hd, q⟩ => ?_)
  subst ex
  obtain rfl : u = Value.ref d := rx
  obtain ⟨hz, hs0, vs, kv, hdo⟩ := I1.hok d _ hd
  obtain ⟨ep, hat⟩ := hdo.dictAt
  have lk : kvs.length = vs.length := Paired.length kv
  have I2 : Inv X pins σ H1 { s1 with heap := s1.heap.push { cls := .type "dict_values", data := .fields #[.ref d] } } := I1.kept (t' := s1.toks) fun b ob q => Heap.get?_push_of_some _ q
  refine ⟨hdo.typeIs, hdo.mapOf.noDict, ?_⟩
  show wpAny _ _ (callWith cpos (.builtin "dict.values") [.ref d] [] []) _ X.xe s1
  refine method_meetsIn F.slot_dict_values F.entry_dict_values rfl (PySem.evalArgs_none ⟨rfl, hdo.typeIs, F.args_dict_values_1 _, _, meets_dict_values (mixKind X.prog X.w) d hs0, ⟨vs, hdo⟩, ?_⟩)
  refine Calls.spliced_nil ?_
  refine PySem.W.kdl_call (PySem.W.kdl_values (knd := mixKind X.prog X.w) (kvs := vs) (ep := ep)) (I1.ok.hd hc) ⟨⟨_, Heap.get?_push_size _ rfl, rfl, rfl⟩, hat.push _⟩ (by omega) fun h' tk acc c hk hS hacc => ?_
  have hn := I2.hok.fresh (Nat.le_refl _)
  refine ⟨.ref _, _, I2.laid (t' := tk) (o := .lst (kvs.map (·.2))) hk (Nat.le_refl _) ?_, rfl, q _ hn⟩
  refine ⟨by rw [List.length_map]; omega, acc.toList, c, ?_, ?_⟩
  · have e2 : acc.toList = vs.map (·.2) := PySem.W.kdl_vals_eq acc.toList (by rw [Array.length_toList]; exact hacc.1) fun j v e => hacc.2 j v (by rw [← Array.getElem?_toList]; exact e)
    rw [e2]
    exact kv_vals kv
  · rw [Array.toArray_toList]
    exact hS
def ListValsQ (Q : VK) : V → Hp → Prop := fun x H1 => ∃ (d : Addr) (kvs : List (Key × V)), x = .ref d ∧ H1 d = some (.dK kvs) ∧ ∀ p, H1 p = none → Q (.ref p) (upd H1 p (.lst (kvs.map (·.2))))
theorem r_listVals {te : TE} {σ : L2.St} {H : Hp} {Q : VK} (h : te σ H (ListValsQ Q)) : tListVals te σ H Q := h
theorem r_ListVals {H : Hp} {Q : VK} {d : Addr} {kvs : List (Key × V)} (e : H d = some (.dK kvs)) (h : ∀ p, H p = none → Q (.ref p) (upd H p (.lst (kvs.map (·.2))))) : ListValsQ Q (.ref d) H := ⟨d, kvs, rfl, e, h⟩
def ListItemsQ (Q : VK) : V → Hp → Prop := fun x H1 => LiI.rItemsL x H1 Q
theorem r_listItems {te : TE} {σ : L2.St} {H : Hp} {Q : VK} (h : te σ H (ListItemsQ Q)) : LiI.tListItems te σ H Q := h
theorem r_ListItems {H : Hp} {Q : VK} {d : Addr} {kvs : List (Key × V)} (e : H d = some (.dK kvs)) (h : ∀ (H' : Hp) (p : Addr) (ts : List Addr), Kp [] H H' → H p = none → H' p = some (.lst (ts.map V.ref)) →
    Paired (fun (t : Addr) (q : Key × V) => H' t = some (.tup [kV q.1, q.2])) ts kvs → Q (.ref p) H') : ListItemsQ Q (.ref d) H :=
  ⟨d, kvs, rfl, e, fun H' p ts k hp _ _ h1 h2 => h H' p ts (Kp.of k) hp h1 h2⟩
/-- what was made behind the beginning may have been written -/
theorem Kp.outs {N M : List Addr} {H H1 H2 : Hp} (k1 : Kp N H H1) (hM : ∀ b ∈ M, H b = none ∨ b ∈ N) (k2 : Kp M H1 H2) : Kp N H H2 := by
  intro c o ec
  refine ⟨(k1 c o ec).1, fun n => (k2 c o ((k1 c o ec).2 n)).2 fun m => ?_⟩
  rcases hM c m with z | z
  · rw [z] at ec
    cases ec
  · exact n z
theorem Kp.own1 {H H1 H2 : Hp} {p : Addr} (k1 : Kp [] H H1) (hp : H p = none) (k2 : Kp [p] H1 H2) : Kp [] H H2 := k1.outs (fun b m => .inl (by rw [List.mem_singleton.mp m]; exact hp)) k2
/-! ### within comprehensions -/
theorem cr_sumK {X : Cx} {K : PySem.W.Frag} (h : X.K = K) (hc : X.calm = true) : CallR X (.builtin "sum") (rSum K) := by
  subst h
  exact cr_sum hc
theorem pi_tupK {X : Cx} {K : PySem.W.Frag} {tg l : Expr} {tl : TE} (h : X.K = K) (hl : PE X l tl) : PI X tg l (iTup K tl) := by
  subst h
  exact pi_tup hl
theorem pi_listK {X : Cx} {K : PySem.W.Frag} {tg l : Expr} {tl : TE} (h : X.K = K) (hl : PE X l tl) : PI X tg l (iList K tl) := by
  subst h
  exact pi_list hl
theorem pe_fldK {X : Cx} {K : PySem.W.Frag} {e : Expr} {f : Str} {pos : Pos} {ta : TE} (h : X.K = K) (he : PE X e ta) (hb : attributeBase e f X.env (eval e X.env) = eval e X.env) : PE X (.Attribute e f pos) (tFld K ta f) := by
  subst h
  exact pe_fld he hb
theorem c_is2K {X : Cx} {K : PySem.W.Frag} (h : X.K = K) : CallR X (.builtin "isinstance") (qIs2 K) := by
  subst h
  exact c_is2
theorem c_lenK {X : Cx} {K : PySem.W.Frag} (h : X.K = K) : CallR X (.builtin "len") (qLen K) := by
  subst h
  exact c_len
theorem kpW2 {H : Hp} {a : Addr} {u o : HO} (h : H a = some u) (m : Mut u) : Kp [a] H (upd H a o) := (Kp.reflM (Ms.cons h m Ms.nil)).write (by simp)
end Aw

/-! k01: programs as trees, their texts, the promises -/
namespace Aw
open PySem PySem.Spec L2

/-! ### expressions -/
inductive Ex where
  | int (i : Int)
  | name (x : Str)
  | bin (o : Str) (a b : Ex)
def opSign (o : Str) : Str := if o = "plus" then " + " else if o = "minus" then " - " else " * "
def Ex.d : Ex → PyData
  | .int i => .int i
  | .name x => .str x
  | .bin o a b => .tuple [.str o, a.d, b.d]
def Ex.text : Ex → Str
  | .int i => Str.ofString (toString i)
  | .name x => x
  | .bin o a b => "(" ++ a.text ++ opSign o ++ b.text ++ ")"
def IsOp (o : Str) : Prop := o = "plus" ∨ o = "minus" ∨ o = "times"
def Ex.ok : Nat → Ex → Prop
  | 0, _ => False
  | _ + 1, .int i => -99 ≤ i ∧ i ≤ 99
  | _ + 1, .name x => Sok x 8
  | n + 1, .bin o a b => IsOp o ∧ a.ok n ∧ b.ok n
theorem Ex.ok.succ : ∀ {n : Nat} {e : Ex}, e.ok n → e.ok (n + 1)
  | 0, _, h => h.elim
  | _ + 1, .int _, h => h
  | _ + 1, .name _, h => h
  | _ + 1, .bin _ _ _, h => ⟨h.1, h.2.1.succ, h.2.2.succ⟩
theorem Ex.ok.mono {m n : Nat} {e : Ex} (h : e.ok m) (q : m ≤ n) : e.ok n := by
  induction q with
  | refl => exact h
  | step _ ih => exact ih.succ
theorem opSign_ok {o : Str} (h : IsOp o) : Sok (opSign o) 3 := by
  rcases h with rfl | rfl | rfl <;> exact Sok.lit (by decide +kernel)
theorem IsOp.sok {o : Str} (h : IsOp o) : Sok o 5 := by
  rcases h with rfl | rfl | rfl <;> exact Sok.lit (by decide +kernel)
def eLen : Nat → Nat
  | 0 => 0
  | n + 1 => 2 * eLen n + 8
theorem Ex.ok.sok : ∀ {n : Nat} {e : Ex}, e.ok n → Sok e.text (eLen n)
  | 0, _, h => h.elim
  | n + 1, .int i, h => (Sok.num i h.1 h.2).mono (by unfold eLen; omega)
  | n + 1, .name x, h => Sok.mono h (by unfold eLen; omega)
  | n + 1, .bin o a b, h => by
    have h1 := h.2.1.sok
    have h2 := h.2.2.sok
    have l : Sok ("(" : Str) 1 := Sok.lit (by decide +kernel)
    have r : Sok (")" : Str) 1 := Sok.lit (by decide +kernel)
    exact ((((l.app h1).app (opSign_ok h.1)).app h2).app r).mono (by show 1 + eLen n + 3 + eLen n + 1 ≤ 2 * eLen n + 8; omega)

/-! ### tests -/
inductive Ts where
  | not (t : Ts)
  | given (x : Str)
  | rest (e : Ex) (b r : Int)
  | less (a b : Ex)
def Ts.d : Ts → PyData
  | .not t => .tuple [.str "not", t.d]
  | .given x => .tuple [.str "given", .str x]
  | .rest e b r => .tuple [.str "rest", e.d, .int b, .int r]
  | .less a b => .tuple [.str "less", a.d, b.d]
def numT (i : Int) : Str := Str.ofString (toString i)
def Ts.text : Ts → Str
  | .not t => "not " ++ t.text
  | .given x => "set " ++ x
  | .rest e b r => "rest " ++ numT r ++ " of " ++ numT b ++ " " ++ e.text
  | .less a b => a.text ++ " < " ++ b.text
def Ts.ok : Nat → Ts → Prop
  | 0, .not _ => False
  | n + 1, .not t => t.ok n
  | _, .given x => Sok x 8
  | _, .rest e b r => e.ok 3 ∧ 0 ≤ b ∧ b ≤ 99 ∧ 0 ≤ r ∧ r ≤ 99
  | _, .less a b => a.ok 3 ∧ b.ok 3
theorem Ts.ok.sok : ∀ {n : Nat} {t : Ts}, t.ok n → Sok t.text (4 * n + 200)
  | n + 1, .not t, h => by
    have q := Ts.ok.sok (n := n) (t := t) h
    have l : Sok ("not " : Str) 4 := Sok.lit (by decide +kernel)
    exact (l.app q).mono (by omega)
  | n, .given x, h => by
    have q : Sok x 8 := by cases n <;> exact h
    have l : Sok ("set " : Str) 4 := Sok.lit (by decide +kernel)
    exact (l.app q).mono (by omega)
  | n, .rest e b r, h => by
    have q : e.ok 3 ∧ 0 ≤ b ∧ b ≤ 99 ∧ 0 ≤ r ∧ r ≤ 99 := by cases n <;> exact h
    obtain ⟨q, b0, b1, r0, r1⟩ := q
    have l : Sok ("rest " : Str) 5 := Sok.lit (by decide +kernel)
    have m : Sok (" of " : Str) 4 := Sok.lit (by decide +kernel)
    have s : Sok (" " : Str) 1 := Sok.lit (by decide +kernel)
    exact (((((l.app (Sok.num r (by omega) r1)).app m).app (Sok.num b (by omega) b1)).app s).app q.sok).mono (by show 5 + 3 + 4 + 3 + 1 + 56 ≤ _; omega)
  | n, .less a b, h => by
    have q : a.ok 3 ∧ b.ok 3 := by cases n <;> exact h
    have m : Sok (" < " : Str) 3 := Sok.lit (by decide +kernel)
    exact ((q.1.sok.app m).app q.2.sok).mono (by show 56 + 3 + 56 ≤ _; omega)

/-! ### statements -/
inductive Pl where
  | set (x : Str) (e : Ex)
  | unset (x : Str)
  | tell (e : Ex)
  | say (w : Str)
  | stop (w : Str)
def Pl.d : Pl → PyData
  | .set x e => .tuple [.str "set", .str x, e.d]
  | .unset x => .tuple [.str "unset", .str x]
  | .tell e => .tuple [.str "tell", e.d]
  | .say w => .tuple [.str "say", .str w]
  | .stop w => .tuple [.str "stop", .str w]
def Pl.text : Pl → Str
  | .set x e => "set " ++ x ++ " " ++ e.text
  | .unset x => "unset" ++ " " ++ x
  | .tell e => "tell " ++ e.text
  | .say w => "say" ++ " " ++ w
  | .stop w => "stop" ++ " " ++ w
def Pl.ok : Pl → Prop
  | .set x e => Sok x 8 ∧ e.ok 3
  | .unset x => Sok x 8
  | .tell e => e.ok 3
  | .say w => Sok w 8
  | .stop w => Sok w 8
theorem Pl.ok.sok {s : Pl} (h : s.ok) : Sok s.text 100 := by
  have sp : Sok (" " : Str) 1 := Sok.lit (by decide +kernel)
  cases s with
  | set x e =>
    have l : Sok ("set " : Str) 4 := Sok.lit (by decide +kernel)
    exact (((l.app h.1).app sp).app h.2.sok).mono (by show 4 + 8 + 1 + 56 ≤ _; omega)
  | unset x =>
    have l : Sok ("unset" : Str) 5 := Sok.lit (by decide +kernel)
    exact ((l.app sp).app h).mono (by omega)
  | tell e =>
    have l : Sok ("tell " : Str) 5 := Sok.lit (by decide +kernel)
    exact (l.app (Ex.ok.sok h)).mono (by show 5 + 56 ≤ _; omega)
  | say w =>
    have l : Sok ("say" : Str) 3 := Sok.lit (by decide +kernel)
    exact ((l.app sp).app h).mono (by omega)
  | stop w =>
    have l : Sok ("stop" : Str) 4 := Sok.lit (by decide +kernel)
    exact ((l.app sp).app h).mono (by omega)

inductive Sm where
  | pl (s : Pl)
  | ifs (t : Ts) (y n : List Sm)
  | rep (k : Int) (b : List Sm)
mutual
def Sm.d : Sm → PyData
  | .pl s => s.d
  | .ifs t y n => .tuple [.str "if", t.d, .tuple (Sm.ds y), .tuple (Sm.ds n)]
  | .rep k b => .tuple [.str "repeat", .int k, .tuple (Sm.ds b)]
def Sm.ds : List Sm → List PyData
  | [] => []
  | s :: r => s.d :: Sm.ds r
end
theorem Sm.ds_map : ∀ b : List Sm, Sm.ds b = b.map Sm.d
  | [] => rfl
  | s :: r => by rw [Sm.ds, Sm.ds_map r, List.map_cons]
def Sm.line : Sm → Str
  | .pl s => s.text
  | .ifs t _ _ => "if " ++ t.text
  | .rep k _ => "repeat" ++ " " ++ numT k
mutual
def Sm.lines (ah : Str) : Sm → List Str
  | .pl s => [ah ++ s.text]
  | .ifs t y n => (ah ++ ("if " ++ t.text)) :: ((if y.isEmpty then [ah ++ "  " ++ "pass"] else Sm.all (ah ++ "  ") y) ++
      (if n.isEmpty then [] else (ah ++ "else") :: Sm.all (ah ++ "  ") n))
  | .rep k b => (ah ++ ("repeat" ++ " " ++ numT k)) :: (if b.isEmpty then [ah ++ "  " ++ "pass"] else Sm.all (ah ++ "  ") b)
def Sm.all (ah : Str) : List Sm → List Str
  | [] => []
  | s :: r => Sm.lines ah s ++ Sm.all ah r
end
theorem Sm.all_flat (ah : Str) : ∀ b : List Sm, Sm.all ah b = b.flatMap (Sm.lines ah)
  | [] => by rw [Sm.all, List.flatMap_nil]
  | s :: r => by rw [Sm.all, Sm.all_flat ah r, List.flatMap_cons]
def Sm.part (ah : Str) (b : List Sm) : List Str := if b.isEmpty then [ah ++ "pass"] else Sm.all ah b
mutual
def Sm.size : Sm → Nat
  | .pl _ => 1
  | .ifs _ y n => 1 + Sm.sizes y + Sm.sizes n
  | .rep _ b => 1 + Sm.sizes b
def Sm.sizes : List Sm → Nat
  | [] => 0
  | s :: r => Sm.size s + Sm.sizes r
end
theorem Sm.sizes_app : ∀ a b : List Sm, Sm.sizes (a ++ b) = Sm.sizes a + Sm.sizes b
  | [], b => by rw [List.nil_append, Sm.sizes, Nat.zero_add]
  | s :: r, b => by rw [List.cons_append, Sm.sizes, Sm.sizes, Sm.sizes_app r b, Nat.add_assoc]
theorem Sm.size_pos (s : Sm) : 1 ≤ s.size := by cases s <;> (rw [Sm.size]; omega)
theorem Sm.sizes_mem {s : Sm} : ∀ {b : List Sm}, s ∈ b → s.size ≤ Sm.sizes b
  | _ :: r, .head _ => by rw [Sm.sizes]; omega
  | _ :: r, .tail _ h => by have := Sm.sizes_mem h; rw [Sm.sizes]; omega
def Sm.ok : Nat → Sm → Prop
  | _, .pl s => s.ok
  | 0, .ifs _ _ _ => False
  | 0, .rep _ _ => False
  | n + 1, .ifs t y z => t.ok 2 ∧ (∀ s ∈ y, Sm.ok n s) ∧ (∀ s ∈ z, Sm.ok n s)
  | n + 1, .rep k b => 0 ≤ k ∧ k ≤ 8 ∧ ∀ s ∈ b, Sm.ok n s
theorem Sm.ok.line {n : Nat} {s : Sm} (h : s.ok n) : Sok s.line 300 := by
  have sp : Sok (" " : Str) 1 := Sok.lit (by decide +kernel)
  cases s with
  | pl s =>
    have q : s.ok := by cases n <;> exact h
    exact q.sok.mono (by omega)
  | ifs t y z =>
    cases n with
    | zero => exact h.elim
    | succ n =>
      have l : Sok ("if " : Str) 3 := Sok.lit (by decide +kernel)
      exact (l.app h.1.sok).mono (by omega)
  | rep k b =>
    cases n with
    | zero => exact h.elim
    | succ n =>
      have l : Sok ("repeat" : Str) 6 := Sok.lit (by decide +kernel)
      exact ((l.app sp).app (Sok.num k (by have := h.1; omega) (by have := h.2.1; omega))).mono (by omega)

/-- the lines of a block: how many, how long -/
theorem Sm.lines_ok : ∀ (n : Nat) (s : Sm) (ah : Str) (m : Nat), s.ok n → Sok ah m →
    (Sm.lines ah s).length ≤ 3 * s.size ∧ ∀ z ∈ Sm.lines ah s, Sok z (m + 2 * n + 310) := by
  intro n
  induction n with
  | zero =>
    intro s ah m h ha
    cases s with
    | pl s =>
      rw [Sm.lines]
      refine ⟨by simp [Sm.size], fun z hz => ?_⟩
      rw [List.mem_singleton.mp hz]
      exact (ha.app (Sm.ok.line (n := 0) (s := .pl s) h)).mono (by omega)
    | ifs t y z => exact h.elim
    | rep k b => exact h.elim
  | succ n ih =>
    intro s ah m h ha
    have two : Sok ("  " : Str) 2 := Sok.lit (by decide +kernel)
    have ps : Sok ("pass" : Str) 4 := Sok.lit (by decide +kernel)
    have el : Sok ("else" : Str) 4 := Sok.lit (by decide +kernel)
    have hl := Sm.ok.line h
    have alls : ∀ b : List Sm, (∀ s ∈ b, Sm.ok n s) → (Sm.all (ah ++ "  ") b).length ≤ 3 * Sm.sizes b ∧
        ∀ z ∈ Sm.all (ah ++ "  ") b, Sok z (m + 2 * (n + 1) + 310) := by
      intro b
      induction b with
      | nil =>
        intro _
        rw [Sm.all]
        exact ⟨Nat.zero_le _, fun z hz => nomatch hz⟩
      | cons s r ihr =>
        intro hb
        obtain ⟨h1, h2⟩ := ih s (ah ++ "  ") (m + 2) (hb s (List.mem_cons_self ..)) (ha.app two)
        obtain ⟨h3, h4⟩ := ihr fun s hs => hb s (List.mem_cons_of_mem _ hs)
        rw [Sm.all, Sm.sizes, List.length_append]
        refine ⟨by omega, fun z hz => ?_⟩
        rcases List.mem_append.mp hz with hz | hz
        · exact (h2 z hz).mono (by omega)
        · exact h4 z hz
    have part : ∀ b : List Sm, (∀ s ∈ b, Sm.ok n s) → (if b.isEmpty then [ah ++ "  " ++ "pass"] else Sm.all (ah ++ "  ") b).length ≤ 3 * Sm.sizes b + 1 ∧
        ∀ z ∈ (if b.isEmpty then [ah ++ "  " ++ "pass"] else Sm.all (ah ++ "  ") b), Sok z (m + 2 * (n + 1) + 310) := by
      intro b hb
      cases b with
      | nil =>
        refine ⟨by simp, fun z hz => ?_⟩
        rw [List.mem_singleton.mp hz]
        exact ((ha.app two).app ps).mono (by omega)
      | cons s r =>
        obtain ⟨h1, h2⟩ := alls _ hb
        exact ⟨Nat.le_succ_of_le h1, h2⟩
    cases s with
    | pl s =>
      rw [Sm.lines]
      refine ⟨by simp [Sm.size], fun z hz => ?_⟩
      rw [List.mem_singleton.mp hz]
      exact (ha.app hl).mono (by omega)
    | ifs t y z =>
      obtain ⟨p1, p2⟩ := part y h.2.1
      obtain ⟨q1, q2⟩ := alls z h.2.2
      have e2 : (if z.isEmpty then [] else (ah ++ "else") :: Sm.all (ah ++ "  ") z).length ≤ 3 * Sm.sizes z + 1 := by
        split
        · exact Nat.zero_le _
        · rw [List.length_cons]
          omega
      rw [Sm.lines, Sm.size, List.length_cons, List.length_append]
      refine ⟨by omega, fun u hu => ?_⟩
      rcases List.mem_cons.mp hu with rfl | hu
      · exact (ha.app hl).mono (by omega)
      rcases List.mem_append.mp hu with hu | hu
      · exact p2 u hu
      · split at hu
        · cases hu
        · rcases List.mem_cons.mp hu with rfl | hu
          · exact (ha.app el).mono (by omega)
          · exact q2 u hu
    | rep k b =>
      obtain ⟨p1, p2⟩ := part b h.2.2
      rw [Sm.lines, Sm.size, List.length_cons]
      refine ⟨by omega, fun u hu => ?_⟩
      rcases List.mem_cons.mp hu with rfl | hu
      · exact (ha.app hl).mono (by omega)
      · exact p2 u hu
theorem Sm.all_ok (n : Nat) (ah : Str) (m : Nat) (ha : Sok ah m) : ∀ b : List Sm, (∀ s ∈ b, Sm.ok n s) →
    (Sm.all ah b).length ≤ 3 * Sm.sizes b ∧ ∀ z ∈ Sm.all ah b, Sok z (m + 2 * n + 310)
  | [], _ => by
    rw [Sm.all]
    exact ⟨Nat.zero_le _, fun z hz => nomatch hz⟩
  | s :: r, hb => by
    obtain ⟨h1, h2⟩ := Sm.lines_ok n s ah m (hb s (List.mem_cons_self ..)) ha
    obtain ⟨h3, h4⟩ := Sm.all_ok n ah m ha r fun s hs => hb s (List.mem_cons_of_mem _ hs)
    rw [Sm.all, Sm.sizes, List.length_append]
    refine ⟨by omega, fun z hz => ?_⟩
    rcases List.mem_append.mp hz with hz | hz
    · exact h2 z hz
    · exact h4 z hz
/-! ### what may be compared: data of bounded depth -/
theorem depth_tup {ds : List PyData} {n : Nat} (h : ∀ d ∈ ds, d.depth ≤ n) : (PyData.tuple ds).depth ≤ n + 1 := by
  have q : PyData.depthAll ds ≤ n := by
    induction ds with
    | nil => exact Nat.zero_le _
    | cons d r ih =>
      rw [PyData.depthAll]
      exact Nat.max_le.mpr ⟨h d (List.mem_cons_self ..), ih fun d hd => h d (List.mem_cons_of_mem _ hd)⟩
  rw [PyData.depth]
  omega
theorem lay_tup {ds : List PyData} (h : ∀ d ∈ ds, d.canLay0 = true) : (PyData.tuple ds).canLay0 = true := by
  rw [PyData.canLay0]
  induction ds with
  | nil => rfl
  | cons d r ih =>
    rw [PyData.canLayAll0, h d (List.mem_cons_self ..), ih fun d hd => h d (List.mem_cons_of_mem _ hd)]
    rfl
/-- data that may be compared -/
structure Cmp (d : PyData) (n : Nat) : Prop where
  lay : d.canLay0 = true
  dep : d.depth ≤ n
theorem Cmp.tup {ds : List PyData} {n : Nat} (h : ∀ d ∈ ds, Cmp d n) : Cmp (.tuple ds) (n + 1) :=
  ⟨lay_tup fun d hd => (h d hd).lay, depth_tup fun d hd => (h d hd).dep⟩
theorem Cmp.mono {d : PyData} {m n : Nat} (h : Cmp d m) (q : m ≤ n) : Cmp d n := ⟨h.lay, Nat.le_trans h.dep q⟩
theorem Cmp.str {x : Str} {k n : Nat} (h : Sok x k) : Cmp (.str x) n := ⟨by rw [PyData.canLay0]; exact h.ok, by rw [PyData.depth]; exact Nat.zero_le _⟩
theorem Cmp.int {i : Int} {n : Nat} : Cmp (.int i) n := ⟨by rw [PyData.canLay0], by rw [PyData.depth]; exact Nat.zero_le _⟩
theorem Cmp.shaped {d : PyData} {n : Nat} (h : Cmp d n) (q : n ≤ 64) : SeqAt.shaped d = true := by
  unfold SeqAt.shaped
  rw [h.lay, decide_eq_true (Nat.le_trans h.dep q)]
  rfl
theorem Cmp.nil {n : Nat} : Cmp (.tuple []) (n + 1) := Cmp.tup fun _ h => nomatch h
theorem Ex.ok.cmp : ∀ {n : Nat} {e : Ex}, e.ok n → Cmp e.d n
  | 0, _, h => h.elim
  | _ + 1, .int i, h => Cmp.int
  | _ + 1, .name x, h => Cmp.str h
  | n + 1, .bin o a b, h => by
    rw [Ex.d]
    refine Cmp.tup fun d hd => ?_
    simp only [List.mem_cons, List.not_mem_nil, or_false] at hd
    rcases hd with rfl | rfl | rfl
    · exact Cmp.str h.1.sok
    · exact h.2.1.cmp
    · exact h.2.2.cmp
theorem Ts.ok.cmp : ∀ {n : Nat} {t : Ts}, t.ok n → Cmp t.d (n + 4)
  | n + 1, .not t, h => by
    have q := Ts.ok.cmp (n := n) (t := t) h
    rw [Ts.d]
    refine Cmp.mono (m := n + 4 + 1) (Cmp.tup fun d hd => ?_) (by omega)
    simp only [List.mem_cons, List.not_mem_nil, or_false] at hd
    rcases hd with rfl | rfl
    · exact Cmp.str (k := 3) (Sok.lit (by decide +kernel))
    · exact q
  | n, .given x, h => by
    have q : Sok x 8 := by cases n <;> exact h
    rw [Ts.d]
    refine Cmp.mono (m := 0 + 1) (Cmp.tup fun d hd => ?_) (by omega)
    simp only [List.mem_cons, List.not_mem_nil, or_false] at hd
    rcases hd with rfl | rfl
    · exact Cmp.str (k := 5) (Sok.lit (by decide +kernel))
    · exact Cmp.str q
  | n, .rest e b r, h => by
    have q : e.ok 3 ∧ 0 ≤ b ∧ b ≤ 99 ∧ 0 ≤ r ∧ r ≤ 99 := by cases n <;> exact h
    rw [Ts.d]
    refine Cmp.mono (m := 3 + 1) (Cmp.tup fun d hd => ?_) (by omega)
    simp only [List.mem_cons, List.not_mem_nil, or_false] at hd
    rcases hd with rfl | rfl | rfl | rfl
    · exact Cmp.str (k := 4) (Sok.lit (by decide +kernel))
    · exact q.1.cmp
    · exact Cmp.int
    · exact Cmp.int
  | n, .less a b, h => by
    have q : a.ok 3 ∧ b.ok 3 := by cases n <;> exact h
    rw [Ts.d]
    refine Cmp.mono (m := 3 + 1) (Cmp.tup fun d hd => ?_) (by omega)
    simp only [List.mem_cons, List.not_mem_nil, or_false] at hd
    rcases hd with rfl | rfl | rfl
    · exact Cmp.str (k := 4) (Sok.lit (by decide +kernel))
    · exact q.1.cmp
    · exact q.2.cmp
theorem Pl.ok.cmp {s : Pl} (h : s.ok) : Cmp s.d 4 := by
  cases s <;> rw [Pl.d] <;> refine Cmp.tup fun d hd => ?_ <;> simp only [List.mem_cons, List.not_mem_nil, or_false] at hd
  · rcases hd with rfl | rfl | rfl
    · exact Cmp.str (k := 3) (Sok.lit (by decide +kernel))
    · exact Cmp.str h.1
    · exact h.2.cmp
  · rcases hd with rfl | rfl
    · exact Cmp.str (k := 5) (Sok.lit (by decide +kernel))
    · exact Cmp.str h
  · rcases hd with rfl | rfl
    · exact Cmp.str (k := 4) (Sok.lit (by decide +kernel))
    · exact Ex.ok.cmp h
  · rcases hd with rfl | rfl
    · exact Cmp.str (k := 3) (Sok.lit (by decide +kernel))
    · exact Cmp.str h
  · rcases hd with rfl | rfl
    · exact Cmp.str (k := 4) (Sok.lit (by decide +kernel))
    · exact Cmp.str h
theorem Sm.ok.cmp : ∀ (n : Nat) (s : Sm), s.ok n → Cmp s.d (2 * n + 8) := by
  intro n
  induction n with
  | zero =>
    intro s h
    cases s with
    | pl s =>
      rw [Sm.d]
      exact (Pl.ok.cmp h).mono (by omega)
    | ifs t y z => exact h.elim
    | rep k b => exact h.elim
  | succ n ih =>
    intro s h
    have all : ∀ b : List Sm, (∀ s ∈ b, Sm.ok n s) → Cmp (.tuple (Sm.ds b)) (2 * n + 9) := by
      intro b hb
      refine Cmp.tup fun d hd => ?_
      rw [Sm.ds_map] at hd
      obtain ⟨s, hs, rfl⟩ := List.mem_map.mp hd
      exact ih s (hb s hs)
    cases s with
    | pl s =>
      rw [Sm.d]
      exact (Pl.ok.cmp h).mono (by omega)
    | ifs t y z =>
      rw [Sm.d]
      refine Cmp.mono (m := 2 * n + 9 + 1) (Cmp.tup fun d hd => ?_) (by omega)
      simp only [List.mem_cons, List.not_mem_nil, or_false] at hd
      rcases hd with rfl | rfl | rfl | rfl
      · exact Cmp.str (k := 2) (Sok.lit (by decide +kernel))
      · exact h.1.cmp.mono (by omega)
      · exact all y h.2.1
      · exact all z h.2.2
    | rep k b =>
      rw [Sm.d]
      refine Cmp.mono (m := 2 * n + 9 + 1) (Cmp.tup fun d hd => ?_) (by omega)
      simp only [List.mem_cons, List.not_mem_nil, or_false] at hd
      rcases hd with rfl | rfl | rfl
      · exact Cmp.str (k := 6) (Sok.lit (by decide +kernel))
      · exact Cmp.int
      · exact all b h.2.2
theorem Sm.block_cmp {n : Nat} {b : List Sm} (h : ∀ s ∈ b, Sm.ok n s) : Cmp (.tuple (Sm.ds b)) (2 * n + 9) := by
  refine Cmp.tup fun d hd => ?_
  rw [Sm.ds_map] at hd
  obtain ⟨s, hs, rfl⟩ := List.mem_map.mp hd
  exact Sm.ok.cmp n s (h s hs)
theorem eqv_nil (ds : List PyData) : PyData.eqv (.tuple ds) (.tuple []) = ds.isEmpty := by
  cases ds with
  | nil => rfl
  | cons d r => rfl

def signK : List (Key × V) := [(.inr "plus", .str " + "), (.inr "minus", .str " - "), (.inr "times", .str " * ")]
theorem signK_get {o : Str} (h : IsOp o) : valV (mergeK [] signK) (Sum.inr o) = some (.str (opSign o)) := by
  rcases h with rfl | rfl | rfl <;> decide +kernel

def Pl.word : Pl → Str
  | .set _ _ => "set"
  | .unset _ => "unset"
  | .tell _ => "tell"
  | .say _ => "say"
  | .stop _ => "stop"
theorem Pl.head {K : PySem.W.Frag} {H : Hp} {v : V} {s : Pl} (h : Dt K H v s.d) : ∃ (p : Addr) (ys : List V), v = .ref p ∧ SqT K H p ys ∧ atI ys 0 = some (.str s.word) := by
  cases s with
  | set x e =>
    obtain ⟨p, a, b, c, rfl, hT, h1, _, _⟩ := Dt.is3 h
    obtain rfl := Dt.isStr h1
    exact ⟨p, _, rfl, hT, rfl⟩
  | unset x =>
    obtain ⟨p, a, b, rfl, hT, h1, _⟩ := Dt.is2 h
    obtain rfl := Dt.isStr h1
    exact ⟨p, _, rfl, hT, rfl⟩
  | tell e =>
    obtain ⟨p, a, b, rfl, hT, h1, _⟩ := Dt.is2 h
    obtain rfl := Dt.isStr h1
    exact ⟨p, _, rfl, hT, rfl⟩
  | say x =>
    obtain ⟨p, a, b, rfl, hT, h1, _⟩ := Dt.is2 h
    obtain rfl := Dt.isStr h1
    exact ⟨p, _, rfl, hT, rfl⟩
  | stop x =>
    obtain ⟨p, a, b, rfl, hT, h1, _⟩ := Dt.is2 h
    obtain rfl := Dt.isStr h1
    exact ⟨p, _, rfl, hT, rfl⟩
theorem Pl.word_in (s : Pl) : inV (.str s.word) [.str "if", .str "repeat"] = false := by
  cases s <;> simp only [Pl.word] <;> decide +kernel
theorem Pl.word_ne (s : Pl) : V.str s.word ≠ V.str "if" := by
  cases s <;> simp only [Pl.word] <;> decide +kernel

/-! ### the promises -/
/-- the text of an expression -/
def spExT (K : PySem.W.Frag) (n : Nat) : Sp := fun vs H Q _ => ∃ (v : V) (e : Ex), vs = [v] ∧ Dt K H v e.d ∧ e.ok n ∧
  ∀ H', Kp [] H H' → Q (.str e.text) H'
/-- the text of a test -/
def spTsT (K : PySem.W.Frag) (n : Nat) : Sp := fun vs H Q _ => ∃ (v : V) (t : Ts), vs = [v] ∧ Dt K H v t.d ∧ t.ok n ∧
  ∀ H', Kp [] H H' → Q (.str t.text) H'
/-- the line of a statement -/
def spLine (K : PySem.W.Frag) : Sp := fun vs H Q _ => ∃ (v : V) (s : Sm) (n : Nat), vs = [v] ∧ Dt K H v s.d ∧ s.ok n ∧
  ∀ H', Kp [] H H' → Q (.str s.line) H'
/-- the lines of a block -/
def spLines (K : PySem.W.Frag) (n : Nat) : Sp := fun vs H Q _ => ∃ (v : V) (b : List Sm) (ah : Str), vs = [v, .str ah] ∧ Dt K H v (.tuple (Sm.ds b)) ∧
  (∀ s ∈ b, Sm.ok n s) ∧ Sm.sizes b ≤ 100 ∧ Sok ah (20 - 2 * n) ∧ n ≤ 4 ∧
  ∀ H' p, Kp [] H H' → H p = none → H' p = some (.lst ((Sm.all ah b).map V.str)) → Q (.ref p) H'
def spPart (K : PySem.W.Frag) (n : Nat) : Sp := fun vs H Q _ => ∃ (v : V) (b : List Sm) (ah : Str), vs = [v, .str ah] ∧ Dt K H v (.tuple (Sm.ds b)) ∧
  (∀ s ∈ b, Sm.ok n s) ∧ Sm.sizes b ≤ 100 ∧ Sok ah (20 - 2 * n) ∧ n ≤ 4 ∧
  ∀ H' p, Kp [] H H' → H p = none → H' p = some (.lst ((Sm.part ah b).map V.str)) → Q (.ref p) H'
/-- the text of a program -/
def progT (b : List Sm) : Str := Txt.join "\n" ("program" :: Sm.all "" b)
def spProgT (K : PySem.W.Frag) : Sp := fun vs H Q _ => ∃ (v : V) (b : List Sm), vs = [v] ∧ Dt K H v (.tuple (Sm.ds b)) ∧
  (∀ s ∈ b, Sm.ok 4 s) ∧ Sm.sizes b ≤ 100 ∧ ∀ H', Kp [] H H' → Q (.str (progT b)) H'
theorem signs_mk {K : PySem.W.Frag} {w : World} {h : Heap} {mg : Str → Option Value} {dS : Addr} {es : Array DictEntry} {n : Nat} {t1 t2 t3 : Tok} (X : K.In h) (G : h.Ns mainGlobals mg)
    (z1 : PySem.W.nsIn K mainGlobals "SIGNS" = some (some (.ref dS))) (z2 : K.lookup dS = some ⟨.type "dict", none, .dict es n, #[]⟩)
    (z4 : PySem.W.nsIn K dS "plus" = some (some (.str " + " t1))) (z5 : PySem.W.nsIn K dS "minus" = some (some (.str " - " t2))) (z6 : PySem.W.nsIn K dS "times" = some (some (.str " * " t3)))
    (z3 : PySem.W.KeysLit w.params es.toList) : ∃ dS, mg "SIGNS" = some (.ref dS) ∧ ∀ o, IsOp o → KDct K w dS o (.str (opSign o)) := by
  refine ⟨dS, PySem.W.mg_of X G z1, fun o ho => ?_⟩
  rcases ho with rfl | rfl | rfl
  · exact ⟨es, n, _, z2, z3, z4, ⟨t1, rfl⟩⟩
  · exact ⟨es, n, _, z2, z3, z5, ⟨t2, rfl⟩⟩
  · exact ⟨es, n, _, z2, z3, z6, ⟨t3, rfl⟩⟩
end Aw

/-! the makers of programs: promises -/
namespace Aw
open PySem PySem.Spec L2

structure Nms (H : Hp) (a : Addr) (xs : List Str) : Prop where
  h : H a = some (.lst (xs.map V.str))
  ne : 1 ≤ xs.length
  ok : ∀ x ∈ xs, Sok x 8
  len : xs.length ≤ 100
theorem Nms.kp {M : List Addr} {H H1 : Hp} {a : Addr} {xs : List Str} (h : Nms H a xs) (k : Kp M H H1) (n : a ∉ M) : Nms H1 a xs := ⟨k.get h.h n, h.ne, h.ok, h.len⟩
theorem Nms.item {H : Hp} {a : Addr} {xs : List Str} (h : Nms H a xs) {i : Nat} {x : V} (e : (xs.map V.str)[i]? = some x) : ∃ z : Str, x = .str z ∧ Sok z 8 := by
  rw [List.getElem?_map] at e
  obtain ⟨z, hz, rfl⟩ := Option.map_eq_some_iff.mp e
  exact ⟨z, rfl, h.ok z (List.mem_of_getElem? hz)⟩

def eDraws : Nat → Nat
  | 0 => 0
  | n + 1 => 3 + 2 * eDraws n
theorem eDraws_le : ∀ {m : Nat}, m ≤ 3 → eDraws m ≤ 21
  | 0, _ => by decide
  | 1, _ => by decide
  | 2, _ => by decide
  | 3, _ => by decide
theorem Ex.ok_int {m : Nat} {i : Int} (h : 1 ≤ m) (h1 : -99 ≤ i) (h2 : i ≤ 99) : (Ex.int i).ok m := by
  cases m with
  | zero => omega
  | succ m => exact ⟨h1, h2⟩
theorem Ex.ok_name {m : Nat} {x : Str} (h : 1 ≤ m) (h1 : Sok x 8) : (Ex.name x).ok m := by
  cases m with
  | zero => omega
  | succ m => exact h1
/-- an expression is made -/
def spExpr (K : PySem.W.Frag) (m : Nat) : Sp := fun vs H Q _ => ∃ (d c nm : Addr) (n : Int) (xs : List Str), vs = [.ref d, .ref nm, .int m] ∧ Deck H d c n ∧ n + eDraws m < 10 ^ 12 ∧ Nms H nm xs ∧ nm ≠ d ∧ nm ≠ c ∧
  ∀ (H' : Hp) (v : V) (e : Ex) (n' : Int), Deck H' d c n' → n ≤ n' → n' ≤ n + eDraws m → Kp [d, c] H H' → Dt K H' v e.d → e.ok m → Q v H'
def spExprA (K : PySem.W.Frag) : Sp := fun vs H Q E => ∃ i : { m : Nat // 1 ≤ m ∧ m ≤ 3 }, spExpr K i.1 vs H Q E
theorem spExprA.use {K : PySem.W.Frag} {H : Hp} {Q : VK} {E : XK} {d c nm : Addr} {n m : Int} {xs : List Str} (D : Deck H d c n) (hn : n + 21 < 10 ^ 12) (N : Nms H nm xs) (n1 : nm ≠ d) (n2 : nm ≠ c) (m1 : 1 ≤ m) (m2 : m ≤ 3)
    (k : ∀ (H' : Hp) (v : V) (e : Ex) (n' : Int), Deck H' d c n' → n ≤ n' → n' ≤ n + 21 → Kp [d, c] H H' → Dt K H' v e.d → e.ok 3 → Q v H') : spExprA K [.ref d, .ref nm, .int m] H Q E := by
  have e : ((m.toNat : Nat) : Int) = m := Int.toNat_of_nonneg (by omega)
  have hE : eDraws m.toNat ≤ 21 := eDraws_le (by omega)
  refine ⟨⟨m.toNat, by omega⟩, d, c, nm, n, xs, by rw [e], D, by show n + ((eDraws m.toNat : Nat) : Int) < _; omega, N, n1, n2, fun H' v e n' D' q1 q2 k' hv he => ?_⟩
  have q2 : n' ≤ n + ((eDraws m.toNat : Nat) : Int) := q2
  exact k H' v e n' D' q1 (by omega) k' hv (Ex.ok.mono (m := m.toNat) he (by omega))
theorem Ts.ok.succ : ∀ {n : Nat} {t : Ts}, t.ok n → t.ok (n + 1)
  | n + 1, .not t, h => Ts.ok.succ (n := n) (t := t) h
  | n, .given x, h => by cases n <;> exact h
  | n, .rest e b r, h => by cases n <;> exact h
  | n, .less a b, h => by cases n <;> exact h
theorem Ts.ok.mono {m n : Nat} {t : Ts} (h : t.ok m) (q : m ≤ n) : t.ok n := by
  induction q with
  | refl => exact h
  | step _ ih => exact ih.succ
/-- a test is made -/
def spTest (K : PySem.W.Frag) : Sp := fun vs H Q _ => ∃ (d c nm : Addr) (n so : Int) (xs : List Str), vs = [.ref d, .ref nm, .int so] ∧ Deck H d c n ∧ n + 80 < 10 ^ 12 ∧ Nms H nm xs ∧ nm ≠ d ∧ nm ≠ c ∧
  ∀ (H' : Hp) (v : V) (t : Ts) (n' : Int), Deck H' d c n' → n ≤ n' → n' ≤ n + 80 → Kp [d, c] H H' → Dt K H' v t.d → t.ok 2 → Q v H'
/-- what is left: places, weight, rests, comparings -/
def Lft (H : Hp) (l : Addr) (a b r s : Int) : Prop := H l = some (.lst [.int a, .int b, .int r, .int s])
/-- a block is made, at e more blocks in one another -/
def spBlock (K : PySem.W.Frag) (e : Nat) : Sp := fun vs H Q _ => ∃ (d c nm l : Addr) (n dep ti a b r s : Int) (xs : List Str), vs = [.ref d, .ref nm, .int dep, .int ti, .ref l] ∧
  Deck H d c n ∧ n + 1 + 150 * a < 10 ^ 12 ∧ Nms H nm xs ∧ nm ≠ d ∧ nm ≠ c ∧ nm ≠ l ∧ l ≠ d ∧ l ≠ c ∧ Lft H l a b r s ∧ 0 ≤ a ∧ a ≤ 1000 ∧ dep + e = 3 ∧
  ∀ (H' : Hp) (v : V) (x : List Sm) (n' a' b' r' s' : Int), Deck H' d c n' → n ≤ n' → n' ≤ n + 1 + 150 * (a - a') → Lft H' l a' b' r' s' → 0 ≤ a' → (Sm.sizes x : Int) ≤ a - a' → Kp [d, c, l] H H' →
    Dt K H' v (.tuple (Sm.ds x)) → (∀ s ∈ x, Sm.ok e s) → Q v H'
def spIf (K : PySem.W.Frag) (e : Nat) : Sp := fun vs H Q _ => ∃ (d c nm l : Addr) (n dep ti a b r s at_ : Int) (xs : List Str), vs = [.ref d, .ref nm, .int dep, .int ti, .ref l, .int at_] ∧
  Deck H d c n ∧ n + 90 + 150 * a < 10 ^ 12 ∧ Nms H nm xs ∧ nm ≠ d ∧ nm ≠ c ∧ nm ≠ l ∧ l ≠ d ∧ l ≠ c ∧ Lft H l a b r s ∧ 0 ≤ a ∧ a ≤ 1000 ∧ dep + 1 + e = 3 ∧ 2 ≤ at_ ∧ at_ ≤ 4 ∧
  ∀ (H' : Hp) (v : V) (x : Sm) (n' a' b' r' s' : Int), Deck H' d c n' → n ≤ n' → n' ≤ n + 90 + 150 * (a - a') → Lft H' l a' b' r' s' → 0 ≤ a' → (x.size : Int) ≤ a - a' + 1 → Kp [d, c, l] H H' →
    Dt K H' v x.d → x.ok (e + 1) → Q v H'
def spStmt (K : PySem.W.Frag) (e : Nat) : Sp := fun vs H Q _ => ∃ (d c nm l : Addr) (n dep ti a b r s : Int) (xs : List Str), vs = [.ref d, .ref nm, .int dep, .int ti, .ref l] ∧
  Deck H d c n ∧ n + 150 * a < 10 ^ 12 ∧ Nms H nm xs ∧ nm ≠ d ∧ nm ≠ c ∧ nm ≠ l ∧ l ≠ d ∧ l ≠ c ∧ Lft H l a b r s ∧ 1 ≤ a ∧ a ≤ 1000 ∧ dep + e = 3 ∧
  ∀ (H' : Hp) (v : V) (x : Sm) (n' a' b' r' s' : Int), Deck H' d c n' → n ≤ n' → n' ≤ n + 150 * (a - a') → Lft H' l a' b' r' s' → 0 ≤ a' → (x.size : Int) ≤ a - a' → Kp [d, c, l] H H' →
    Dt K H' v x.d → x.ok e → Q v H'
def spProg (K : PySem.W.Frag) : Sp := fun vs H Q _ => ∃ (d c nm : Addr) (n mo : Int) (xs : List Str), vs = [.ref d, .ref nm, .int mo] ∧ Deck H d c n ∧ n + 4000 < 10 ^ 12 ∧ Nms H nm xs ∧ nm ≠ d ∧ nm ≠ c ∧
  0 ≤ mo ∧ mo ≤ 24 ∧ ∀ (H' : Hp) (v : V) (x : List Sm) (n' : Int), Deck H' d c n' → n ≤ n' → n' ≤ n + 4000 → (Sm.sizes x : Int) ≤ mo → Kp [d, c] H H' →
    Dt K H' v (.tuple (Sm.ds x)) → (∀ s ∈ x, Sm.ok 3 s) → Q v H'
def spNames : Sp := fun vs H Q _ => ∃ (d c : Addr) (n m : Int), vs = [.ref d, .int m] ∧ Deck H d c n ∧ n + 30 < 10 ^ 12 ∧ 1 ≤ m ∧ m ≤ 5 ∧
  ∀ (H' : Hp) (p : Addr) (xs : List Str) (n' : Int), H p = none → Deck H' d c n' → n ≤ n' → n' ≤ n + 30 → Kp [d, c] H H' → Nms H' p xs → Q (.ref p) H'

theorem Sm.ok.succ : ∀ (n : Nat) (s : Sm), s.ok n → s.ok (n + 1) := by
  intro n
  induction n with
  | zero =>
    intro s h
    cases s with
    | pl s => exact h
    | ifs t y z => exact h.elim
    | rep k b => exact h.elim
  | succ n ih =>
    intro s h
    cases s with
    | pl s => exact h
    | ifs t y z => exact ⟨h.1, fun s hs => ih s (h.2.1 s hs), fun s hs => ih s (h.2.2 s hs)⟩
    | rep k b => exact ⟨h.1, h.2.1, fun s hs => ih s (h.2.2 s hs)⟩
theorem Sm.ok.mono {m n : Nat} {s : Sm} (h : s.ok m) (q : m ≤ n) : s.ok n := by
  induction q with
  | refl => exact h
  | step _ ih => exact Sm.ok.succ _ _ ih
theorem Sm.ds_snoc (b : List Sm) (s : Sm) : Sm.ds (b ++ [s]) = Sm.ds b ++ [s.d] := by rw [Sm.ds_map, Sm.ds_map, List.map_append]; rfl
theorem Sm.sizes_snoc (b : List Sm) (s : Sm) : Sm.sizes (b ++ [s]) = Sm.sizes b + s.size := by rw [Sm.sizes_app, Sm.sizes, Sm.sizes, Nat.add_zero]

/-! ### replace -/
theorem replL_ok {y z : List Nat} (hy : y ≠ []) (hz : z.length ≤ y.length) (h1 : ∀ c ∈ z, c < 1114112) : ∀ (n : Nat) (l : List Nat), l.length ≤ n → (∀ c ∈ l, c < 1114112) →
    (StrLaws.replL y z l).length ≤ l.length ∧ ∀ c ∈ StrLaws.replL y z l, c < 1114112 := by
  intro n
  induction n with
  | zero =>
    intro l hl hc
    obtain rfl : l = [] := List.length_eq_zero_iff.mp (by omega)
    rw [StrLaws.replL_nil]
    exact ⟨Nat.le_refl _, hc⟩
  | succ n ih =>
    intro l hl hc
    cases l with
    | nil =>
      rw [StrLaws.replL_nil]
      exact ⟨Nat.le_refl _, hc⟩
    | cons c r =>
      have y1 : 1 ≤ y.length := by
        cases y with
        | nil => exact absurd rfl hy
        | cons _ _ => simp
      by_cases h : (c :: r).take y.length = y
      · rw [StrLaws.replL_hit hy h]
        have ylen : y.length ≤ (c :: r).length := by
          have q := congrArg List.length h
          rw [List.length_take] at q
          omega
        have hlt : ((c :: r).drop y.length).length ≤ n := by
          rw [List.length_drop]
          rw [List.length_cons] at hl ylen ⊢
          omega
        obtain ⟨q1, q2⟩ := ih _ hlt fun c' hc' => hc c' (List.mem_of_mem_drop hc')
        refine ⟨?_, fun c' hc' => ?_⟩
        · rw [List.length_append]
          rw [List.length_drop] at q1
          omega
        · rcases List.mem_append.mp hc' with m | m
          · exact h1 c' m
          · exact q2 c' m
      · rw [StrLaws.replL_miss h]
        obtain ⟨q1, q2⟩ := ih r (by rw [List.length_cons] at hl; omega) fun c' hc' => hc c' (List.mem_cons_of_mem _ hc')
        refine ⟨by rw [List.length_cons, List.length_cons]; omega, fun c' hc' => ?_⟩
        rcases List.mem_cons.mp hc' with rfl | m
        · exact hc _ (List.mem_cons_self ..)
        · exact q2 c' m
theorem Sok.iff {x : Str} {n : Nat} : Sok x n ↔ (∀ c ∈ x.cps.toList, c < 1114112) ∧ x.cps.toList.length ≤ n := by
  constructor
  · intro h
    have q := h.ok
    unfold PyData.strOk at q
    rw [Array.all_eq_true_iff_forall_mem] at q
    exact ⟨fun c hc => of_decide_eq_true (q c (Array.mem_def.mpr hc)), by rw [Array.length_toList]; exact h.len⟩
  · intro h
    refine ⟨?_, ?_⟩
    · unfold PyData.strOk
      rw [Array.all_eq_true_iff_forall_mem]
      exact fun c hc => decide_eq_true (h.1 c (Array.mem_def.mp hc))
    · have q := h.2
      rw [Array.length_toList] at q
      exact q
theorem joinL_ok {S : List Nat} {m s : Nat} (hS : S.length ≤ s) (h1 : ∀ c ∈ S, c < 1114112) : ∀ ps : List (List Nat), (∀ p ∈ ps, p.length ≤ m ∧ ∀ c ∈ p, c < 1114112) →
    (TL.joinL S ps).length ≤ ps.length * (m + s) ∧ ∀ c ∈ TL.joinL S ps, c < 1114112
  | [], _ => ⟨Nat.zero_le _, fun c h => (nomatch h)⟩
  | [p], h => by
    obtain ⟨a, b⟩ := h p (List.mem_cons_self ..)
    rw [TL.joinL]
    exact ⟨by rw [List.length_singleton, Nat.one_mul]; omega, b⟩
  | p :: q :: r, h => by
    obtain ⟨a, b⟩ := h p (List.mem_cons_self ..)
    obtain ⟨a2, b2⟩ := joinL_ok hS h1 (q :: r) fun p' hp' => h p' (List.mem_cons_of_mem _ hp')
    rw [TL.joinL]
    refine ⟨?_, fun c hc => ?_⟩
    · rw [List.length_append, List.length_append, List.length_cons, Nat.add_mul, Nat.one_mul]
      omega
    · rcases List.mem_append.mp hc with hc | hc
      · exact b c hc
      · rcases List.mem_append.mp hc with hc | hc
        · exact h1 c hc
        · exact b2 c hc
theorem Sok.join {sep : Str} {ys : List Str} {m s : Nat} (hs : Sok sep s) (h : ∀ y ∈ ys, Sok y m) : Sok (Txt.join sep ys) (ys.length * (m + s)) := by
  rw [Sok.iff] at *
  rw [TL.join_eq]
  have e : (Str.join sep ys).cps.toList = TL.joinL sep.cps.toList (ys.map fun y => y.cps.toList) := TL.tl_join sep ys
  rw [e]
  obtain ⟨a, b⟩ := joinL_ok (m := m) hs.2 hs.1 (ys.map fun y => y.cps.toList) fun p hp => by
    obtain ⟨y, hy, rfl⟩ := List.mem_map.mp hp
    have q := Sok.iff.mp (h y hy)
    exact ⟨q.2, q.1⟩
  rw [List.length_map] at a
  exact ⟨b, a⟩
theorem Sok.sign {z : Str} {n k : Nat} (h : Sok z n) (hk : k ∈ z.cps.toList) : Sok ⟨#[k]⟩ 1 := by
  rw [Sok.iff] at *
  refine ⟨fun c hc => ?_, by simp⟩
  simp at hc
  rw [hc]
  exact h.1 k hk
theorem sum_len {ys : List Str} {m : Nat} (h : ∀ y ∈ ys, Sok y m) : (ys.map (·.length)).sum ≤ ys.length * m := by
  induction ys with
  | nil => exact Nat.zero_le _
  | cons y r ih =>
    have a := (h y (List.mem_cons_self ..)).len
    have b := ih fun z hz => h z (List.mem_cons_of_mem _ hz)
    rw [List.map_cons, List.sum_cons, List.length_cons, Nat.add_mul, Nat.one_mul]
    omega
theorem Sok.repl {x y z : Str} {n : Nat} (h : Sok x n) (hy : 1 ≤ y.length) (hz : z.length ≤ y.length) (h1 : Sok z z.length) : Sok (Txt.replace x y z) n := by
  rw [Sok.iff] at *
  rw [StrLaws.replace_list hy]
  have yl : y.cps.toList.length = y.length := by rw [Array.length_toList]; rfl
  have zl : z.cps.toList.length = z.length := by rw [Array.length_toList]; rfl
  obtain ⟨q1, q2⟩ := replL_ok (y := y.cps.toList) (z := z.cps.toList) (fun e => by rw [e] at yl; simp at yl; omega) (by omega) h1.1 _ _ (Nat.le_refl _) h.1
  exact ⟨q2, Nat.le_trans q1 h.2⟩
/-- the first of the written items makes a token -/
theorem pa_strT {X : Cx} {es : List Expr} {t : TA} {x : Str} {j : Nat} {pos : Pos} (h : PAT X es t)
    (hs : starEach (.Constant (.str x) j pos :: es) X.env = (false, eval (.Constant (.str x) j pos) X.env) :: starEach es X.env := by rfl) :
    PA X (.Constant (.str x) j pos :: es) (tCons (tC (.str x)) t) := by
  refine ⟨fun p pins s σ H Q I q => ?_⟩
  rw [hs]
  show wpAny _ _ (spliced ((false, eval (.Constant (.str x) j pos) X.env) :: backTo p (starEach es X.env))) _ _ s
  refine Calls.spliced_cons (Calls.Constant_str ?_)
  refine thn (h p pins _ σ H _ (Nat.le_add_left 1 _) (I.tok _) q) fun us s2 q2 => ?_
  obtain ⟨xs, H2, I2, r2, q2⟩ := q2
  exact ⟨.str x :: xs, H2, I2, .cons ⟨_, rfl⟩ r2, q2⟩
theorem r_repl {to : TE} {σ : L2.St} {H : Hp} {Q : VK} {y z : Str} (h : to σ H fun v H1 => ∃ x, v = .str x ∧ x.length + (x.length + 1) * z.length ≤ 16777216 ∧ Q (.str (Txt.replace x y z)) H1) : CwR.tReplC to y z σ H Q := h
end Aw

/-! what is a program: plain functions over data, promises -/
namespace Aw
open PySem PySem.Spec L2

def LETT : Str := "abcdefghijklmnopqrstuvwxyz"
def SGN : Str := "abcdefghijklmnopqrstuvwxyz0123456789"
def KEPTS : List Str := ["unset", "tell", "say", "stop", "if", "else", "repeat", "pass", "rest", "of", "set", "not", "program"]
def isSgn (c : Nat) : Bool := decide (c ∈ SGN.cps.toList)
def isLet (c : Nat) : Bool := decide (c ∈ LETT.cps.toList)
def isWordS (x : Str) : Bool := decide (1 ≤ x.length) && decide (x.length ≤ 8) && !decide (x = "unsure") && x.cps.toList.all isSgn
def isNameS (x : Str) : Bool := decide (1 ≤ x.length) && decide (x.length ≤ 8) && isLet (x.cps.toList.headD 0) && x.cps.toList.all isSgn && !KEPTS.contains x
theorem inV_strs (x : Str) : ∀ ys : List Str, inV (.str x) (ys.map V.str) = ys.contains x
  | [] => rfl
  | y :: r => by
    have q := inV_strs x r
    unfold inV at q ⊢
    rw [List.map_cons, List.any_cons, q, List.contains_cons]
    congr 1
    show decide (y = x) = decide (x = y)
    exact decide_eq_decide.mpr ⟨Eq.symm, Eq.symm⟩
theorem filter_all {α : Type} (f : α → Bool) : ∀ l : List α, (l.filter fun c => !f c).isEmpty = l.all f
  | [] => rfl
  | c :: r => by
    cases h : f c with
    | true => rw [List.filter_cons_of_neg (by rw [h]; decide), List.all_cons, h, Bool.true_and]; exact filter_all f r
    | false => rw [List.filter_cons_of_pos (by rw [h]; decide), List.all_cons, h, Bool.false_and]; rfl
def isWord : PyData → Bool
  | .str x => isWordS x
  | _ => false
def isName : PyData → Bool
  | .str x => isNameS x
  | _ => false
def isWhole (lo hi : Int) : PyData → Bool
  | .int i => decide (lo ≤ i) && decide (i ≤ hi)
  | _ => false
def isExprL (f : PyData → Bool) : List PyData → Bool
  | [.str w, a, b] => f b && (if w = "times" then isWhole (-9) 9 a else (decide (w = "plus") || decide (w = "minus")) && f a)
  | _ => false
def isExprW (f : PyData → Bool) : PyData → Bool
  | .tuple ds => isExprL f ds
  | d => isName d || isWhole (-99) 99 d
def isExpr : Nat → PyData → Bool
  | 0 => fun _ => false
  | n + 1 => isExprW (isExpr n)
theorem isStr_of {a : PyData} (h : isaD a "str" = true) : ∃ x, a = .str x := by
  cases a <;> first | exact ⟨_, rfl⟩ | (exfalso; revert h; simp [isaD, tyD]; done)
theorem isTup_of {a : PyData} (h : isaD a "tuple" = true) : ∃ x, a = .tuple x := by
  cases a <;> first | exact ⟨_, rfl⟩ | (exfalso; revert h; simp [isaD, tyD]; done)
theorem inV_two (x a b : Str) : inV (.str x) [.str a, .str b] = (decide (x = a) || decide (x = b)) := by
  have q := inV_strs x [a, b]
  rw [show [a, b].map V.str = [.str a, .str b] from rfl] at q
  rw [q]
  by_cases h1 : x = a <;> by_cases h2 : x = b <;> simp [h1, h2]
theorem isExprL_len {f : PyData → Bool} {ds : List PyData} (h : ds.length ≠ 3) : isExprL f ds = false := by
  unfold isExprL
  split
  · exact absurd rfl h
  · rfl
theorem isExprL_str {f : PyData → Bool} {a b c : PyData} (h : isaD a "str" = false) : isExprL f [a, b, c] = false := by
  cases a <;> first | rfl | (exfalso; revert h; simp [isaD, tyD]; done)
def isRestL : List PyData → Bool
  | [_, a, .int b, c] => isExpr 3 a && isWhole 2 6 (.int b) && isWhole 0 (b - 1) c
  | _ => false
theorem isRestL_len {ds : List PyData} (h : ds.length ≠ 4) : isRestL ds = false := by
  unfold isRestL
  split
  · exact absurd rfl h
  · rfl
theorem isRestL4 (x a b c : PyData) : isRestL [x, a, b, c] = (isExpr 3 a && (isWhole 2 6 b && (match b with | .int i => isWhole 0 (i - 1) c | _ => false))) := by
  cases b with
  | int i => rw [isRestL, Bool.and_assoc]
  | _ => simp [isRestL, isWhole]
def two (f : PyData → PyData → Bool) : List PyData → Bool
  | [a, b] => f a b
  | _ => false
def one (f : PyData → Bool) : List PyData → Bool
  | [a] => f a
  | _ => false
theorem two_len {f : PyData → PyData → Bool} {r : List PyData} (h : r.length ≠ 2) : two f r = false := by
  unfold two
  split
  · exact absurd rfl h
  · rfl
theorem one_len {f : PyData → Bool} {r : List PyData} (h : r.length ≠ 1) : one f r = false := by
  unfold one
  split
  · exact absurd rfl h
  · rfl
def isTestL (f : PyData → Bool) (w : Str) (r : List PyData) : Bool :=
  if w = "less" then two (fun a b => isExpr 3 a && isExpr 3 b) r
  else if w = "rest" then isRestL (.str w :: r)
  else if w = "given" then one isName r
  else if w = "not" then one f r
  else false
def isTestW (f : PyData → Bool) : PyData → Bool
  | .tuple (.str w :: r) => isTestL f w r
  | _ => false
def isTest : Nat → PyData → Bool
  | 0 => isTestW fun _ => false
  | n + 1 => isTestW (isTest n)
theorem isTest_F (n : Nat) (d : PyData) : ∃ F : PyData → Bool, isTest n d = isTestW F d ∧ ((n = 0 ∧ F = fun _ => false) ∨ ∃ m, n = m + 1 ∧ F = isTest m) := by
  cases n with
  | zero => exact ⟨_, rfl, .inl ⟨rfl, rfl⟩⟩
  | succ m => exact ⟨_, rfl, .inr ⟨m, rfl, rfl⟩⟩
theorem isTestW_str {f : PyData → Bool} {a : PyData} {r : List PyData} (h : isaD a "str" = false) : isTestW f (.tuple (a :: r)) = false := by
  cases a <;> first | rfl | (exfalso; revert h; simp [isaD, tyD]; done)
def isPlainL (w : Str) (r : List PyData) : Bool :=
  if w = "set" then two (fun a b => isName a && isExpr 3 b) r
  else if w = "unset" then one isName r
  else if w = "tell" then one (isExpr 3) r
  else if w = "say" ∨ w = "stop" then one isWord r
  else false
def isTupD : PyData → Bool
  | .tuple _ => true
  | _ => false
theorem isa_tup (d : PyData) : isaD d "tuple" = isTupD d := by
  cases d <;> simp [isaD, tyD, isTupD]
def three (f : PyData → PyData → PyData → Bool) : List PyData → Bool
  | [a, b, c] => f a b c
  | _ => false
theorem three_len {f : PyData → PyData → PyData → Bool} {r : List PyData} (h : r.length ≠ 3) : three f r = false := by
  unfold three
  split
  · exact absurd rfl h
  · rfl
theorem two_view {f : PyData → PyData → Bool} {r : List PyData} (h : two f r = true) : ∃ a b, r = [a, b] ∧ f a b = true := by
  unfold two at h
  split at h
  · exact ⟨_, _, rfl, h⟩
  · cases h
theorem one_view {f : PyData → Bool} {r : List PyData} (h : one f r = true) : ∃ a, r = [a] ∧ f a = true := by
  unfold one at h
  split at h
  · exact ⟨_, rfl, h⟩
  · cases h
theorem three_view {f : PyData → PyData → PyData → Bool} {r : List PyData} (h : three f r = true) : ∃ a b c, r = [a, b, c] ∧ f a b c = true := by
  unfold three at h
  split at h
  · exact ⟨_, _, _, rfl, h⟩
  · cases h
def isStmtL (w : Str) (r : List PyData) : Bool :=
  if w = "if" then three (fun t y z => isTest 2 t && (isTupD y && isTupD z)) r
  else if w = "repeat" then two (fun k b => isWhole 0 8 k && isTupD b) r
  else isPlainL w r
def isStmt : PyData → Bool
  | .tuple (.str w :: r) => isStmtL w r
  | _ => false

theorem isStmt_str {a : PyData} {r : List PyData} (h : isaD a "str" = false) : isStmt (.tuple (a :: r)) = false := by
  cases a <;> first | rfl | (exfalso; revert h; simp [isaD, tyD]; done)
/-! ### sizes -/
mutual
def dsz : PyData → Nat
  | .none => 1
  | .bool _ => 1
  | .int _ => 1
  | .str x => 1 + x.length
  | .list ds => 1 + dszs ds
  | .tuple ds => 1 + dszs ds
  | .dict _ => 1
def dszs : List PyData → Nat
  | [] => 0
  | d :: r => dsz d + dszs r
end
theorem dsz_pos (d : PyData) : 1 ≤ dsz d := by cases d <;> (rw [dsz]; try omega)
theorem dszs_app : ∀ a b : List PyData, dszs (a ++ b) = dszs a + dszs b
  | [], b => by rw [List.nil_append, dszs, Nat.zero_add]
  | s :: r, b => by rw [List.cons_append, dszs, dszs, dszs_app r b, Nat.add_assoc]
theorem dszs_mem {d : PyData} : ∀ {b : List PyData}, d ∈ b → dsz d ≤ dszs b
  | _ :: r, .head _ => by rw [dszs]; omega
  | _ :: r, .tail _ h => by have := dszs_mem h; rw [dszs]; omega
theorem dszs_len : ∀ b : List PyData, b.length ≤ dszs b
  | [] => Nat.zero_le _
  | d :: r => by have := dszs_len r; have := dsz_pos d; rw [dszs, List.length_cons]; omega

/-! ### blocks of a statement, the order of the places -/
def tupOf : PyData → List PyData
  | .tuple ds => ds
  | _ => []
/-- the blocks of a statement -/
def blks : PyData → List (List PyData)
  | .tuple (.str w :: r) => if w = "if" then (match r with
      | [_, y, z] => [tupOf y, tupOf z]
      | _ => [])
    else if w = "repeat" then (match r with
      | [_, b] => [tupOf b]
      | _ => [])
    else []
  | _ => []
def inner (d : PyData) : List PyData := (blks d).flatten
theorem dsz_tupOf (d : PyData) : dszs (tupOf d) + 1 ≤ dsz d := by
  cases d <;> simp [tupOf, dsz, dszs]; omega
theorem inner_size (d : PyData) : dszs (inner d) + 1 ≤ dsz d := by
  have h0 := dsz_pos d
  unfold inner
  unfold blks
  split
  · rename_i w r
    split
    · split
      · rename_i t y z
        have a := dsz_tupOf y
        have b := dsz_tupOf z
        have c := dsz_pos t
        simp only [List.flatten_cons, List.flatten_nil, List.append_nil, dszs_app, dsz, dszs]
        omega
      · rw [List.flatten_nil, dszs]
        omega
    · split
      · split
        · rename_i t b
          have a := dsz_tupOf b
          simp only [List.flatten_cons, List.flatten_nil, List.append_nil, dszs_app, dsz, dszs]
          omega
        · rw [List.flatten_nil, dszs]
          omega
      · rw [List.flatten_nil, dszs]
        omega
  · rw [List.flatten_nil, dszs]
    omega
/-- the stack, its top first -/
def ordLoop : Nat → List (Nat × PyData) → Nat → Option (Nat × Str)
  | _, [], _ => none
  | 0, _ :: _, _ => none
  | f + 1, (dep, d) :: st, pl => if dep > 3 then some (pl, "nest") else if isStmt d = false then some (pl, "statement")
      else ordLoop f ((inner d).map (fun e => (dep + 1, e)) ++ st) (pl + 1)
def stSize (st : List (Nat × PyData)) : Nat := dszs (st.map (·.2))
theorem stSize_cons (n : Nat) (d : PyData) (st : List (Nat × PyData)) : stSize ((n, d) :: st) = dsz d + stSize st := by
  unfold stSize
  rw [List.map_cons, dszs]
theorem stSize_app (a b : List (Nat × PyData)) : stSize (a ++ b) = stSize a + stSize b := by
  unfold stSize
  rw [List.map_append, dszs_app]
theorem stSize_map (n : Nat) (ds : List PyData) : stSize (ds.map fun e => (n, e)) = dszs ds := by
  unfold stSize
  rw [List.map_map]
  have e : ((·.2) ∘ fun e : PyData => (n, e)) = id := rfl
  rw [e, List.map_id]
theorem ordLoop_fuel : ∀ (f g : Nat) (st : List (Nat × PyData)) (pl : Nat), stSize st ≤ f → stSize st ≤ g → ordLoop f st pl = ordLoop g st pl := by
  intro f
  induction f with
  | zero =>
    intro g st pl h1 h2
    cases st with
    | nil => cases g <;> rfl
    | cons p st =>
      obtain ⟨n, d⟩ := p
      rw [stSize_cons] at h1
      have := dsz_pos d
      omega
  | succ f ih =>
    intro g st pl h1 h2
    cases st with
    | nil => cases g <;> rfl
    | cons p st =>
      obtain ⟨n, d⟩ := p
      rw [stSize_cons] at h1 h2
      have := dsz_pos d
      have hi := inner_size d
      cases g with
      | zero => omega
      | succ g =>
        rw [ordLoop, ordLoop, ih g _ _ (by rw [stSize_app, stSize_map]; omega) (by rw [stSize_app, stSize_map]; omega)]
def ordErr (ds : List PyData) : Option (Nat × Str) := ordLoop (dszs ds) (ds.map fun e => (0, e)) 0

/-! ### valid trees -/
def Ex.vd : Nat → Ex → Prop
  | 0, _ => False
  | _ + 1, .int i => -99 ≤ i ∧ i ≤ 99
  | _ + 1, .name x => isNameS x = true
  | n + 1, .bin o a b => b.vd n ∧ ((o = "times" ∧ ∃ i : Int, a = .int i ∧ -9 ≤ i ∧ i ≤ 9) ∨ ((o = "plus" ∨ o = "minus") ∧ a.vd n))
def Ts.vd : Nat → Ts → Prop
  | 0, .not _ => False
  | n + 1, .not t => t.vd n
  | _, .given x => isNameS x = true
  | _, .rest e b r => e.vd 3 ∧ 2 ≤ b ∧ b ≤ 6 ∧ 0 ≤ r ∧ r ≤ b - 1
  | _, .less a b => a.vd 3 ∧ b.vd 3
def Pl.vd : Pl → Prop
  | .set x e => isNameS x = true ∧ e.vd 3
  | .unset x => isNameS x = true
  | .tell e => e.vd 3
  | .say w => isWordS w = true
  | .stop w => isWordS w = true
def Sm.vd : Nat → Sm → Prop
  | _, .pl s => s.vd
  | 0, .ifs t y z => t.vd 2 ∧ y = [] ∧ z = []
  | 0, .rep k b => 0 ≤ k ∧ k ≤ 8 ∧ b = []
  | n + 1, .ifs t y z => t.vd 2 ∧ (∀ s ∈ y, Sm.vd n s) ∧ (∀ s ∈ z, Sm.vd n s)
  | n + 1, .rep k b => 0 ≤ k ∧ k ≤ 8 ∧ ∀ s ∈ b, Sm.vd n s
theorem name_view {d : PyData} (h : isName d = true) : ∃ x, d = .str x ∧ isNameS x = true := by
  unfold isName at h
  split at h
  · exact ⟨_, rfl, h⟩
  · cases h
theorem word_view {d : PyData} (h : isWord d = true) : ∃ x, d = .str x ∧ isWordS x = true := by
  unfold isWord at h
  split at h
  · exact ⟨_, rfl, h⟩
  · cases h
theorem whole_view {d : PyData} {lo hi : Int} (h : isWhole lo hi d = true) : ∃ i, d = .int i ∧ lo ≤ i ∧ i ≤ hi := by
  unfold isWhole at h
  split at h
  · simp only [Bool.and_eq_true, decide_eq_true_eq] at h
    exact ⟨_, rfl, h.1, h.2⟩
  · cases h
theorem tup_view {d : PyData} (h : isTupD d = true) : ∃ ds, d = .tuple ds := by
  unfold isTupD at h
  split at h
  · exact ⟨_, rfl⟩
  · cases h
theorem expr_view : ∀ {n : Nat} {d : PyData}, isExpr n d = true → ∃ e : Ex, d = e.d ∧ e.vd n := by
  intro n
  induction n with
  | zero =>
    intro d h
    rw [isExpr] at h
    cases h
  | succ n ih =>
    intro d h
    rw [isExpr] at h
    unfold isExprW at h
    split at h
    · unfold isExprL at h
      split at h
      · rename_i w a b
        rw [Bool.and_eq_true] at h
        obtain ⟨h1, h2⟩ := h
        obtain ⟨eb, rfl, vb⟩ := ih h1
        split at h2
        · rename_i hw
          subst hw
          unfold isWhole at h2
          split at h2
          · rename_i i
            simp only [Bool.and_eq_true, decide_eq_true_eq] at h2
            exact ⟨.bin "times" (.int i) eb, rfl, vb, .inl ⟨rfl, i, rfl, h2.1, h2.2⟩⟩
          · cases h2
        · simp only [Bool.and_eq_true, Bool.or_eq_true, decide_eq_true_eq] at h2
          obtain ⟨h2, h3⟩ := h2
          obtain ⟨ea, rfl, va⟩ := ih h3
          exact ⟨.bin w ea eb, rfl, vb, .inr ⟨h2, va⟩⟩
      · cases h
    · rw [Bool.or_eq_true] at h
      rcases h with h | h
      · obtain ⟨x, rfl, hx⟩ := name_view h
        exact ⟨.name x, rfl, hx⟩
      · obtain ⟨i, rfl, h1, h2⟩ := whole_view h
        exact ⟨.int i, rfl, h1, h2⟩
theorem testL_view {f : PyData → Bool} {w : Str} {r : List PyData} (h : isTestL f w r = true) :
    (∃ a b : Ex, w = "less" ∧ r = [a.d, b.d] ∧ a.vd 3 ∧ b.vd 3) ∨ (∃ (e : Ex) (b c : Int), w = "rest" ∧ r = [e.d, .int b, .int c] ∧ e.vd 3 ∧ 2 ≤ b ∧ b ≤ 6 ∧ 0 ≤ c ∧ c ≤ b - 1) ∨
    (∃ x, w = "given" ∧ r = [.str x] ∧ isNameS x = true) ∨ (∃ a, w = "not" ∧ r = [a] ∧ f a = true) := by
  unfold isTestL at h
  split at h
  · rename_i hw
    obtain ⟨a, b, rfl, hh⟩ := two_view h
    clear h
    have h := hh
    rw [Bool.and_eq_true] at h
    obtain ⟨a, rfl, va⟩ := expr_view h.1
    obtain ⟨b, rfl, vb⟩ := expr_view h.2
    exact .inl ⟨a, b, hw, rfl, va, vb⟩
  split at h
  · rename_i hw
    unfold isRestL at h
    split at h
    · rename_i hr
      cases hr
      simp only [Bool.and_eq_true] at h
      obtain ⟨⟨h1, h2⟩, h3⟩ := h
      obtain ⟨e, rfl, ve⟩ := expr_view h1
      obtain ⟨i, hi, b1, b2⟩ := whole_view h2
      cases hi
      obtain ⟨j, rfl, c1, c2⟩ := whole_view h3
      exact .inr (.inl ⟨e, _, j, hw, rfl, ve, b1, b2, c1, c2⟩)
    · cases h
  split at h
  · rename_i hw
    obtain ⟨a, rfl, hh⟩ := one_view h
    clear h
    have h := hh
    obtain ⟨x, rfl, hx⟩ := name_view h
    exact .inr (.inr (.inl ⟨x, hw, rfl, hx⟩))
  split at h
  · rename_i hw
    obtain ⟨a, rfl, hh⟩ := one_view h
    clear h
    have h := hh
    exact .inr (.inr (.inr ⟨_, hw, rfl, h⟩))
  · cases h
theorem testW_view {n : Nat} {f : PyData → Bool} {d : PyData} (hf : ∀ a, f a = true → ∃ t : Ts, a = t.d ∧ (Ts.not t).vd n) (h : isTestW f d = true) : ∃ t : Ts, d = t.d ∧ t.vd n := by
  unfold isTestW at h
  split at h
  · rcases testL_view h with ⟨a, b, rfl, rfl, va, vb⟩ | ⟨e, b, c, rfl, rfl, q⟩ | ⟨x, rfl, rfl, q⟩ | ⟨a, rfl, rfl, q⟩
    · exact ⟨.less a b, rfl, by cases n <;> exact ⟨va, vb⟩⟩
    · exact ⟨.rest e b c, rfl, by cases n <;> exact q⟩
    · exact ⟨.given x, rfl, by cases n <;> exact q⟩
    · obtain ⟨t, rfl, ht⟩ := hf a q
      exact ⟨.not t, rfl, ht⟩
  · cases h
theorem test_view : ∀ {n : Nat} {d : PyData}, isTest n d = true → ∃ t : Ts, d = t.d ∧ t.vd n
  | 0, d, h => testW_view (fun a q => by cases q) h
  | n + 1, d, h => testW_view (fun a q => test_view (n := n) q) h
theorem plain_view {w : Str} {r : List PyData} (h : isPlainL w r = true) : ∃ p : Pl, .tuple (.str w :: r) = p.d ∧ p.vd := by
  unfold isPlainL at h
  split at h
  · rename_i hw
    subst hw
    obtain ⟨a, b, rfl, hh⟩ := two_view h
    clear h
    have h := hh
    rw [Bool.and_eq_true] at h
    obtain ⟨x, rfl, hx⟩ := name_view h.1
    obtain ⟨e, rfl, he⟩ := expr_view h.2
    exact ⟨.set x e, rfl, hx, he⟩
  split at h
  · rename_i hw
    subst hw
    obtain ⟨a, rfl, hh⟩ := one_view h
    clear h
    have h := hh
    obtain ⟨x, rfl, hx⟩ := name_view h
    exact ⟨.unset x, rfl, hx⟩
  split at h
  · rename_i hw
    subst hw
    obtain ⟨a, rfl, hh⟩ := one_view h
    clear h
    have h := hh
    obtain ⟨e, rfl, he⟩ := expr_view h
    exact ⟨.tell e, rfl, he⟩
  split at h
  · rename_i hw
    obtain ⟨a, rfl, hh⟩ := one_view h
    clear h
    have h := hh
    obtain ⟨x, rfl, hx⟩ := word_view h
    rcases hw with rfl | rfl
    · exact ⟨.say x, rfl, hx⟩
    · exact ⟨.stop x, rfl, hx⟩
  · cases h
theorem Pl.hd (p : Pl) : ∃ u r, p.d = .tuple (.str u :: r) ∧ u ≠ "if" ∧ u ≠ "repeat" := by
  cases p <;> exact ⟨_, _, rfl, by decide +kernel, by decide +kernel⟩
/-- what a statement is -/
theorem stmt_view {d : PyData} (h : isStmt d = true) : (∃ p : Pl, d = p.d ∧ p.vd ∧ blks d = []) ∨ (∃ (t : Ts) (y z : List PyData), d = .tuple [.str "if", t.d, .tuple y, .tuple z] ∧ t.vd 2 ∧ blks d = [y, z]) ∨
    (∃ (k : Int) (b : List PyData), d = .tuple [.str "repeat", .int k, .tuple b] ∧ 0 ≤ k ∧ k ≤ 8 ∧ blks d = [b]) := by
  unfold isStmt at h
  split at h
  · unfold isStmtL at h
    split at h
    · rename_i hw
      subst hw
      obtain ⟨a, b, c, rfl, hh⟩ := three_view h
      clear h
      have h := hh
      simp only [Bool.and_eq_true] at h
      obtain ⟨t, rfl, ht⟩ := test_view h.1
      obtain ⟨y, rfl⟩ := tup_view h.2.1
      obtain ⟨z, rfl⟩ := tup_view h.2.2
      exact .inr (.inl ⟨t, y, z, rfl, ht, rfl⟩)
    split at h
    · rename_i hw
      subst hw
      obtain ⟨a, b, rfl, hh⟩ := two_view h
      clear h
      have h := hh
      simp only [Bool.and_eq_true] at h
      obtain ⟨k, rfl, k1, k2⟩ := whole_view h.1
      obtain ⟨b, rfl⟩ := tup_view h.2
      exact .inr (.inr ⟨k, b, rfl, k1, k2, rfl⟩)
    · rename_i w r n1 n2
      obtain ⟨p, e, hp⟩ := plain_view h
      refine .inl ⟨p, e, hp, ?_⟩
      unfold blks
      simp only [if_neg n1, if_neg n2]
  · cases h
theorem trees_of {n : Nat} : ∀ {ds : List PyData}, (∀ d ∈ ds, ∃ s : Sm, d = s.d ∧ s.vd n) → ∃ b : List Sm, ds = Sm.ds b ∧ ∀ s ∈ b, Sm.vd n s
  | [], _ => ⟨[], by rw [Sm.ds], fun _ h => nomatch h⟩
  | d :: r, h => by
    obtain ⟨s, rfl, hs⟩ := h d (List.mem_cons_self ..)
    obtain ⟨b, rfl, hb⟩ := trees_of fun d hd => h d (List.mem_cons_of_mem _ hd)
    refine ⟨s :: b, by rw [Sm.ds], fun z hz => ?_⟩
    rcases List.mem_cons.mp hz with rfl | hz
    · exact hs
    · exact hb z hz
theorem ordLoop_view : ∀ (f : Nat) (st : List (Nat × PyData)) (pl : Nat), stSize st ≤ f → ordLoop f st pl = none → ∀ p ∈ st, p.1 ≤ 3 ∧ ∃ s : Sm, p.2 = s.d ∧ s.vd (3 - p.1) := by
  intro f
  induction f with
  | zero =>
    intro st pl h _ p hp
    cases st with
    | nil => cases hp
    | cons q st =>
      obtain ⟨n, d⟩ := q
      rw [stSize_cons] at h
      have := dsz_pos d
      omega
  | succ f ih =>
    intro st pl h e p hp
    cases st with
    | nil => cases hp
    | cons q st =>
      obtain ⟨n, d⟩ := q
      rw [stSize_cons] at h
      have hz := dsz_pos d
      have hi := inner_size d
      rw [ordLoop] at e
      split at e
      · cases e
      rename_i hn
      split at e
      · cases e
      rename_i hs
      have IH := ih _ _ (by rw [stSize_app, stSize_map]; omega) e
      rcases List.mem_cons.mp hp with rfl | hp
      · refine ⟨by omega, ?_⟩
        have kids : ∀ b ∈ blks d, (n = 3 → b = []) ∧ ∃ c : List Sm, b = Sm.ds c ∧ ∀ s ∈ c, Sm.vd (3 - (n + 1)) s := by
          intro b hb
          have hall : ∀ x ∈ b, n + 1 ≤ 3 ∧ ∃ s : Sm, x = s.d ∧ s.vd (3 - (n + 1)) := fun x hx =>
            IH (n + 1, x) (List.mem_append_left _ (List.mem_map.mpr ⟨x, List.mem_flatten.mpr ⟨b, hb, hx⟩, rfl⟩))
          refine ⟨fun h3 => ?_, trees_of fun x hx => (hall x hx).2⟩
          cases b with
          | nil => rfl
          | cons x r =>
            have := (hall x (List.mem_cons_self ..)).1
            omega
        have hs : isStmt d = true := by
          cases hq : isStmt d with
          | true => rfl
          | false => exact absurd hq hs
        have hn3 : n ≤ 3 := by omega
        rcases stmt_view hs with ⟨p, rfl, hp, _⟩ | ⟨t, y, z, rfl, ht, hb⟩ | ⟨k, b, rfl, k1, k2, hb⟩
        · exact ⟨.pl p, by rw [Sm.d], by cases (3 - n) <;> exact hp⟩
        · rw [hb] at kids
          obtain ⟨y3, cy, rfl, vy⟩ := kids y (by simp)
          obtain ⟨z3, cz, rfl, vz⟩ := kids z (by simp)
          refine ⟨.ifs t cy cz, by rw [Sm.d], ?_⟩
          by_cases h3 : n = 3
          · subst h3
            refine ⟨ht, ?_, ?_⟩
            · have q := y3 rfl
              cases cy with
              | nil => rfl
              | cons _ _ => rw [Sm.ds] at q; cases q
            · have q := z3 rfl
              cases cz with
              | nil => rfl
              | cons _ _ => rw [Sm.ds] at q; cases q
          · obtain ⟨m, hm⟩ : ∃ m, 3 - n = m + 1 := ⟨2 - n, by omega⟩
            have hm2 : 3 - (n + 1) = m := by omega
            rw [hm2] at vy vz
            rw [hm]
            exact ⟨ht, vy, vz⟩
        · rw [hb] at kids
          obtain ⟨y3, cy, rfl, vy⟩ := kids b (by simp)
          refine ⟨.rep k cy, by rw [Sm.d], ?_⟩
          by_cases h3 : n = 3
          · subst h3
            refine ⟨k1, k2, ?_⟩
            have q := y3 rfl
            cases cy with
            | nil => rfl
            | cons _ _ => rw [Sm.ds] at q; cases q
          · obtain ⟨m, hm⟩ : ∃ m, 3 - n = m + 1 := ⟨2 - n, by omega⟩
            have hm2 : 3 - (n + 1) = m := by omega
            rw [hm2] at vy
            rw [hm]
            exact ⟨k1, k2, vy⟩
      · exact IH p (List.mem_append_right _ hp)
theorem ordErr_view {ds : List PyData} (h : ordErr ds = none) : ∃ b : List Sm, ds = Sm.ds b ∧ ∀ s ∈ b, Sm.vd 3 s :=
  trees_of fun d hd => (ordLoop_view _ _ 0 (by rw [stSize_map]; exact Nat.le_refl _) h (0, d) (List.mem_map.mpr ⟨d, hd, rfl⟩)).2

/-! ### rows of data, stacks -/
structure DwL (M : List Addr) (K : PySem.W.Frag) (H : Hp) (vs : List V) (ds : List PyData) : Prop where
  len : vs.length = ds.length
  all : ∀ (i : Nat) (v : V) (d : PyData), vs[i]? = some v → ds[i]? = some d → Dw M K H v d
structure Stk (M : List Addr) (K : PySem.W.Frag) (H : Hp) (vs : List V) (st : List (Nat × PyData)) : Prop where
  len : vs.length = st.length
  all : ∀ (i : Nat) (v : V) (p : Nat × PyData), vs[i]? = some v → st[i]? = some p → ∃ (a : Addr) (y : V), v = .ref a ∧ H a = some (.tup [.int p.1, y]) ∧ Dw M K H y p.2
section
variable {M : List Addr} {K : PySem.W.Frag} {H H1 : Hp} {v : V} {vs us : List V} {d : PyData} {ds es : List PyData} {st tt : List (Nat × PyData)} {p : Nat × PyData}
theorem Dw.fresh {l : Addr} (h : Dw M K H v d) (n : H l = none) : Dw (l :: M) K H v d := by
  induction h with
  | non => exact .non
  | bl b => exact .bl b
  | int i => exact .int i
  | str x => exact .str x
  | tup s l _ ih => exact .tup s l ih
  | lst e k l _ ih =>
    refine .lst e (fun m => ?_) l ih
    rcases List.mem_cons.mp m with z | z
    · rw [z, n] at e; cases e
    · exact k z
  | dct e k l q _ ih =>
    refine .dct e (fun m => ?_) l q ih
    rcases List.mem_cons.mp m with z | z
    · rw [z, n] at e; cases e
    · exact k z
theorem Dw.items {ds : List PyData} (h : Dw M K H v (.tuple ds)) : ∃ (a : Addr) (xs : List V), v = .ref a ∧ SqT K H a xs ∧ DwL M K H xs ds := by
  obtain ⟨a, xs, e, s, l, q⟩ := h.isTup
  exact ⟨a, xs, e, s, l, q⟩
theorem DwL.kp (h : DwL M K H vs ds) (k : Kp M H H1) : DwL M K H1 vs ds := ⟨h.len, fun i v d e e' => (h.all i v d e e').kp k⟩
theorem DwL.kp0 (h : DwL M K H vs ds) (k : Kp [] H H1) : DwL M K H1 vs ds := ⟨h.len, fun i v d e e' => (h.all i v d e e').kp0 k⟩
theorem DwL.nil : DwL M K H [] [] := ⟨rfl, fun i v d e => by simp at e⟩
theorem DwL.cons (hv : Dw M K H v d) (h : DwL M K H vs ds) : DwL M K H (v :: vs) (d :: ds) := by
  refine ⟨by rw [List.length_cons, List.length_cons, h.len], fun i u e q q' => ?_⟩
  cases i with
  | zero =>
    cases q
    cases q'
    exact hv
  | succ i => exact h.all i u e (by simpa using q) (by simpa using q')
theorem DwL.inv (h : DwL M K H vs (d :: ds)) : ∃ v r, vs = v :: r ∧ Dw M K H v d ∧ DwL M K H r ds := by
  cases vs with
  | nil => have := h.len; simp at this
  | cons v r => exact ⟨v, r, rfl, h.all 0 v d rfl rfl, by have := h.len; simpa using this, fun i u e q q' => h.all (i + 1) u e (by simpa using q) (by simpa using q')⟩
theorem DwL.inv0 (h : DwL M K H vs []) : vs = [] := List.length_eq_zero_iff.mp h.len
theorem DwL.get {i : Nat} (h : DwL M K H vs ds) (e : vs[i]? = some v) : ∃ d, ds[i]? = some d ∧ Dw M K H v d := by
  have hi := (List.getElem?_eq_some_iff.mp e).1
  have hj : i < ds.length := by rw [← h.len]; exact hi
  exact ⟨ds[i], List.getElem?_eq_getElem hj, h.all i v _ e (List.getElem?_eq_getElem hj)⟩
theorem DwL.is1 (h : DwL M K H vs ds) (e : vs.length = 1) : ∃ (x : V) (a : PyData), vs = [x] ∧ ds = [a] ∧ Dw M K H x a := by
  have e2 := h.len
  match vs, ds, e, e2, h with
  | [x], [a], _, _, h => exact ⟨x, a, rfl, rfl, h.all 0 x a rfl rfl⟩
theorem DwL.is2 (h : DwL M K H vs ds) (e : vs.length = 2) : ∃ (x y : V) (a b : PyData), vs = [x, y] ∧ ds = [a, b] ∧ Dw M K H x a ∧ Dw M K H y b := by
  have e2 := h.len
  match vs, ds, e, e2, h with
  | [x, y], [a, b], _, _, h => exact ⟨x, y, a, b, rfl, rfl, h.all 0 x a rfl rfl, h.all 1 y b rfl rfl⟩
theorem DwL.is3 (h : DwL M K H vs ds) (e : vs.length = 3) : ∃ (x y z : V) (a b c : PyData), vs = [x, y, z] ∧ ds = [a, b, c] ∧ Dw M K H x a ∧ Dw M K H y b ∧ Dw M K H z c := by
  have e2 := h.len
  match vs, ds, e, e2, h with
  | [x, y, z], [a, b, c], _, _, h => exact ⟨x, y, z, a, b, c, rfl, rfl, h.all 0 x a rfl rfl, h.all 1 y b rfl rfl, h.all 2 z c rfl rfl⟩
theorem DwL.is4 (h : DwL M K H vs ds) (e : vs.length = 4) : ∃ (x y z u : V) (a b c d : PyData), vs = [x, y, z, u] ∧ ds = [a, b, c, d] ∧ Dw M K H x a ∧ Dw M K H y b ∧ Dw M K H z c ∧ Dw M K H u d := by
  have e2 := h.len
  match vs, ds, e, e2, h with
  | [x, y, z, u], [a, b, c, d], _, _, h => exact ⟨x, y, z, u, a, b, c, d, rfl, rfl, h.all 0 x a rfl rfl, h.all 1 y b rfl rfl, h.all 2 z c rfl rfl, h.all 3 u d rfl rfl⟩
theorem Stk.kp (h : Stk M K H vs st) (k : Kp M H H1) : Stk M K H1 vs st := ⟨h.len, fun i v p e e' => by
  obtain ⟨a, y, q1, q2, q3⟩ := h.all i v p e e'
  exact ⟨a, y, q1, k.tup q2, q3.kp k⟩⟩
theorem Stk.kp0 (h : Stk M K H vs st) (k : Kp [] H H1) : Stk M K H1 vs st := ⟨h.len, fun i v p e e' => by
  obtain ⟨a, y, q1, q2, q3⟩ := h.all i v p e e'
  exact ⟨a, y, q1, k.tup q2, q3.kp0 k⟩⟩
theorem Stk.fresh {l : Addr} (h : Stk M K H vs st) (n : H l = none) : Stk (l :: M) K H vs st := ⟨h.len, fun i v p e e' => by
  obtain ⟨a, y, q1, q2, q3⟩ := h.all i v p e e'
  exact ⟨a, y, q1, q2, q3.fresh n⟩⟩
theorem Stk.nil : Stk M K H [] [] := ⟨rfl, fun i v d e => by simp at e⟩
theorem Stk.app (h : Stk M K H vs st) (h2 : Stk M K H us tt) : Stk M K H (vs ++ us) (st ++ tt) := by
  refine ⟨by rw [List.length_append, List.length_append, h.len, h2.len], fun i u e q q' => ?_⟩
  by_cases hi : i < vs.length
  · rw [List.getElem?_append_left hi] at q
    rw [List.getElem?_append_left (by rw [← h.len]; exact hi)] at q'
    exact h.all i u e q q'
  · rw [List.getElem?_append_right (by omega)] at q
    rw [List.getElem?_append_right (by rw [← h.len]; omega), ← h.len] at q'
    exact h2.all _ u e q q'
theorem Stk.rev (h : Stk M K H vs st) : Stk M K H vs.reverse st.reverse := by
  refine ⟨by rw [List.length_reverse, List.length_reverse, h.len], fun i u e q q' => ?_⟩
  have hi : i < vs.length := by have := (List.getElem?_eq_some_iff.mp q).1; rwa [List.length_reverse] at this
  rw [List.getElem?_reverse hi] at q
  rw [List.getElem?_reverse (by rw [← h.len]; exact hi), ← h.len] at q'
  exact h.all _ u e q q'
theorem Stk.one {a : Addr} {y : V} (h : H a = some (.tup [.int p.1, y])) (hy : Dw M K H y p.2) : Stk M K H [.ref a] [p] := ⟨rfl, fun i v q e e' => by
  match i, e, e' with
  | 0, e, e' => cases e; cases e'; exact ⟨a, y, rfl, h, hy⟩⟩
theorem Stk.last (h : Stk M K H vs (st ++ [p])) : ∃ (us : List V) (a : Addr) (y : V), vs = us ++ [.ref a] ∧ Stk M K H us st ∧ H a = some (.tup [.int p.1, y]) ∧ Dw M K H y p.2 := by
  have hl := h.len
  rw [List.length_append, List.length_singleton] at hl
  have hlt : st.length < vs.length := by omega
  obtain ⟨a, y, e, q1, q2⟩ := h.all st.length vs[st.length] p (List.getElem?_eq_getElem hlt) (by simp)
  refine ⟨vs.take st.length, a, y, ?_, ⟨by rw [List.length_take]; omega, fun i u e' q q' => ?_⟩, q1, q2⟩
  · rw [← e]
    have q := List.take_append_drop st.length vs
    rw [List.drop_eq_getElem_cons hlt, List.drop_eq_nil_of_le (by omega)] at q
    exact q.symm
  · have hi : i < st.length := (List.getElem?_eq_some_iff.mp q').1
    rw [List.getElem?_take, if_pos hi] at q
    exact h.all i u e' q (by rw [List.getElem?_append_left hi]; exact q')
end

section
variable {M N : List Addr} {K : PySem.W.Frag} {H H1 : Hp} {v : V} {vs us : List V} {d : PyData} {ds es : List PyData} {st tt : List (Nat × PyData)}
theorem Dw.kpS (a : Kp N H H1) (s : ∀ b ∈ N, b ∈ M) (h : Dw M K H v d) : Dw M K H1 v d := by
  induction h with
  | non => exact .non
  | bl b => exact .bl b
  | int i => exact .int i
  | str x => exact .str x
  | tup e l _ ih => exact .tup (sqT_kp a e) l ih
  | lst e n l _ ih => exact .lst (a.get e fun m => n (s _ m)) n l ih
  | dct e n l q _ ih => exact .dct (a.get e fun m => n (s _ m)) n l q ih
theorem DwL.kpS (h : DwL M K H vs ds) (a : Kp N H H1) (s : ∀ b ∈ N, b ∈ M) : DwL M K H1 vs ds := ⟨h.len, fun i v d e e' => (h.all i v d e e').kpS a s⟩
theorem Stk.kpS (h : Stk M K H vs st) (a : Kp N H H1) (s : ∀ b ∈ N, b ∈ M) : Stk M K H1 vs st := ⟨h.len, fun i v p e e' => by
  obtain ⟨c, y, q1, q2, q3⟩ := h.all i v p e e'
  exact ⟨c, y, q1, a.tup q2, q3.kpS a s⟩⟩
theorem DwL.fresh {l : Addr} (h : DwL M K H vs ds) (n : H l = none) : DwL (l :: M) K H vs ds := ⟨h.len, fun i v d e e' => (h.all i v d e e').fresh n⟩
theorem DwL.sub (h : DwL M K H vs ds) (s : ∀ b ∈ N, b ∈ M) : DwL N K H vs ds := ⟨h.len, fun i v d e e' => (h.all i v d e e').sub s⟩
theorem Stk.sub (h : Stk M K H vs st) (s : ∀ b ∈ N, b ∈ M) : Stk N K H vs st := ⟨h.len, fun i v p e e' => by
  obtain ⟨c, y, q1, q2, q3⟩ := h.all i v p e e'
  exact ⟨c, y, q1, q2, q3.sub s⟩⟩
/-- [(n, item) for item in a tuple] -/
theorem lc_stk {te : TE} {ws : List Nat} {σ : L2.St} {Q : VK} {a : Addr} {n j : Nat} (hT : SqT K H a vs) (hL : DwL M K H vs ds) (hz : ds.length ≤ 1000000)
    (he : ∀ (x : V) (H' : Hp) (R : VK), (∀ p, H' p = none → R (.ref p) (upd H' p (.tup [.int n, x]))) → te ((wipe σ ws).set j (some x)) H' R)
    (hw : ∀ v : V, wipe ((wipe σ ws).set j (some v)) ws = wipe σ ws)
    (h : ∀ (q : Addr) (H' : Hp) (us : List V), H q = none → Kp [] H H' → H' q = some (.lst us) → Stk M K H' us (ds.map fun e => (n, e)) → Q (.ref q) H') :
    LcT K (gName j) tYes te ws σ Q (.ref a) H := by
  refine r_LcT hT fun q hq => ⟨fun i H' => ∃ us, Kp [] H H' ∧ H' q = some (.lst us) ∧ Stk (q :: M) K H' us ((ds.take i).map fun e => (n, e)), ?_, ?_, ?_, ?_⟩
  · exact ⟨[], Kp.nil.new hq, upd_same, Stk.nil⟩
  · rintro i H' ⟨us, k1, _⟩
    exact sqT_kp k1 hT
  · rintro i x H' hx ⟨us, k1, hq1, hS⟩
    obtain ⟨d, hd, hx1⟩ := hL.get hx
    refine r_name (r_LcTurn (hw _) (r_yes (ifT (he x H' _ fun p hp => ?_))))
    have hqp : q ≠ p := ne_of_none hq1 hp
    have k2 : Kp [] H' (upd H' p (.tup [.int n, x])) := Kp.nil.new hp
    have hq2 := k2.get hq1 (by simp)
    have hil : i < ds.length := (List.getElem?_eq_some_iff.mp hd).1
    have hul : us.length ≤ i := by
      rw [hS.len, List.length_map, List.length_take]
      omega
    refine r_LcEnd hq2 (by rw [sizeLine_eq]; omega) ⟨us ++ [.ref p], (k1.trans k2).own hq, upd_same, ?_⟩
    have k3 := kpW (o := .lst (us ++ [.ref p])) hq2
    have S2 := (hS.kp0 k2).kpS k3 (fun b hb => by rw [List.mem_singleton.mp hb]; exact List.mem_cons_self ..)
    have htk : ds.take (i + 1) = ds.take i ++ [d] := by rw [List.take_add_one, hd]; rfl
    rw [htk, List.map_append]
    refine S2.app (Stk.one (p := (n, d)) (k3.tup upd_same) ?_)
    exact (hx1.fresh hq).kp0 ((k1.trans k2).own hq)
  · rintro H' ⟨us, k1, hq1, hS⟩
    rw [hL.len, List.take_length] at hS
    exact h q H' us hq k1 hq1 (hS.sub fun b hb => List.mem_cons_of_mem _ hb)
end

/-! ### promises -/
def spWhole (K : PySem.W.Frag) : Sp := fun vs H Q _ => ∃ (v : V) (d : PyData) (lo hi : Int), vs = [v, .int lo, .int hi] ∧ Dw [] K H v d ∧ Q (.bl (isWhole lo hi d)) H
/-- a question about data -/
def spAsk (K : PySem.W.Frag) (f : PyData → Bool) : Sp := fun vs H Q _ => ∃ (v : V) (d : PyData), vs = [v] ∧ Dw [] K H v d ∧ dsz d ≤ 1000000 ∧ ∀ H', Kp [] H H' → Q (.bl (f d)) H'
def spAskN (K : PySem.W.Frag) (f : Nat → PyData → Bool) (n : Nat) : Sp := fun vs H Q _ => ∃ (v : V) (d : PyData), vs = [v, .int n] ∧ Dw [] K H v d ∧ dsz d ≤ 1000000 ∧ ∀ H', Kp [] H H' → Q (.bl (f n d)) H'
def spAskL (K : PySem.W.Frag) (f : List PyData → Bool) : Sp := fun vs H Q _ => ∃ (v : V) (ds : List PyData), vs = [v] ∧ Dw [] K H v (.tuple ds) ∧ dszs ds ≤ 1000000 ∧ ∀ H', Kp [] H H' → Q (.bl (f ds)) H'
/-- of a tuple that is not empty, its first item a text -/
def spAskT (K : PySem.W.Frag) (f : Str → List PyData → Bool) : Sp := fun vs H Q _ => ∃ (v : V) (w : Str) (r : List PyData), vs = [v] ∧ Dw [] K H v (.tuple (.str w :: r)) ∧ dszs r ≤ 1000000 ∧ ∀ H', Kp [] H H' → Q (.bl (f w r)) H'
def spBlocks (K : PySem.W.Frag) : Sp := fun vs H Q _ => ∃ (M : List Addr) (v : V) (d : PyData), vs = [v] ∧ Dw M K H v d ∧ isStmt d = true ∧
  ∀ (H' : Hp) (p : Addr) (xs : List V), H p = none → Kp [] H H' → H' p = some (.lst xs) → DwL M K H' xs ((blks d).map PyData.tuple) → Q (.ref p) H'
def spItems (K : PySem.W.Frag) : Sp := fun vs H Q _ => ∃ (M : List Addr) (v : V) (d : PyData) (n : Nat), vs = [v, .int n] ∧ Dw M K H v d ∧ isStmt d = true ∧ dsz d ≤ 1000000 ∧
  ∀ (H' : Hp) (p : Addr) (xs : List V), H p = none → Kp [] H H' → H' p = some (.lst xs) → Stk M K H' xs (((inner d).map fun e => (n + 1, e)).reverse) → Q (.ref p) H'
def ordD : Option (Nat × Str) → PyData
  | none => .none
  | some (p, w) => .tuple [.int p, .str w]
def spOrder (K : PySem.W.Frag) : Sp := fun vs H Q _ => ∃ (v : V) (ds : List PyData), vs = [v] ∧ Dw [] K H v (.tuple ds) ∧ dszs ds ≤ 1000000 ∧
  ∀ (H' : Hp) (r : V), Kp [] H H' → Dt K H' r (ordD (ordErr ds)) → Q r H'

/-! ### valid trees are statements -/
theorem Ex.vd.is : ∀ {n : Nat} {e : Ex}, e.vd n → isExpr n e.d = true
  | 0, _, h => h.elim
  | n + 1, .int i, h => by
    show (isName (.int i) || isWhole (-99) 99 (.int i)) = true
    have h1 := h.1
    have h2 := h.2
    simp [isName, isWhole, h1, h2]
  | n + 1, .name x, h => by
    show (isName (.str x) || isWhole (-99) 99 (.str x)) = true
    have h : isNameS x = true := h
    simp [isName, h]
  | n + 1, .bin o a b, h => by
    show (isExpr n b.d && (if o = "times" then isWhole (-9) 9 a.d else (decide (o = "plus") || decide (o = "minus")) && isExpr n a.d)) = true
    obtain ⟨hb, h⟩ := h
    rw [Ex.vd.is hb, Bool.true_and]
    rcases h with ⟨rfl, i, rfl, h1, h2⟩ | ⟨h, ha⟩
    · rw [if_pos rfl]
      show (decide (-9 ≤ i) && decide (i ≤ 9)) = true
      rw [decide_eq_true h1, decide_eq_true h2]
      rfl
    · rw [Ex.vd.is ha]
      rcases h with rfl | rfl
      · rw [if_neg (by decide +kernel), decide_eq_true rfl]
        rfl
      · rw [if_neg (by decide +kernel), decide_eq_true (p := ("minus" : Str) = "minus") rfl, Bool.or_true]
        rfl
theorem Ts.vd.isF {f : PyData → Bool} {n : Nat} {t : Ts} (h : t.vd n) (hf : ∀ u, t = .not u → f u.d = true) : isTestW f t.d = true := by
  cases t with
  | not u =>
    show isTestL f "not" [u.d] = true
    unfold isTestL
    rw [if_neg (by decide +kernel), if_neg (by decide +kernel), if_neg (by decide +kernel), if_pos rfl]
    exact hf u rfl
  | given x =>
    have q : isNameS x = true := by cases n <;> exact h
    show isTestL f "given" [.str x] = true
    unfold isTestL
    rw [if_neg (by decide +kernel), if_neg (by decide +kernel), if_pos rfl]
    exact q
  | rest e b r =>
    have q : e.vd 3 ∧ 2 ≤ b ∧ b ≤ 6 ∧ 0 ≤ r ∧ r ≤ b - 1 := by cases n <;> exact h
    obtain ⟨q, b0, b1, r0, r1⟩ := q
    show isTestL f "rest" [e.d, .int b, .int r] = true
    unfold isTestL
    rw [if_neg (by decide +kernel), if_pos rfl, isRestL, Ex.vd.is q]
    show (true && (decide (2 ≤ b) && decide (b ≤ 6)) && (decide (0 ≤ r) && decide (r ≤ b - 1))) = true
    rw [decide_eq_true b0, decide_eq_true b1, decide_eq_true r0, decide_eq_true r1]
    rfl
  | less a b =>
    have q : a.vd 3 ∧ b.vd 3 := by cases n <;> exact h
    show isTestL f "less" [a.d, b.d] = true
    unfold isTestL
    rw [if_pos rfl]
    show (isExpr 3 a.d && isExpr 3 b.d) = true
    rw [Ex.vd.is q.1, Ex.vd.is q.2]
    rfl
theorem Ts.vd.is : ∀ {n : Nat} {t : Ts}, t.vd n → isTest n t.d = true
  | 0, t, h => Ts.vd.isF h fun u e => by subst e; exact h.elim
  | n + 1, t, h => Ts.vd.isF h fun u e => by subst e; exact Ts.vd.is (n := n) h
theorem Pl.vd.is {p : Pl} (h : p.vd) : isStmt p.d = true := by
  cases p with
  | set x e =>
    show isStmtL "set" [.str x, e.d] = true
    unfold isStmtL isPlainL
    rw [if_neg (by decide +kernel), if_neg (by decide +kernel), if_pos rfl]
    show (isNameS x && isExpr 3 e.d) = true
    rw [h.1, Ex.vd.is h.2]
    rfl
  | unset x =>
    show isStmtL "unset" [.str x] = true
    unfold isStmtL isPlainL
    rw [if_neg (by decide +kernel), if_neg (by decide +kernel), if_neg (by decide +kernel), if_pos rfl]
    exact h
  | tell e =>
    show isStmtL "tell" [e.d] = true
    unfold isStmtL isPlainL
    rw [if_neg (by decide +kernel), if_neg (by decide +kernel), if_neg (by decide +kernel), if_neg (by decide +kernel), if_pos rfl]
    exact Ex.vd.is (n := 3) h
  | say x =>
    show isStmtL "say" [.str x] = true
    unfold isStmtL isPlainL
    rw [if_neg (by decide +kernel), if_neg (by decide +kernel), if_neg (by decide +kernel), if_neg (by decide +kernel), if_neg (by decide +kernel), if_pos (.inl rfl)]
    exact h
  | stop x =>
    show isStmtL "stop" [.str x] = true
    unfold isStmtL isPlainL
    rw [if_neg (by decide +kernel), if_neg (by decide +kernel), if_neg (by decide +kernel), if_neg (by decide +kernel), if_neg (by decide +kernel), if_pos (.inr rfl)]
    exact h
def Sm.kids : Sm → List Sm
  | .pl _ => []
  | .ifs _ y z => y ++ z
  | .rep _ b => b
theorem Sm.ds_app (a b : List Sm) : Sm.ds (a ++ b) = Sm.ds a ++ Sm.ds b := by rw [Sm.ds_map, Sm.ds_map, Sm.ds_map, List.map_append]
theorem Sm.vd.is {n : Nat} {s : Sm} (h : s.vd n) : isStmt s.d = true ∧ inner s.d = Sm.ds s.kids ∧ ∀ c ∈ s.kids, ∃ m, Sm.vd m c ∧ m < n := by
  cases s with
  | pl p =>
    have q : p.vd := by cases n <;> exact h
    refine ⟨by rw [Sm.d]; exact q.is, ?_, fun c hc => by cases hc⟩
    obtain ⟨u, r, e, n1, n2⟩ := Pl.hd p
    rw [Sm.d, e, Sm.kids, Sm.ds]
    unfold inner blks
    simp only [if_neg n1, if_neg n2, List.flatten_nil]
  | ifs t y z =>
    have ht : t.vd 2 := by cases n <;> exact h.1
    refine ⟨?_, ?_, fun c hc => ?_⟩
    · rw [Sm.d]
      show isStmtL "if" [t.d, .tuple (Sm.ds y), .tuple (Sm.ds z)] = true
      unfold isStmtL
      rw [if_pos rfl]
      show (isTest 2 t.d && (true && true)) = true
      rw [ht.is]
      rfl
    · rw [Sm.d, Sm.kids, Sm.ds_app]
      show [Sm.ds y, Sm.ds z].flatten = _
      simp
    · cases n with
      | zero =>
        obtain ⟨_, rfl, rfl⟩ := h
        cases hc
      | succ n =>
        rcases List.mem_append.mp hc with hc | hc
        · exact ⟨n, h.2.1 c hc, by omega⟩
        · exact ⟨n, h.2.2 c hc, by omega⟩
  | rep k b =>
    have hk : 0 ≤ k ∧ k ≤ 8 := by cases n <;> exact ⟨h.1, h.2.1⟩
    refine ⟨?_, ?_, fun c hc => ?_⟩
    · rw [Sm.d]
      show isStmtL "repeat" [.int k, .tuple (Sm.ds b)] = true
      unfold isStmtL
      rw [if_neg (by decide +kernel), if_pos rfl]
      show ((decide (0 ≤ k) && decide (k ≤ 8)) && true) = true
      rw [decide_eq_true hk.1, decide_eq_true hk.2]
      rfl
    · rw [Sm.d, Sm.kids]
      show [Sm.ds b].flatten = _
      simp
    · cases n with
      | zero =>
        obtain ⟨_, _, rfl⟩ := h
        cases hc
      | succ n => exact ⟨n, h.2.2 c hc, by omega⟩

/-! ### rows, counts -/
mutual
def Sm.rows (dep : Nat) : Sm → List (Nat × PyData)
  | .pl p => [(dep, p.d)]
  | .ifs t y z => (dep, .tuple [.str "if", t.d, .tuple (Sm.ds y), .tuple (Sm.ds z)]) :: (Sm.rowsL (dep + 1) y ++ Sm.rowsL (dep + 1) z)
  | .rep k b => (dep, .tuple [.str "repeat", .int k, .tuple (Sm.ds b)]) :: Sm.rowsL (dep + 1) b
def Sm.rowsL (dep : Nat) : List Sm → List (Nat × PyData)
  | [] => []
  | s :: r => Sm.rows dep s ++ Sm.rowsL dep r
end
theorem Sm.rowsL_app (n : Nat) : ∀ a b : List Sm, Sm.rowsL n (a ++ b) = Sm.rowsL n a ++ Sm.rowsL n b
  | [], b => by rw [List.nil_append, Sm.rowsL, List.nil_append]
  | s :: r, b => by rw [List.cons_append, Sm.rowsL, Sm.rowsL, Sm.rowsL_app n r b, List.append_assoc]
theorem Sm.rows_kids (n : Nat) (s : Sm) : Sm.rows n s = (n, s.d) :: Sm.rowsL (n + 1) s.kids := by
  cases s with
  | pl p => rw [Sm.rows, Sm.d, Sm.kids, Sm.rowsL]
  | ifs t y z => rw [Sm.rows, Sm.d, Sm.kids, Sm.rowsL_app]
  | rep k b => rw [Sm.rows, Sm.d, Sm.kids]
mutual
theorem Sm.rows_len (n : Nat) : ∀ s : Sm, (Sm.rows n s).length = s.size
  | .pl p => by rw [Sm.rows, Sm.size]; rfl
  | .ifs t y z => by rw [Sm.rows, Sm.size, List.length_cons, List.length_append, Sm.rowsL_len (n + 1) y, Sm.rowsL_len (n + 1) z]; omega
  | .rep k b => by rw [Sm.rows, Sm.size, List.length_cons, Sm.rowsL_len (n + 1) b]; omega
theorem Sm.rowsL_len (n : Nat) : ∀ b : List Sm, (Sm.rowsL n b).length = Sm.sizes b
  | [] => by rw [Sm.rowsL, Sm.sizes]; rfl
  | s :: r => by rw [Sm.rowsL, Sm.sizes, List.length_append, Sm.rows_len n s, Sm.rowsL_len n r]
end
def rowsT (T : List (Nat × Sm)) : List (Nat × PyData) := T.flatMap fun p => Sm.rows p.1 p.2
def dT (T : List (Nat × Sm)) : List (Nat × PyData) := T.map fun p => (p.1, p.2.d)
theorem rowsT_map (n : Nat) : ∀ b : List Sm, rowsT (b.map fun s => (n, s)) = Sm.rowsL n b
  | [] => by rw [Sm.rowsL]; rfl
  | s :: r => by
    have q := rowsT_map n r
    unfold rowsT at q ⊢
    rw [List.map_cons, List.flatMap_cons, q, Sm.rowsL]
theorem dT_map (n : Nat) (b : List Sm) : dT (b.map fun s => (n, s)) = (Sm.ds b).map fun e => (n, e) := by
  unfold dT
  rw [Sm.ds_map, List.map_map, List.map_map]
  rfl
def Ts.bare : Ts → Ts
  | .not t => t.bare
  | t => t
def Ts.word : Ts → Str
  | .not _ => "not"
  | .given _ => "given"
  | .rest _ _ _ => "rest"
  | .less _ _ => "less"
def Ts.high : Ts → Nat
  | .not t => t.high + 1
  | _ => 0
theorem Ts.headW {M : List Addr} {K : PySem.W.Frag} {H : Hp} {v : V} {t : Ts} (h : Dw M K H v t.d) : ∃ (a : Addr) (ys : List V), v = .ref a ∧ SqT K H a (.str t.word :: ys) ∧ atI (V.str t.word :: ys) 0 = some (V.str t.word) := by
  have key : ∀ {w : Str} {r : List PyData}, t.d = .tuple (.str w :: r) → t.word = w → ∃ (a : Addr) (ys : List V), v = .ref a ∧ SqT K H a (.str t.word :: ys) ∧ atI (V.str t.word :: ys) 0 = some (V.str t.word) := by
    intro w r e ew
    rw [e] at h
    obtain ⟨a, xs, rfl, hT, hL⟩ := h.items
    obtain ⟨x, ys, rfl, h0, hR⟩ := hL.inv
    obtain rfl := h0.isStr
    rw [ew]
    exact ⟨a, ys, rfl, hT, at_nn (Int.le_refl 0) rfl⟩
  cases t <;> exact key rfl rfl
def Sm.own (so : Str) (s : Sm) : Int := if so = "weight" then 1 else match s with
  | .ifs t _ _ => if t.bare.word = so then 1 else 0
  | _ => 0
mutual
def Sm.cnt (so : Str) : Sm → Int
  | .pl p => Sm.own so (.pl p)
  | .ifs t y z => Sm.own so (.ifs t y z) + (Sm.cnts so y + Sm.cnts so z)
  | .rep k b => Sm.own so (.rep k b) + Sm.cnts so b * k
def Sm.cnts (so : Str) : List Sm → Int
  | [] => 0
  | s :: r => Sm.cnt so s + Sm.cnts so r
end
theorem Sm.cnts_snoc (so : Str) (s : Sm) : ∀ a : List Sm, Sm.cnts so (a ++ [s]) = Sm.cnts so a + Sm.cnt so s
  | [] => by simp only [List.nil_append, Sm.cnts]; omega
  | u :: r => by simp only [List.cons_append, Sm.cnts]; rw [Sm.cnts_snoc so s r]; omega
def VdB : Nat → List Sm → Prop
  | 0, b => b = []
  | n + 1, b => ∀ s ∈ b, Sm.vd n s
def Sm.parts : Sm → List (List Sm)
  | .pl _ => []
  | .ifs _ y z => [y, z]
  | .rep _ b => [b]
theorem Sm.vd.parts {n : Nat} {s : Sm} (h : s.vd n) : ∀ b ∈ s.parts, VdB n b := by
  intro b hb
  cases s with
  | pl p => cases hb
  | ifs t y z =>
    cases n with
    | zero =>
      rcases List.mem_cons.mp hb with rfl | hb
      · exact h.2.1
      · rw [List.mem_singleton.mp hb]; exact h.2.2
    | succ n =>
      rcases List.mem_cons.mp hb with rfl | hb
      · exact h.2.1
      · rw [List.mem_singleton.mp hb]; exact h.2.2
  | rep k c =>
    cases n with
    | zero => rw [List.mem_singleton.mp hb]; exact h.2.2
    | succ n => rw [List.mem_singleton.mp hb]; exact h.2.2
theorem Sm.blks (s : Sm) : Aw.blks s.d = s.parts.map Sm.ds := by
  cases s with
  | pl p =>
    obtain ⟨u, r, e, n1, n2⟩ := Pl.hd p
    rw [Sm.d, e, Sm.parts]
    unfold Aw.blks
    simp only [if_neg n1, if_neg n2]
    rfl
  | ifs t y z => rw [Sm.d]; rfl
  | rep k b => rw [Sm.d]; rfl
/-- how often the blocks count -/
def Sm.again : Sm → Int
  | .rep k _ => k
  | _ => 1
theorem Sm.cnt_parts (so : Str) (s : Sm) : s.cnt so = s.own so + (s.parts.map (Sm.cnts so)).sum * s.again := by
  cases s with
  | pl p => simp [Sm.cnt, Sm.parts, Sm.again]
  | ifs t y z => simp [Sm.cnt, Sm.parts, Sm.again]
  | rep k b => simp [Sm.cnt, Sm.parts, Sm.again]
def errD (x : Str) : PyData := .tuple [.none, .str x]
def lim (p : List Sm) : PyData := if Sm.sizes p > 24 then errD "places" else if Sm.cnts "weight" p > 30 then errD "weight" else if Sm.cnts "rest" p > 2 then errD "rests" else if Sm.cnts "less" p > 2 then errD "comparings" else .none
open Classical in
noncomputable def treeOf (ds : List PyData) : List Sm := if h : ∃ b : List Sm, ds = Sm.ds b ∧ ∀ s ∈ b, Sm.vd 3 s then h.choose else []
theorem treeOf_spec {ds : List PyData} (h : ordErr ds = none) : ds = Sm.ds (treeOf ds) ∧ ∀ s ∈ treeOf ds, Sm.vd 3 s := by
  unfold treeOf
  rw [dif_pos (ordErr_view h)]
  exact (ordErr_view h).choose_spec
noncomputable def perr : PyData → PyData
  | .tuple ds => match ordErr ds with
    | some x => ordD (some x)
    | none => lim (treeOf ds)
  | _ => errD "program"

mutual
theorem Sm.size_dsz : ∀ s : Sm, s.size ≤ dsz s.d
  | .pl p => by rw [Sm.size]; exact dsz_pos _
  | .ifs t y z => by
    have a := Sm.sizes_dszs y
    have b := Sm.sizes_dszs z
    rw [Sm.size, Sm.d]
    simp only [dsz, dszs]
    omega
  | .rep k b => by
    have a := Sm.sizes_dszs b
    rw [Sm.size, Sm.d]
    simp only [dsz, dszs]
    omega
theorem Sm.sizes_dszs : ∀ b : List Sm, Sm.sizes b ≤ dszs (Sm.ds b)
  | [] => by rw [Sm.sizes]; exact Nat.zero_le _
  | s :: r => by
    have a := Sm.size_dsz s
    have b := Sm.sizes_dszs r
    rw [Sm.sizes, Sm.ds, dszs]
    omega
end
def spRows (K : PySem.W.Frag) : Sp := fun vs H Q _ => ∃ (M : List Addr) (v : V) (p : List Sm), vs = [v] ∧ Dw M K H v (.tuple (Sm.ds p)) ∧ (∀ s ∈ p, ∃ n, Sm.vd n s) ∧ dszs (Sm.ds p) ≤ 1000000 ∧
  ∀ (H' : Hp) (r : Addr) (us : List V), H r = none → Kp [] H H' → H' r = some (.lst us) → Stk M K H' us (Sm.rowsL 0 p) → Q (.ref r) H'
def spBare (K : PySem.W.Frag) : Sp := fun vs H Q _ => ∃ (M : List Addr) (v : V) (t : Ts), vs = [v] ∧ Dw M K H v t.d ∧ ∀ u, Dw M K H u t.bare.d → Q u H
def spOwn (K : PySem.W.Frag) : Sp := fun vs H Q _ => ∃ (M : List Addr) (v : V) (s : Sm) (so : Str), vs = [v, .str so] ∧ Dw M K H v s.d ∧ Q (.int (s.own so)) H
def spCnt (K : PySem.W.Frag) (n : Nat) : Sp := fun vs H Q _ => ∃ (M : List Addr) (v : V) (b : List Sm) (so : Str), vs = [v, .str so] ∧ Dw M K H v (.tuple (Sm.ds b)) ∧ VdB n b ∧
  ∀ H', Kp [] H H' → Q (.int (Sm.cnts so b)) H'
def spWt (K : PySem.W.Frag) : Sp := fun vs H Q _ => ∃ (M : List Addr) (v : V) (b : List Sm), vs = [v] ∧ Dw M K H v (.tuple (Sm.ds b)) ∧ VdB 4 b ∧
  ∀ H', Kp [] H H' → Q (.int (Sm.cnts "weight" b)) H'
noncomputable def spPerr (K : PySem.W.Frag) : Sp := fun vs H Q _ => ∃ (v : V) (d : PyData), vs = [v] ∧ Dw [] K H v d ∧ dsz d ≤ 1000000 ∧
  ∀ (H' : Hp) (r : V), Kp [] H H' → Dt K H' r (perr d) → Q r H'

/-! ### the law's own questions -/
def isLetS (x : Str) : Bool := decide (1 ≤ x.length) && decide (x.length ≤ 8) && x.cps.toList.all isSgn
def isLetD : PyData → Bool
  | .str x => isLetS x
  | _ => false
def spLet (K : PySem.W.Frag) : Sp := fun vs H Q _ => ∃ (v : V) (d : PyData), vs = [v, .int 8] ∧ Dw [] K H v d ∧ dsz d ≤ 1000000 ∧ ∀ H', Kp [] H H' → Q (.bl (isLetD d)) H'
theorem isLetD_str {d : PyData} (h : isLetD d = true) : ∃ x, d = .str x := by
  unfold isLetD at h
  split at h
  · exact ⟨_, rfl⟩
  · cases h
theorem isNameS_let (x : Str) : isNameS x = (isLetS x && isLet (x.cps.toList.headD 0) && !KEPTS.contains x) := by
  unfold isNameS isLetS
  cases decide (1 ≤ x.length) <;> cases decide (x.length ≤ 8) <;> cases isLet (x.cps.toList.headD 0) <;> cases x.cps.toList.all isSgn <;> rfl
theorem isName_let {d : PyData} (h : isLetD d = false) : isName d = false := by
  cases d with
  | str x =>
    show isNameS x = false
    have h : isLetS x = false := h
    rw [isNameS_let, h, Bool.false_and, Bool.false_and]
  | _ => rfl
theorem isLetS_head {x : Str} (h : isLetS x = true) : ∃ c0 cr, x.cps.toList = c0 :: cr ∧ isSgn c0 = true := by
  unfold isLetS at h
  simp only [Bool.and_eq_true, decide_eq_true_eq] at h
  obtain ⟨⟨h1, _⟩, h2⟩ := h
  cases e : x.cps.toList with
  | nil =>
    have q : x.cps.toList.length = x.length := by rw [Array.length_toList]; rfl
    rw [e, List.length_nil] at q
    omega
  | cons c r =>
    rw [e, List.all_cons, Bool.and_eq_true] at h2
    exact ⟨c, r, rfl, h2.1⟩
def DIG : Str := "0123456789"
theorem let_dig : ∀ c ∈ SGN.cps.toList, isLet c = !decide (c ∈ DIG.cps.toList) := by decide +kernel
theorem isNameS_dig {x : Str} {c0 : Nat} {cr : List Nat} (h : isLetS x = true) (e : x.cps.toList = c0 :: cr) (hd : c0 ∈ ("0123456789" : Str).cps.toList) : isNameS x = false := by
  obtain ⟨c1, cr1, e1, hs⟩ := isLetS_head h
  rw [e] at e1
  cases e1
  have q := let_dig c0 (of_decide_eq_true hs)
  rw [decide_eq_true (p := c0 ∈ DIG.cps.toList) hd] at q
  rw [isNameS_let, e]
  show (isLetS x && isLet c0 && _) = false
  rw [q, Bool.not_true, Bool.and_false, Bool.false_and]
theorem isNameS_kept {x : Str} {c0 : Nat} {cr : List Nat} (h : isLetS x = true) (e : x.cps.toList = c0 :: cr) (hd : ¬ c0 ∈ ("0123456789" : Str).cps.toList) : isNameS x = !KEPTS.contains x := by
  obtain ⟨c1, cr1, e1, hs⟩ := isLetS_head h
  rw [e] at e1
  cases e1
  have q := let_dig c0 (of_decide_eq_true hs)
  rw [decide_eq_false (p := c0 ∈ DIG.cps.toList) hd] at q
  rw [isNameS_let, e]
  show (isLetS x && isLet c0 && _) = _
  rw [q, h, Bool.not_false, Bool.true_and, Bool.true_and]
def spRest4 (K : PySem.W.Frag) : Sp := fun vs H Q _ => ∃ (v : V) (ds : List PyData), vs = [v] ∧ Dw [] K H v (.tuple ds) ∧ ds.length = 4 ∧ dszs ds ≤ 1000000 ∧ ∀ H', Kp [] H H' → Q (.bl (isRestL ds)) H'
def testZ : List (Str × Int) := [("less", 3), ("rest", 4), ("given", 2), ("not", 2)]
def stmtZ : List (Str × Int) := [("set", 3), ("unset", 2), ("tell", 2), ("say", 2), ("stop", 2), ("if", 4), ("repeat", 3)]
theorem testZ_merge : mergeK [] (szK testZ) = szK testZ := by decide +kernel
theorem stmtZ_merge : mergeK [] (szK stmtZ) = szK stmtZ := by decide +kernel
theorem szOf_none {kvs : List (Str × Int)} {w : Str} (h : ∀ p ∈ kvs, p.1 ≠ w) : szOf kvs w = 0 := by
  unfold szOf
  rw [List.find?_eq_none.mpr fun p hp => by simpa using h p hp]
  rfl
/-- by its length a test, a statement is out -/
theorem isTestL_size {f : PyData → Bool} {w : Str} {r : List PyData} (h : ((r.length + 1 : Nat) : Int) ≠ szOf testZ w) : isTestL f w r = false := by
  unfold isTestL
  split
  · rename_i e
    subst e
    rw [show szOf testZ "less" = 3 from by decide +kernel] at h
    exact two_len (by omega)
  split
  · rename_i e
    subst e
    rw [show szOf testZ "rest" = 4 from by decide +kernel] at h
    exact isRestL_len (by rw [List.length_cons]; omega)
  split
  · rename_i e
    subst e
    rw [show szOf testZ "given" = 2 from by decide +kernel] at h
    exact one_len (by omega)
  split
  · rename_i e
    subst e
    rw [show szOf testZ "not" = 2 from by decide +kernel] at h
    exact one_len (by omega)
  · rfl
theorem testZ_word {w : Str} {n : Nat} (h : ((n + 1 : Nat) : Int) = szOf testZ w) : (w = "less" ∧ n = 2) ∨ (w = "rest" ∧ n = 3) ∨ (w = "given" ∧ n = 1) ∨ (w = "not" ∧ n = 1) := by
  by_cases h1 : w = "less"
  · subst h1
    rw [show szOf testZ "less" = 3 from by decide +kernel] at h
    exact .inl ⟨rfl, by omega⟩
  by_cases h2 : w = "rest"
  · subst h2
    rw [show szOf testZ "rest" = 4 from by decide +kernel] at h
    exact .inr (.inl ⟨rfl, by omega⟩)
  by_cases h3 : w = "given"
  · subst h3
    rw [show szOf testZ "given" = 2 from by decide +kernel] at h
    exact .inr (.inr (.inl ⟨rfl, by omega⟩))
  by_cases h4 : w = "not"
  · subst h4
    rw [show szOf testZ "not" = 2 from by decide +kernel] at h
    exact .inr (.inr (.inr ⟨rfl, by omega⟩))
  · rw [szOf_none (fun p hp => by
      simp only [testZ, List.mem_cons, List.not_mem_nil, or_false] at hp
      rcases hp with rfl | rfl | rfl | rfl <;> exact fun e => by first | exact h1 e.symm | exact h2 e.symm | exact h3 e.symm | exact h4 e.symm)] at h
    omega
theorem isWord_let {x : Str} (h : isLetS x = true) : isWordS x = !decide (x = "unsure") := by
  unfold isLetS at h
  unfold isWordS
  simp only [Bool.and_eq_true] at h
  rw [h.1.1, h.1.2, h.2, Bool.true_and, Bool.true_and, Bool.and_true]
theorem isWord_let0 {d : PyData} (h : isLetD d = false) : isWord d = false := by
  cases d with
  | str x =>
    show isWordS x = false
    have h : isLetS x = false := h
    unfold isLetS at h
    unfold isWordS
    cases h1 : decide (1 ≤ x.length) <;> cases h2 : decide (x.length ≤ 8) <;> cases h3 : x.cps.toList.all isSgn <;> rw [h1, h2, h3] at h <;> first | (cases h; done) | simp
  | _ => rfl
theorem isStmtL_size {w : Str} {r : List PyData} (h : ((r.length + 1 : Nat) : Int) ≠ szOf stmtZ w) : isStmtL w r = false := by
  unfold isStmtL isPlainL
  split
  · rename_i e
    subst e
    rw [show szOf stmtZ "if" = 4 from by decide +kernel] at h
    exact three_len (by omega)
  split
  · rename_i e
    subst e
    rw [show szOf stmtZ "repeat" = 3 from by decide +kernel] at h
    exact two_len (by omega)
  split
  · rename_i e
    subst e
    rw [show szOf stmtZ "set" = 3 from by decide +kernel] at h
    exact two_len (by omega)
  split
  · rename_i e
    subst e
    rw [show szOf stmtZ "unset" = 2 from by decide +kernel] at h
    exact one_len (by omega)
  split
  · rename_i e
    subst e
    rw [show szOf stmtZ "tell" = 2 from by decide +kernel] at h
    exact one_len (by omega)
  split
  · rename_i e
    rcases e with rfl | rfl
    · rw [show szOf stmtZ "say" = 2 from by decide +kernel] at h
      exact one_len (by omega)
    · rw [show szOf stmtZ "stop" = 2 from by decide +kernel] at h
      exact one_len (by omega)
  · rfl
theorem stmtZ_word {w : Str} {n : Nat} (h : ((n + 1 : Nat) : Int) = szOf stmtZ w) : (w = "set" ∧ n = 2) ∨ (w = "unset" ∧ n = 1) ∨ (w = "tell" ∧ n = 1) ∨ (w = "say" ∧ n = 1) ∨ (w = "stop" ∧ n = 1) ∨ (w = "if" ∧ n = 3) ∨ (w = "repeat" ∧ n = 2) := by
  by_cases h0 : w = "set"
  · subst h0
    rw [show szOf stmtZ "set" = 3 from by decide +kernel] at h
    exact .inl ⟨rfl, by omega⟩
  by_cases h1 : w = "unset"
  · subst h1
    rw [show szOf stmtZ "unset" = 2 from by decide +kernel] at h
    exact .inr (.inl ⟨rfl, by omega⟩)
  by_cases h2 : w = "tell"
  · subst h2
    rw [show szOf stmtZ "tell" = 2 from by decide +kernel] at h
    exact .inr (.inr (.inl ⟨rfl, by omega⟩))
  by_cases h3 : w = "say"
  · subst h3
    rw [show szOf stmtZ "say" = 2 from by decide +kernel] at h
    exact .inr (.inr (.inr (.inl ⟨rfl, by omega⟩)))
  by_cases h4 : w = "stop"
  · subst h4
    rw [show szOf stmtZ "stop" = 2 from by decide +kernel] at h
    exact .inr (.inr (.inr (.inr (.inl ⟨rfl, by omega⟩))))
  by_cases h5 : w = "if"
  · subst h5
    rw [show szOf stmtZ "if" = 4 from by decide +kernel] at h
    exact .inr (.inr (.inr (.inr (.inr (.inl ⟨rfl, by omega⟩)))))
  by_cases h6 : w = "repeat"
  · subst h6
    rw [show szOf stmtZ "repeat" = 3 from by decide +kernel] at h
    exact .inr (.inr (.inr (.inr (.inr (.inr (⟨rfl, by omega⟩))))))
  rw [szOf_none (fun p hp => by
    simp only [stmtZ, List.mem_cons, List.not_mem_nil, or_false] at hp
    rcases hp with rfl | rfl | rfl | rfl | rfl | rfl | rfl <;> exact fun e => by first | exact h0 e.symm | exact h1 e.symm | exact h2 e.symm | exact h3 e.symm | exact h4 e.symm | exact h5 e.symm | exact h6 e.symm)] at h
  omega

def cnt4 (b : List Sm) : List V := [.int (Sm.sizes b), .int (Sm.cnts "weight" b), .int (Sm.cnts "rest" b), .int (Sm.cnts "less" b)]
def spCnt4 (K : PySem.W.Frag) (n : Nat) : Sp := fun vs H Q _ => ∃ (M : List Addr) (v : V) (b : List Sm), vs = [v] ∧ Dw M K H v (.tuple (Sm.ds b)) ∧ VdB n b ∧
  ∀ (H' : Hp) (p : Addr), H p = none → Kp [] H H' → H' p = some (.lst (cnt4 b)) → Q (.ref p) H'
def Sm.wd : Sm → Str
  | .ifs t _ _ => t.bare.word
  | _ => "none"
/-- a test on its way to the bare one, which has this word -/
def HdT (M : List Addr) (K : PySem.W.Frag) (H : Hp) (v : V) (wd : Str) (m : Nat) : Prop :=
  (∃ t : Ts, Dw M K H v t.d ∧ t.bare.word = wd ∧ t.high = m) ∨ (∃ a : Addr, v = .ref a ∧ SqT K H a [.str "none"] ∧ wd = "none" ∧ m = 0)
def sumZ (b : List (List Sm)) : Int := (b.map fun c => ((Sm.sizes c : Nat) : Int)).sum
def sumC (so : Str) (b : List (List Sm)) : Int := (b.map (Sm.cnts so)).sum
theorem sumZ_snoc (a : List (List Sm)) (c : List Sm) : sumZ (a ++ [c]) = sumZ a + (Sm.sizes c : Nat) := by unfold sumZ; simp
theorem sumC_snoc (so : Str) (a : List (List Sm)) (c : List Sm) : sumC so (a ++ [c]) = sumC so a + Sm.cnts so c := by unfold sumC; simp
def own4 (s : Sm) (b : List (List Sm)) : List V := [.int (1 + sumZ b), .int (s.own "weight" + s.again * sumC "weight" b), .int (s.own "rest" + s.again * sumC "rest" b), .int (s.own "less" + s.again * sumC "less" b)]
theorem Sm.size_sum (s : Sm) : ((s.size : Nat) : Int) = 1 + sumZ s.parts := by
  unfold sumZ
  cases s <;> (rw [Sm.size]; simp [Sm.parts]; try omega)
theorem Sm.cnt_sum (so : Str) (s : Sm) : s.cnt so = s.own so + s.again * sumC so s.parts := by
  rw [Sm.cnt_parts, Int.mul_comm]
  rfl
theorem Sm.own_wd (s : Sm) (so : Str) (h : so ≠ "weight") (h2 : so ≠ "none") : s.own so = if s.wd = so then 1 else 0 := by
  unfold Sm.own
  rw [if_neg h]
  cases s with
  | ifs t y z => rfl
  | pl p => exact (if_neg (Ne.symm h2)).symm
  | rep k b => exact (if_neg (Ne.symm h2)).symm
theorem own4_nil (s : Sm) : [V.int 1, V.int 1, V.int (if decide (V.str s.wd = V.str "rest") = true then 1 else 0), V.int (if decide (V.str s.wd = V.str "less") = true then 1 else 0)] = own4 s [] := by
  unfold own4 sumZ sumC
  rw [Sm.own_wd s "rest" (by decide +kernel) (by decide +kernel), Sm.own_wd s "less" (by decide +kernel) (by decide +kernel), show s.own "weight" = 1 from if_pos rfl]
  simp only [List.map_nil, List.sum_nil, Int.mul_zero, Int.add_zero, decide_eq_true_eq, V.str.injEq]
theorem own4_snoc (s : Sm) (a : List (List Sm)) (c : List Sm) : own4 s (a ++ [c]) = [.int (1 + sumZ a + (Sm.sizes c : Nat)), .int (s.own "weight" + s.again * sumC "weight" a + s.again * Sm.cnts "weight" c), .int (s.own "rest" + s.again * sumC "rest" a + s.again * Sm.cnts "rest" c),
    .int (s.own "less" + s.again * sumC "less" a + s.again * Sm.cnts "less" c)] := by
  unfold own4
  rw [sumZ_snoc, sumC_snoc, sumC_snoc, sumC_snoc, Int.mul_add, Int.mul_add, Int.mul_add]
  simp only [Int.add_assoc]
theorem cnt4_snoc (a : List Sm) (s : Sm) : cnt4 (a ++ [s]) = [.int ((Sm.sizes a : Nat) + (1 + sumZ s.parts)), .int (Sm.cnts "weight" a + (s.own "weight" + s.again * sumC "weight" s.parts)),
    .int (Sm.cnts "rest" a + (s.own "rest" + s.again * sumC "rest" s.parts)), .int (Sm.cnts "less" a + (s.own "less" + s.again * sumC "less" s.parts))] := by
  unfold cnt4
  rw [Sm.cnts_snoc, Sm.cnts_snoc, Sm.cnts_snoc, Sm.sizes_snoc, Sm.cnt_sum, Sm.cnt_sum, Sm.cnt_sum, ← Sm.size_sum]
  rfl
theorem kept_mk {K : PySem.W.Frag} {h : Heap} {mg : Str → Option Value} {a : Addr} {od : Option Addr} {its : Array Value} {n : Nat} {sl : Array (Option Value)} (X : K.In h) (G : h.Ns mainGlobals mg)
    (z1 : PySem.W.nsIn K mainGlobals "KEPT" = some (some (.ref a))) (z2 : K.lookup a = some ⟨.type "tuple", od, .seq its n, sl⟩) (z3 : its.size ≤ 1000) (z4 : Vals (KEPTS.map V.str) its.toList) :
    ∃ a, mg "KEPT" = some (.ref a) ∧ ∀ H : Hp, SqT K H a (KEPTS.map V.str) :=
  ⟨a, PySem.W.mg_of X G z1, fun H => .inr ⟨_, its, n, z2, rfl, rfl, by rw [sizeLine_eq]; omega, z4⟩⟩
end Aw

/-! k30: the makers' promises, the end's facts -/
namespace Aw
open PySem PySem.Spec L2

/-- data is made, of at most so great a size -/
def spMk (K : PySem.W.Frag) (z : Nat) : Sp := fun vs H Q _ => ∃ (d c : Addr) (n : Int), vs = [.ref d] ∧ Deck H d c n ∧ n < 10 ^ 11 ∧
  ∀ (H' : Hp) (v : V) (ds : List PyData) (n' : Int), Deck H' d c n' → n ≤ n' → n' ≤ n + 100 → Kp [d, c] H H' → Dt K H' v (.tuple ds) → dszs ds ≤ z → Q v H'
theorem dszs_rep (d : PyData) : ∀ n : Nat, dszs (List.replicate n d) = n * dsz d
  | 0 => by rw [List.replicate_zero, dszs, Nat.zero_mul]
  | n + 1 => by rw [List.replicate_succ, dszs, dszs_rep d n, Nat.add_mul, Nat.one_mul, Nat.add_comm]
theorem flat_rep {α : Type} (x : α) : ∀ n : Nat, (List.replicate n [x]).flatten = List.replicate n x
  | 0 => rfl
  | n + 1 => by rw [List.replicate_succ, List.flatten_cons, flat_rep x n]; rfl
/-- [written] * draw -/
theorem rep_draw {K : PySem.W.Frag} {σ : L2.St} {H : Hp} {Q : VK} {E : XK} {te : TE} {x : PyData} {d c : Addr} {n m : Int} (a : CD K σ H te x) (e0 : σ[0]? = some (some (.ref d)))
    (D : Deck H d c n) (hn : n < 10 ^ 12) (h1 : 1 ≤ m) (h2 : m ≤ 1000)
    (k : ∀ (H' : Hp) (p : Addr) (r : Nat) (vs : List V), (r : Int) < m → Deck H' d c (n + 1) → Kp [d, c] H H' → H p = none → p ≠ d → p ≠ c → H' p = some (.lst vs) → DtL K H' vs (List.replicate r x) → Q (.ref p) H') :
    tOp rRep (tLst (tCons te tNil)) (tCall spDraw [] E (tCons (tVar 0) (tCons (tC (.int m)) tNil))) σ H Q := by
  refine r_op (r_lst (r_cons (a.use fun H1 v k1 hv => r_nil ⟨by simp [sizeLine_eq], fun l hl => ?_⟩)))
  have k2 : Kp [] H (upd H1 l (.lst [v])) := k1.new hl
  have hv2 : Dt K (upd H1 l (.lst [v])) v x := hv.kp (Kp.nil.new hl)
  have hl2 : upd H1 l (.lst [v]) l = some (.lst [v]) := upd_same
  have hl0 : H l = none := k1.free (fun b hb => by cases hb) hl
  have D2 := D.kp k2 (by simp) (by simp)
  have f2 := D.fresh hl0
  have kk2 : Kp [d, c] H (upd H1 l (.lst [v])) := k2.sub D.ls (by simp)
  generalize upd H1 l (.lst [v]) = H2 at k2 hv2 hl2 D2 kk2
  refine r_call (r_cons (r_var e0 (r_cons (r_C (r_nil ?_)))))
  refine spDraw.use D2 hn h1 (by omega) fun H3 r r0 r1 D3 k3 => ?_
  have hl3 := k3.get hl2 (by simp [f2.1, f2.2])
  refine r_rep hl3 r0 (by omega) (by simp) fun p hp => ?_
  have k4 : Kp [] H3 (upd H3 p (.lst (List.replicate r.toNat [v]).flatten)) := Kp.nil.new hp
  have hp0 : H p = none := (kk2.trans k3).free D3.ls hp
  have fp := D.fresh hp0
  refine k _ p r.toNat _ (by omega) (D3.kp k4 (by simp) (by simp)) ((kk2.trans k3).new hp) hp0 fp.1 fp.2 upd_same ?_
  have q := DtL.rep (DtL.cons ((hv2.kp k3).kp k4) DtL.nil) r.toNat
  rw [flat_rep x] at q
  exact q
theorem Sm.cnts_nonneg {n : Nat} : ∀ {so : Str} {b : List Sm}, VdB n b → 0 ≤ Sm.cnts so b := by
  induction n with
  | zero =>
    intro so b h
    have h : b = [] := h
    subst h
    rw [Sm.cnts]
    exact Int.le_refl 0
  | succ n ih =>
    intro so b h
    induction b with
    | nil => rw [Sm.cnts]; exact Int.le_refl 0
    | cons s r ihr =>
      have h1 := ihr fun z hz => h z (List.mem_cons_of_mem _ hz)
      have h2 : 0 ≤ Sm.cnt so s := by
        have hs := h s (List.mem_cons_self ..)
        have ho : 0 ≤ s.own so := by
          unfold Sm.own
          split
          · omega
          · split
            · split <;> omega
            · omega
        rw [Sm.cnt_parts]
        have hp : 0 ≤ (s.parts.map (Sm.cnts so)).sum := by
          have hq := hs.parts
          generalize s.parts = ps at hq
          induction ps with
          | nil => exact Int.le_refl 0
          | cons p ps ihp =>
            rw [List.map_cons, List.sum_cons]
            have a := ih (so := so) (hq p (List.mem_cons_self ..))
            have c := ihp fun b hb => hq b (List.mem_cons_of_mem _ hb)
            omega
        have ha : 0 ≤ s.again := by
          cases s with
          | rep k b => cases n <;> exact hs.1
          | pl p => exact Int.le_of_lt Int.zero_lt_one
          | ifs t y z => exact Int.le_of_lt Int.zero_lt_one
        have := Int.mul_nonneg hp ha
        omega
      rw [Sm.cnts]
      omega
theorem ordLoop_place : ∀ (f : Nat) (st : List (Nat × PyData)) (pl : Nat) (p : Nat) (x : Str), ordLoop f st pl = some (p, x) → p ≤ pl + f ∧ (x = "nest" ∨ x = "statement") := by
  intro f
  induction f with
  | zero =>
    intro st pl p x h
    cases st <;> cases h
  | succ f ih =>
    intro st pl p x h
    cases st with
    | nil => cases h
    | cons q st =>
      obtain ⟨n, d⟩ := q
      rw [ordLoop] at h
      split at h
      · cases h
        exact ⟨by omega, .inl rfl⟩
      split at h
      · cases h
        exact ⟨by omega, .inr rfl⟩
      · have := ih _ _ _ _ h
        exact ⟨by omega, this.2⟩
theorem Shw.int {i : Int} {k : Nat} (h1 : -(2 ^ 64) < i) (h2 : i < 2 ^ 64) : Shw (.int i) k 70 := by
  refine ⟨by rw [PyData.showable]; exact decide_eq_true (log2_small h1 h2), by rw [PyData.hasDict], by rw [PyData.depth]; exact Nat.zero_le _, ?_⟩
  rw [PyData.shown]
  have h : i.natAbs.log2 < 64 := by
    by_cases h : i.natAbs = 0
    · rw [h]
      decide
    · exact (Nat.log2_lt h).mpr (show i.natAbs < 2 ^ 64 by omega)
  have q := int_text_length_le (k := 64) (by decide) h
  show (Str.ofString (toString i)).length ≤ 70
  rw [ofString_length]
  omega
theorem Shw.perr (d : PyData) (hz : dsz d ≤ 1000000) : Shw (perr d) 1 1000 := by
  have lit : ∀ x : Str, (PyData.strOk x && decide (x.length ≤ 10)) = true → ∀ e : PyData, Shw e 0 200 → Shw (.tuple [e, .str x]) 1 1000 := fun x hx e he =>
    (Shw.tup (k := 0) (n := 200) fun y hy => by
      simp only [List.mem_cons, List.not_mem_nil, or_false] at hy
      rcases hy with rfl | rfl
      · exact he
      · exact (Shw.str (k := 0) (Sok.lit hx)).mono (by omega) (by omega)).mono (by omega) (by simp)
  have er : ∀ x : Str, (PyData.strOk x && decide (x.length ≤ 10)) = true → Shw (errD x) 1 1000 := fun x hx => lit x hx _ ((Shw.non (k := 0)).mono (by omega) (by omega))
  cases d with
  | tuple ds =>
    rw [dsz] at hz
    rw [Aw.perr]
    cases ho : ordErr ds with
    | some x =>
      obtain ⟨p, x⟩ := x
      have q := ordLoop_place _ _ _ _ _ ho
      refine lit x ?_ (.int p) ((Shw.int (k := 0) (by omega) (by omega)).mono (by omega) (by omega))
      rcases q.2 with rfl | rfl <;> decide +kernel
    | none =>
      show Shw (lim (treeOf ds)) 1 1000
      unfold lim
      split
      · exact er _ (by decide +kernel)
      split
      · exact er _ (by decide +kernel)
      split
      · exact er _ (by decide +kernel)
      split
      · exact er _ (by decide +kernel)
      · exact (Shw.non (k := 0)).mono (by omega) (by omega)
  | _ => exact er _ (by decide +kernel)
theorem Sm.vd.mono {m : Nat} : ∀ {n : Nat} {s : Sm}, s.vd m → m ≤ n → s.vd n := by
  induction m with
  | zero =>
    intro n s h hn
    cases s with
    | pl p => cases n <;> exact h
    | ifs t y z =>
      obtain ⟨h1, rfl, rfl⟩ := h
      cases n
      · exact ⟨h1, rfl, rfl⟩
      · exact ⟨h1, (fun _ q => nomatch q), (fun _ q => nomatch q)⟩
    | rep k b =>
      obtain ⟨h1, h2, rfl⟩ := h
      cases n
      · exact ⟨h1, h2, rfl⟩
      · exact ⟨h1, h2, (fun _ q => nomatch q)⟩
  | succ m ih =>
    intro n s h hn
    obtain ⟨n, rfl⟩ : ∃ k, n = k + 1 := ⟨n - 1, by omega⟩
    cases s with
    | pl p => exact h
    | ifs t y z => exact ⟨h.1, fun s q => ih (h.2.1 s q) (by omega), fun s q => ih (h.2.2 s q) (by omega)⟩
    | rep k b => exact ⟨h.1, h.2.1, fun s q => ih (h.2.2 s q) (by omega)⟩
theorem Sm.len_sizes : ∀ b : List Sm, b.length ≤ Sm.sizes b
  | [] => Nat.zero_le _
  | s :: r => by
    have := Sm.len_sizes r
    have q : 1 ≤ s.size := by cases s <;> (rw [Sm.size]; try omega)
    rw [Sm.sizes, List.length_cons]
    omega
theorem ordLoop_vd : ∀ (f : Nat) (st : List (Nat × PyData)) (pl : Nat), stSize st ≤ f → (∀ p ∈ st, p.1 ≤ 3 ∧ ∃ s : Sm, p.2 = s.d ∧ s.vd (3 - p.1)) → ordLoop f st pl = none := by
  intro f
  induction f with
  | zero =>
    intro st pl h _
    cases st with
    | nil => rfl
    | cons q st =>
      obtain ⟨n, d⟩ := q
      rw [stSize_cons] at h
      have := dsz_pos d
      omega
  | succ f ih =>
    intro st pl h hv
    cases st with
    | nil => rfl
    | cons q st =>
      obtain ⟨n, d⟩ := q
      rw [stSize_cons] at h
      have hz := dsz_pos d
      have hi := inner_size d
      obtain ⟨hn, s, hd, hs⟩ := hv (n, d) (List.mem_cons_self ..)
      have hd : d = s.d := hd
      subst hd
      obtain ⟨h1, h2, h3⟩ := hs.is
      rw [ordLoop, if_neg (by omega), if_neg (by rw [h1]; decide)]
      refine ih _ _ (by rw [stSize_app, stSize_map]; omega) fun p hp => ?_
      rcases List.mem_append.mp hp with hp | hp
      · obtain ⟨e, he, rfl⟩ := List.mem_map.mp hp
        rw [h2, Sm.ds_map] at he
        obtain ⟨c, hc, rfl⟩ := List.mem_map.mp he
        obtain ⟨m, hm, hlt⟩ := h3 c hc
        have hn' : n ≤ 3 := hn
        have hlt' : m < 3 - n := hlt
        refine ⟨show n + 1 ≤ 3 by omega, c, rfl, ?_⟩
        exact hm.mono (show m ≤ 3 - (n + 1) by omega)
      · exact hv p (List.mem_cons_of_mem _ hp)
theorem perr_many {n : Nat} (h : 25 ≤ n) : perr (.tuple (List.replicate n (.tuple [.str "say", .str "go"]))) = errD "places" := by
  have ho : ordErr (List.replicate n (.tuple [.str "say", .str "go"])) = none := by
    refine ordLoop_vd _ _ 0 (by rw [stSize_map]; exact Nat.le_refl _) fun p hp => ?_
    obtain ⟨e, he, rfl⟩ := List.mem_map.mp hp
    refine ⟨Nat.zero_le _, .pl (.say "go"), ?_, ?_⟩
    · rw [List.eq_of_mem_replicate he]
      rfl
    · show isWordS "go" = true
      decide +kernel
  rw [perr, ho]
  show lim (treeOf _) = _
  unfold lim
  obtain ⟨e, _⟩ := treeOf_spec ho
  have q : n ≤ Sm.sizes (treeOf (List.replicate n (.tuple [.str "say", .str "go"]))) := by
    have l := congrArg List.length e
    rw [List.length_replicate, Sm.ds_map, List.length_map] at l
    exact Nat.le_trans (Nat.le_of_eq l) (Sm.len_sizes _)
  rw [if_pos (by omega)]
theorem rep_draw2 {K : PySem.W.Frag} {σ : L2.St} {H : Hp} {Q : VK} {E : XK} {te : TE} {x : PyData} {ds : List PyData} {p d c : Addr} {vs : List V} {n m : Int} (a : CD K σ H te x) (e0 : σ[0]? = some (some (.ref d)))
    (hp : H p = some (.lst vs)) (hd : p ≠ d) (hc : p ≠ c) (hv : DtL K H vs ds) (hz : ds.length ≤ 10000) (D : Deck H d c n) (hn : n < 10 ^ 12) (h1 : 1 ≤ m) (h2 : m ≤ 1000)
    (k : ∀ (H' : Hp) (q : Addr) (r : Nat) (ws : List V), (r : Int) < m → Deck H' d c (n + 1) → Kp [d, c] H H' → q ≠ d → q ≠ c → H' q = some (.lst ws) → DtL K H' ws (ds ++ List.replicate r x) → Q (.ref q) H') :
    tOp rRep (tLst (tCons te tNil)) (tCall spDraw [] E (tCons (tVar 0) (tCons (tC (.int m)) tNil))) σ H (fun y H2 => rCat (.ref p) y H2 Q) := by
  refine rep_draw a e0 D hn h1 h2 fun H1 q r us hr D1 k1 q0 qd qc hq hu => ?_
  have hp1 := k1.get hp (by simp [hd, hc])
  have hv1 := hv.kp k1
  have l1 := hv1.len
  have l2 := hu.len
  rw [List.length_replicate] at l2
  refine r_cat hp1 hq (by rw [sizeLine_eq]; omega) fun t ht => ?_
  have k2 : Kp [] H1 (upd H1 t (.lst (vs ++ us))) := Kp.nil.new ht
  have f := D1.fresh ht
  exact k _ t r _ hr (D1.kp k2 (by simp) (by simp)) (k1.new ht) f.1 f.2 upd_same ((hv1.app hu).kp k2)
/-! ### written ints, tuples many times, tuples put together -/
def CI (σ : L2.St) (ti : TE) (k : Int) : Prop := ∀ (H : Hp) (Q : VK), Q (.int k) H → ti σ H Q
section
variable {K : PySem.W.Frag} {σ : L2.St} {H0 : Hp} {te ta tb ti : TE} {ds es : List PyData} {i j k : Int}
theorem ci_int : CI σ (tC (.int k)) k := fun H Q h => h
theorem ci_var {n : Nat} (e : σ[n]? = some (some (.int k))) : CI σ (tVar n) k := fun H Q h => ⟨_, e, h⟩
theorem ci_add (a : CI σ ta i) (b : CI σ tb j) : CI σ (tOp (rI0 fun i j => .int (i + j)) ta tb) (i + j) := fun H Q h => r_op (a _ _ (b _ _ (r_I0 h)))
theorem cd_ci (a : CI σ te k) : CD K σ H0 te (.int k) := fun H Q _ h => a H Q (h H _ Kp.nil (.int k))
theorem cd_repW (a : CD K σ H0 te (.tuple ds)) (b : CI σ ti k) (h0 : ds ≠ []) (h1 : 2 ≤ k) (h2 : k ≤ 100000) (h3 : ds.length ≤ 100) :
    CD K σ H0 (tOp (rRepW K) te ti) (.tuple (List.replicate k.toNat ds).flatten) := fun H Q k0 h =>
  a H _ k0 fun H1 v k1 hv => b _ _ (by
    obtain ⟨p, xs, rfl, hT, hL⟩ := hv.items
    refine r_repW hT (fun e => h0 ?_) h1 h2 (by rw [hL.len]; exact h3) fun q hq => h _ _ (k1.new hq) (((hL.rep _).kp (Kp.nil.new hq)).tup upd_same)
    have q := hL.len
    rw [e] at q
    exact List.length_eq_zero_iff.mp q.symm)
theorem r_catA {H : Hp} {Q : VK} {v u : V} (hv : Dt K H v (.tuple ds)) (hu : Dt K H u (.tuple es)) (hz : ds.length + es.length ≤ 16777216)
    (h : ∀ H' w, Kp [] H H' → Dt K H' w (.tuple (ds ++ es)) → Q w H') : rCatA K v u H Q := by
  obtain ⟨a, xs, rfl, ha, la⟩ := hv.items
  obtain ⟨b, ys, rfl, hb, lb⟩ := hu.items
  refine ⟨a, b, xs, ys, rfl, rfl, ha, hb, by rw [la.len, lb.len, sizeLine_eq]; exact hz, fun e => ?_, fun _ e => ?_, fun _ _ p hp => ?_⟩
  · have q := la.len
    rw [e] at q
    obtain rfl : ds = [] := List.length_eq_zero_iff.mp q.symm
    exact h _ _ Kp.nil hu
  · have q := lb.len
    rw [e] at q
    obtain rfl : es = [] := List.length_eq_zero_iff.mp q.symm
    rw [List.append_nil] at h
    exact h _ _ Kp.nil hv
  · exact h _ _ (Kp.nil.new hp) (((la.app lb).kp (Kp.nil.new hp)).tup upd_same)
theorem cd_cat (a : CD K σ H0 ta (.tuple ds)) (b : CD K σ H0 tb (.tuple es)) (hz : ds.length + es.length ≤ 16777216) : CD K σ H0 (tOp (rCatA K) ta tb) (.tuple (ds ++ es)) := fun H Q k0 h =>
  a H _ k0 fun H1 v k1 hv => b H1 _ (k0.trans k1) fun H2 u k2 hu => r_catA (hv.kp k2) hu hz fun H3 w k3 hw => h _ _ ((k1.trans k2).trans k3) hw
end
theorem Dt.ne_none {K : PySem.W.Frag} {H : Hp} {v : V} {d : PyData} (h : Dt K H v d) (n : d ≠ .none) : v ≠ .non := by
  intro e
  subst e
  cases h
  exact n rfl
theorem perr_none {d : PyData} (h : perr d = .none) : ∃ b : List Sm, d = .tuple (Sm.ds b) ∧ (∀ s ∈ b, Sm.vd 3 s) ∧ Sm.sizes b ≤ 24 ∧ Sm.cnts "weight" b ≤ 30 ∧ Sm.cnts "rest" b ≤ 2 ∧ Sm.cnts "less" b ≤ 2 := by
  cases d with
  | tuple ds =>
    rw [perr] at h
    cases ho : ordErr ds with
    | some x =>
      obtain ⟨p, x⟩ := x
      rw [ho] at h
      cases h
    | none =>
      rw [ho] at h
      have h : lim (treeOf ds) = .none := h
      obtain ⟨e, hv⟩ := treeOf_spec ho
      refine ⟨treeOf ds, by rw [← e], hv, ?_⟩
      unfold lim errD at h
      split at h
      · cases h
      split at h
      · cases h
      split at h
      · cases h
      split at h
      · cases h
      · omega
  | _ => cases h
end Aw

/-! makers of programs within all bounds: promises -/
namespace Aw
open PySem PySem.Spec L2

/-! ### one of a written list -/
theorem one_disp {K : PySem.W.Frag} {H : Hp} {Q : VK} {E : XK} {d c : Addr} {n : Int} {xs : List V} (D : Deck H d c n) (hn : n < 10 ^ 12) (h1 : 1 ≤ xs.length) (h2 : xs.length ≤ 1000)
    (k : ∀ (H' : Hp) (x : V), x ∈ xs → Deck H' d c (n + 1) → Kp [d, c] H H' → Q x H') : xs.length ≤ sizeLine ∧ ∀ p, H p = none → spOne K [.ref d, .ref p] (upd H p (.lst xs)) Q E := by
  refine ⟨by rw [sizeLine_eq]; omega, fun p hp => ?_⟩
  have k1 : Kp [] H (upd H p (.lst xs)) := Kp.nil.new hp
  have f := D.fresh hp
  refine spOne.list (D.kp k1 (by simp) (by simp)) hn (SqL.of upd_same) f.1 f.2 h1 (by omega) fun H' i x hx D' k' => ?_
  exact k H' x (List.mem_of_getElem? hx) D' (((Kp.refl D.ls).new hp).trans k')

/-! ### names -/
structure NmV (H : Hp) (a : Addr) (xs : List Str) : Prop where
  h : H a = some (.lst (xs.map V.str))
  len : xs.length = 4
  ok : ∀ x ∈ xs, isNameS x = true
theorem NmV.kp {M : List Addr} {H H1 : Hp} {a : Addr} {xs : List Str} (h : NmV H a xs) (k : Kp M H H1) (n : a ∉ M) : NmV H1 a xs := ⟨k.get h.h n, h.len, h.ok⟩
theorem NmV.item {H : Hp} {a : Addr} {xs : List Str} (h : NmV H a xs) {i : Nat} {x : V} (e : (xs.map V.str)[i]? = some x) : ∃ z : Str, x = .str z ∧ isNameS z = true := by
  rw [List.getElem?_map] at e
  obtain ⟨z, hz, rfl⟩ := Option.map_eq_some_iff.mp e
  exact ⟨z, rfl, h.ok z (List.mem_of_getElem? hz)⟩
theorem NmV.one {K : PySem.W.Frag} {H : Hp} {Q : VK} {E : XK} {d c a : Addr} {n : Int} {xs : List Str} (h : NmV H a xs) (D : Deck H d c n) (hn : n < 10 ^ 12) (h1 : a ≠ d) (h2 : a ≠ c)
    (k : ∀ (H' : Hp) (z : Str), isNameS z = true → Deck H' d c (n + 1) → Kp [d, c] H H' → Q (.str z) H') : spOne K [.ref d, .ref a] H Q E := by
  refine spOne.list D hn (SqL.of h.h) h1 h2 (by rw [List.length_map, h.len]; omega) (by rw [List.length_map, h.len]; omega) fun H' i x hx D' k' => ?_
  obtain ⟨z, rfl, hz⟩ := h.item hx
  exact k H' z hz D' k'
def spNmV : Sp := fun vs H Q _ => ∃ (d c : Addr) (n : Int), vs = [.ref d] ∧ Deck H d c n ∧ n + 30 < 10 ^ 12 ∧
  ∀ (H' : Hp) (p : Addr) (xs : List Str) (n' : Int), H p = none → Deck H' d c n' → n ≤ n' → n' ≤ n + 30 → Kp [d, c] H H' → NmV H' p xs → Q (.ref p) H'
/-- [one(deck, text) for k in range(u)] -/
theorem lc_signs {K : PySem.W.Frag} {σ : L2.St} {ws : List Nat} {j it : Nat} {H : Hp} {Q : VK} {E : XK} {d c : Addr} {n u : Int} {text : Str} (D : Deck H d c n) (hn : n + u < 10 ^ 12) (u0 : 0 ≤ u) (u1 : u ≤ 100)
    (e0 : ∀ v, ((wipe σ ws).set j (some v))[0]? = some (some (.ref d))) (e1 : ∀ v, ((wipe σ ws).set j (some v))[it]? = some (some (.str text))) (hw : ∀ v, wipe ((wipe σ ws).set j (some v)) ws = wipe σ ws)
    (ht : 1 ≤ text.length) (ht2 : text.length ≤ 1000)
    (k : ∀ (H' : Hp) (p : Addr) (ys : List Str), H p = none → H' p = some (.lst (ys.map V.str)) → ys.length = u.toNat → (∀ y ∈ ys, ∃ c ∈ text.cps.toList, y = ⟨#[c]⟩) → Deck H' d c (n + u) → Kp [d, c] H H' → Q (.ref p) H') :
    LcR (gName j) tYes (tCall (spOne K) [] E (tCons (tVar 0) (tCons (tVar it) tNil))) ws σ Q [.int u] H := by
  refine r_LcR (by omega) (by omega) fun p hp => ?_
  have f := D.fresh hp
  refine ⟨fun i H' => ∃ ys : List Str, H' p = some (.lst (ys.map V.str)) ∧ ys.length = i ∧ (∀ y ∈ ys, ∃ c ∈ text.cps.toList, y = ⟨#[c]⟩) ∧ Deck H' d c (n + i) ∧ Kp [d, c] H H',
    ⟨[], upd_same, rfl, (fun _ h => (nomatch h)), by have := D.kp (Kp.nil.new (o := .lst []) hp) (by simp) (by simp); simpa using this, (Kp.refl D.ls).new hp⟩, ?_, ?_⟩
  · rintro i H1 hi ⟨ys, y1, y2, y3, D1, k1⟩
    refine r_name (r_LcTurn (hw _) (r_yes (ifT (r_call (r_cons (r_var (e0 _) (r_cons (r_var (e1 _) (r_nil ?_)))))))))
    refine spOne.text D1 (by omega) ht ht2 fun H2 z hz D2 k2 => ?_
    have y4 := k2.get y1 (by simp [f.1, f.2])
    refine r_LcEnd y4 (by rw [List.length_map, sizeLine_eq]; omega) ⟨ys ++ [⟨#[z]⟩], ?_, by rw [List.length_append, y2]; rfl, ?_, ?_, (k1.trans k2).own hp⟩
    · rw [upd_same, List.map_append]
      rfl
    · intro y hy
      rcases List.mem_append.mp hy with hy | hy
      · exact y3 y hy
      · exact ⟨z, hz, List.mem_singleton.mp hy⟩
    · have e : n + ((i + 1 : Nat) : Int) = n + (i : Int) + 1 := by omega
      rw [e]
      exact D2.kp (kpW (o := .lst (ys.map V.str ++ [.str ⟨#[z]⟩])) y4) (by simp [Ne.symm f.1]) (by simp [Ne.symm f.2])
  · rintro H1 ⟨ys, y1, y2, y3, D1, k1⟩
    have e : n + ((u.toNat : Nat) : Int) = n + u := by omega
    rw [e] at D1
    exact k H1 p ys hp y1 y2 y3 D1 k1
/-- signs of a text -/
def SgOf (L : List Nat) (x : Str) (n : Nat) : Prop := x.cps.toList.length = n ∧ ∀ c ∈ x.cps.toList, c ∈ L
theorem joinL_signs : ∀ ys : List Str, ∀ L : List Nat, (∀ y ∈ ys, ∃ c ∈ L, y = ⟨#[c]⟩) → SgOf L (Txt.join "" ys) ys.length := by
  intro ys L h
  have key : ∀ zs : List (List Nat), (∀ z ∈ zs, ∃ c ∈ L, z = [c]) → (TL.joinL [] zs).length = zs.length ∧ ∀ c ∈ TL.joinL [] zs, c ∈ L := by
    intro zs
    induction zs with
    | nil => intro _; exact ⟨rfl, fun c hc => nomatch hc⟩
    | cons z r ih =>
      intro hz
      obtain ⟨c, hc, rfl⟩ := hz z (List.mem_cons_self ..)
      obtain ⟨i1, i2⟩ := ih fun z h => hz z (List.mem_cons_of_mem _ h)
      cases r with
      | nil =>
        rw [TL.joinL]
        exact ⟨rfl, fun x hx => by rw [List.mem_singleton.mp hx]; exact hc⟩
      | cons q r =>
        rw [TL.joinL]
        refine ⟨by rw [List.length_append, List.length_append, i1]; simp; omega, fun x hx => ?_⟩
        rcases List.mem_append.mp hx with hx | hx
        · rw [List.mem_singleton.mp hx]; exact hc
        rcases List.mem_append.mp hx with hx | hx
        · cases hx
        · exact i2 x hx
  have e : (Str.join "" ys).cps.toList = TL.joinL ("" : Str).cps.toList (ys.map fun y => y.cps.toList) := TL.tl_join "" ys
  have e0 : ("" : Str).cps.toList = [] := by decide +kernel
  unfold SgOf
  rw [TL.join_eq, e, e0]
  have q := key (ys.map fun y => y.cps.toList) fun z hz => by
    obtain ⟨y, hy, rfl⟩ := List.mem_map.mp hz
    obtain ⟨c, hc, rfl⟩ := h y hy
    exact ⟨c, hc, rfl⟩
  rw [List.length_map] at q
  exact q
theorem sum_one {L : List Nat} : ∀ {ys : List Str}, (∀ y ∈ ys, ∃ c ∈ L, y = ⟨#[c]⟩) → (ys.map (·.length)).sum = ys.length
  | [], _ => rfl
  | y :: r, h => by
    obtain ⟨c, _, rfl⟩ := h y (List.mem_cons_self ..)
    rw [List.map_cons, List.sum_cons, sum_one fun z hz => h z (List.mem_cons_of_mem _ hz), List.length_cons]
    show 1 + r.length = r.length + 1
    omega
def LTT : Str := "abcdefgijkmoquvwxyz"
def QXZ : Str := "qxz"
theorem ltt_let : ∀ c ∈ LTT.cps.toList, isLet c = true ∧ isSgn c = true := by decide +kernel
theorem sgn_sgn : ∀ c ∈ (LTT ++ ("0123456789" : Str)).cps.toList, isSgn c = true := by decide +kernel
theorem qxz_ok : ∀ c ∈ QXZ.cps.toList, isLet c = true ∧ isSgn c = true ∧ ∀ x ∈ KEPTS, c ∉ x.cps.toList := by decide +kernel
theorem name_made {l r : Str} {m n : Nat} {c : Nat} (hl : SgOf LTT.cps.toList l m) (hr : SgOf (LTT ++ ("0123456789" : Str)).cps.toList r n) (hc : c ∈ QXZ.cps.toList) (h : m + n ≤ 7) :
    isNameS (l ++ ⟨#[c]⟩ ++ r) = true := by
  obtain ⟨c1, c2, c3⟩ := qxz_ok c hc
  have e : (l ++ ⟨#[c]⟩ ++ r).cps.toList = l.cps.toList ++ c :: r.cps.toList := by
    rw [Str.cps_append, Str.cps_append, Array.toList_append, Array.toList_append, List.append_assoc]
    rfl
  have len : (l ++ ⟨#[c]⟩ ++ r).length = m + 1 + n := by
    have q : (l ++ ⟨#[c]⟩ ++ r).cps.toList.length = (l ++ ⟨#[c]⟩ ++ r).length := by rw [Array.length_toList]; rfl
    rw [← q, e, List.length_append, List.length_cons, hl.1, hr.1]
    omega
  unfold isNameS
  rw [len, e]
  have h1 : isLet ((l.cps.toList ++ c :: r.cps.toList).headD 0) = true := by
    cases hL : l.cps.toList with
    | nil => exact c1
    | cons x xs => exact (ltt_let x (hl.2 x (by rw [hL]; exact List.mem_cons_self ..))).1
  have h2 : (l.cps.toList ++ c :: r.cps.toList).all isSgn = true := by
    rw [List.all_eq_true]
    intro x hx
    rcases List.mem_append.mp hx with hx | hx
    · exact (ltt_let x (hl.2 x hx)).2
    rcases List.mem_cons.mp hx with rfl | hx
    · exact c2
    · exact sgn_sgn x (hr.2 x hx)
  have h3 : KEPTS.contains (l ++ ⟨#[c]⟩ ++ r) = false := by
    cases hk : KEPTS.contains (l ++ ⟨#[c]⟩ ++ r) with
    | false => rfl
    | true =>
      exfalso
      refine c3 _ (List.contains_iff_mem.mp hk) ?_
      rw [e]
      exact List.mem_append_right _ (List.mem_cons_self ..)
  rw [h1, h2, h3, decide_eq_true (show 1 ≤ m + 1 + n by omega), decide_eq_true (show m + 1 + n ≤ 8 by omega)]
  rfl

def WORDL : List Str := ["turns", "items", "word", "number", "place", "names", "plus", "less", "basis", "rows", "sums", "reads"]
theorem wordl_ok : ∀ x ∈ WORDL, isNameS x = true := by decide +kernel
/-! ### expressions -/
theorem Ex.vd.succ : ∀ {n : Nat} {e : Ex}, e.vd n → e.vd (n + 1)
  | 0, _, h => h.elim
  | _ + 1, .int _, h => h
  | _ + 1, .name _, h => h
  | _ + 1, .bin _ _ _, h => ⟨h.1.succ, h.2.imp id fun q => ⟨q.1, q.2.succ⟩⟩
theorem Ex.vd.mono {m n : Nat} {e : Ex} (h : e.vd m) (q : m ≤ n) : e.vd n := by
  induction q with
  | refl => exact h
  | step _ ih => exact ih.succ
theorem Ex.vd_int {m : Nat} {i : Int} (h : 1 ≤ m) (h1 : -99 ≤ i) (h2 : i ≤ 99) : (Ex.int i).vd m := by
  cases m with
  | zero => omega
  | succ m => exact ⟨h1, h2⟩
theorem Ex.vd_name {m : Nat} {x : Str} (h : 1 ≤ m) (h1 : isNameS x = true) : (Ex.name x).vd m := by
  cases m with
  | zero => omega
  | succ m => exact h1
theorem Ex.vd_times {m : Nat} {i : Int} {e : Ex} (h1 : -9 ≤ i) (h2 : i ≤ 9) (h : e.vd m) : (Ex.bin "times" (.int i) e).vd (m + 1) := ⟨h, .inl ⟨rfl, i, rfl, h1, h2⟩⟩
def spExV (K : PySem.W.Frag) (m : Nat) : Sp := fun vs H Q _ => ∃ (d c nm : Addr) (n : Int) (xs : List Str), vs = [.ref d, .ref nm, .int m] ∧ Deck H d c n ∧ n + eDraws m < 10 ^ 12 ∧ NmV H nm xs ∧ nm ≠ d ∧ nm ≠ c ∧
  ∀ (H' : Hp) (v : V) (e : Ex) (n' : Int), Deck H' d c n' → n ≤ n' → n' ≤ n + eDraws m → Kp [d, c] H H' → Dt K H' v e.d → e.vd m → Q v H'
def spExVA (K : PySem.W.Frag) : Sp := fun vs H Q E => ∃ i : { m : Nat // 1 ≤ m ∧ m ≤ 3 }, spExV K i.1 vs H Q E
theorem spExVA.use {K : PySem.W.Frag} {H : Hp} {Q : VK} {E : XK} {d c nm : Addr} {n m : Int} {xs : List Str} (j : Nat) (D : Deck H d c n) (hn : n + 21 < 10 ^ 12) (N : NmV H nm xs) (n1 : nm ≠ d) (n2 : nm ≠ c) (hj : m = j) (m1 : 1 ≤ j) (m2 : j ≤ 3)
    (k : ∀ (H' : Hp) (v : V) (e : Ex) (n' : Int), Deck H' d c n' → n ≤ n' → n' ≤ n + 21 → Kp [d, c] H H' → Dt K H' v e.d → e.vd j → Q v H') : spExVA K [.ref d, .ref nm, .int m] H Q E := by
  have hE : eDraws j ≤ 21 := eDraws_le m2
  refine ⟨⟨j, m1, m2⟩, d, c, nm, n, xs, by rw [hj], D, by show n + ((eDraws j : Nat) : Int) < _; omega, N, n1, n2, fun H' v e n' D' q1 q2 k' hv he => ?_⟩
  have q2 : n' ≤ n + ((eDraws j : Nat) : Int) := q2
  exact k H' v e n' D' q1 (by omega) k' hv he
/-! ### tests, statements, blocks -/
theorem Ts.vd.succ : ∀ {n : Nat} {t : Ts}, t.vd n → t.vd (n + 1)
  | n + 1, .not t, h => Ts.vd.succ (n := n) (t := t) h
  | n, .given x, h => by cases n <;> exact h
  | n, .rest e b r, h => by cases n <;> exact h
  | n, .less a b, h => by cases n <;> exact h
theorem Ts.vd.mono {m n : Nat} {t : Ts} (h : t.vd m) (q : m ≤ n) : t.vd n := by
  induction q with
  | refl => exact h
  | step _ ih => exact ih.succ
/-- what a test counts -/
def Ts.one (so : Str) (t : Ts) : Int := if t.bare.word = so then 1 else 0
theorem Sm.cnt_if (t : Ts) (y z : List Sm) (so : Str) (h : so ≠ "weight") : Sm.cnt so (.ifs t y z) = t.one so + (Sm.cnts so y + Sm.cnts so z) := by
  rw [Sm.cnt, Sm.own, if_neg h]
  rfl
theorem Sm.cnt_w (s : Sm) : s.own "weight" = 1 := if_pos rfl
theorem Sm.cnt_pl (p : Pl) (so : Str) : Sm.cnt so (.pl p) = if so = "weight" then 1 else 0 := by
  rw [Sm.cnt]
  rfl
theorem Sm.cnt_rep (k : Int) (b : List Sm) (so : Str) : Sm.cnt so (.rep k b) = (if so = "weight" then 1 else 0) + Sm.cnts so b * k := by
  rw [Sm.cnt]
  rfl
theorem Sm.cnts_one (so : Str) (s : Sm) : Sm.cnts so [s] = Sm.cnt so s := by rw [Sm.cnts, Sm.cnts, Int.add_zero]
theorem Sm.cnts_app (so : Str) : ∀ a b : List Sm, Sm.cnts so (a ++ b) = Sm.cnts so a + Sm.cnts so b
  | [], b => by rw [List.nil_append, Sm.cnts, Int.zero_add]
  | u :: r, b => by rw [List.cons_append, Sm.cnts, Sm.cnts, Sm.cnts_app so r b, Int.add_assoc]
/-- both sides of less are two deep at most -/
def Ts.lo : Ts → Prop
  | .not t => t.lo
  | .less a b => a.vd 2 ∧ b.vd 2
  | _ => True
mutual
def Sm.lo : Sm → Prop
  | .pl _ => True
  | .ifs t y z => t.lo ∧ Sm.los y ∧ Sm.los z
  | .rep _ b => Sm.los b
def Sm.los : List Sm → Prop
  | [] => True
  | s :: r => Sm.lo s ∧ Sm.los r
end
theorem Sm.los_app : ∀ a b : List Sm, Sm.los a → Sm.los b → Sm.los (a ++ b)
  | [], b, _, h => h
  | s :: r, b, h, g => by
    rw [Sm.los] at h
    rw [List.cons_append, Sm.los]
    exact ⟨h.1, Sm.los_app r b h.2 g⟩
theorem Sm.los_one {s : Sm} (h : Sm.lo s) : Sm.los [s] := by rw [Sm.los, Sm.los]; exact ⟨h, trivial⟩
/-- a test is made, as far as rests and comparings are left -/
def spTsV (K : PySem.W.Frag) : Sp := fun vs H Q _ => ∃ (d c nm l : Addr) (n ti a b r s : Int) (xs : List Str), vs = [.ref d, .ref nm, .ref l, .int ti] ∧ Deck H d c n ∧ n + 60 < 10 ^ 12 ∧ NmV H nm xs ∧ nm ≠ d ∧ nm ≠ c ∧ nm ≠ l ∧ l ≠ d ∧ l ≠ c ∧
  Lft H l a b r s ∧ 0 ≤ r ∧ 0 ≤ s ∧ 0 ≤ ti ∧
  ∀ (H' : Hp) (v : V) (t : Ts) (n' r' s' : Int), Deck H' d c n' → n ≤ n' → n' ≤ n + 60 → Lft H' l a b r' s' → 0 ≤ r' → 0 ≤ s' → r' = r - ti * t.one "rest" → s' = s - ti * t.one "less" → Kp [d, c, l] H H' → Dt K H' v t.d → t.vd 2 → t.lo → Q v H'
def spPlV (K : PySem.W.Frag) : Sp := fun vs H Q _ => ∃ (d c nm : Addr) (n : Int) (xs : List Str), vs = [.ref d, .ref nm] ∧ Deck H d c n ∧ n + 30 < 10 ^ 12 ∧ NmV H nm xs ∧ nm ≠ d ∧ nm ≠ c ∧
  ∀ (H' : Hp) (v : V) (p : Pl) (n' : Int), Deck H' d c n' → n ≤ n' → n' ≤ n + 30 → Kp [d, c] H H' → Dt K H' v p.d → p.vd → Q v H'
/-- what is left behind rows that count so many times -/
structure Took (ti a b r s a' b' r' s' : Int) (x : List Sm) : Prop where
  a : a' = a - Sm.sizes x
  b : b' = b - ti * Sm.cnts "weight" x
  r : r' = r - ti * Sm.cnts "rest" x
  s : s' = s - ti * Sm.cnts "less" x
  l : Sm.los x
theorem Took.nil {ti a b r s : Int} : Took ti a b r s a b r s [] := by
  constructor <;> simp [Sm.sizes, Sm.cnts, Sm.los]
theorem Took.app {ti a b r s a1 b1 r1 s1 a2 b2 r2 s2 : Int} {x y : List Sm} (h : Took ti a b r s a1 b1 r1 s1 x) (g : Took ti a1 b1 r1 s1 a2 b2 r2 s2 y) : Took ti a b r s a2 b2 r2 s2 (x ++ y) := by
  have h1 := h.a; have h2 := h.b; have h3 := h.r; have h4 := h.s
  have g1 := g.a; have g2 := g.b; have g3 := g.r; have g4 := g.s
  constructor
  · rw [Sm.sizes_app]; omega
  · rw [Sm.cnts_app, Int.mul_add]; omega
  · rw [Sm.cnts_app, Int.mul_add]; omega
  · rw [Sm.cnts_app, Int.mul_add]; omega
  · exact Sm.los_app _ _ h.l g.l
/-- the data of a row that was made, or of none -/
def rowD : List Sm → PyData
  | [s] => s.d
  | _ => .tuple []
def spRowV (K : PySem.W.Frag) (e : Nat) : Sp := fun vs H Q _ => ∃ (d c nm l : Addr) (n ti dep a b r s : Int) (xs : List Str), vs = [.ref d, .ref nm, .ref l, .int ti, .int dep] ∧ Deck H d c n ∧ n + 150 * a < 10 ^ 12 ∧
  NmV H nm xs ∧ nm ≠ d ∧ nm ≠ c ∧ nm ≠ l ∧ l ≠ d ∧ l ≠ c ∧ Lft H l a b r s ∧ 0 ≤ a ∧ 0 ≤ b ∧ 0 ≤ r ∧ 0 ≤ s ∧ a ≤ 1000 ∧ 0 ≤ ti ∧ dep + e = 3 ∧
  ∀ (H' : Hp) (v : V) (x : List Sm) (n' a' b' r' s' : Int), Deck H' d c n' → n ≤ n' → n' ≤ n + 150 * (a - a') → Lft H' l a' b' r' s' → 0 ≤ a' → 0 ≤ b' → 0 ≤ r' → 0 ≤ s' → x.length ≤ 1 → Took ti a b r s a' b' r' s' x → Kp [d, c, l] H H' →
    Dt K H' v (rowD x) → (∀ s ∈ x, Sm.vd e s) → Q v H'
/-- a block at a depth; e + dep = 4 -/
def spBlV (K : PySem.W.Frag) (e : Nat) : Sp := fun vs H Q _ => ∃ (d c nm l : Addr) (n ti dep a b r s : Int) (xs : List Str), vs = [.ref d, .ref nm, .ref l, .int ti, .int dep] ∧ Deck H d c n ∧ n + 1 + 150 * a < 10 ^ 12 ∧
  NmV H nm xs ∧ nm ≠ d ∧ nm ≠ c ∧ nm ≠ l ∧ l ≠ d ∧ l ≠ c ∧ Lft H l a b r s ∧ 0 ≤ a ∧ 0 ≤ b ∧ 0 ≤ r ∧ 0 ≤ s ∧ a ≤ 1000 ∧ 0 ≤ ti ∧ dep + e = 4 ∧
  ∀ (H' : Hp) (v : V) (x : List Sm) (n' a' b' r' s' : Int), Deck H' d c n' → n ≤ n' → n' ≤ n + 1 + 150 * (a - a') → Lft H' l a' b' r' s' → 0 ≤ a' → 0 ≤ b' → 0 ≤ r' → 0 ≤ s' → Took ti a b r s a' b' r' s' x → Kp [d, c, l] H H' →
    Dt K H' v (.tuple (Sm.ds x)) → VdB e x → Q v H'
/-- a program within all bounds -/
structure PgV (b : List Sm) : Prop where
  vd : ∀ s ∈ b, Sm.vd 3 s
  size : Sm.sizes b ≤ 24
  weight : Sm.cnts "weight" b ≤ 30
  rest : Sm.cnts "rest" b ≤ 2
  less : Sm.cnts "less" b ≤ 2
  lo : Sm.los b
def spPgV (K : PySem.W.Frag) : Sp := fun vs H Q _ => ∃ (d c nm : Addr) (n : Int) (xs : List Str), vs = [.ref d, .ref nm] ∧ Deck H d c n ∧ n + 5000 < 10 ^ 12 ∧ NmV H nm xs ∧ nm ≠ d ∧ nm ≠ c ∧
  ∀ (H' : Hp) (v : V) (x : List Sm) (n' : Int), Deck H' d c n' → n ≤ n' → n' ≤ n + 5000 → Kp [d, c] H H' → Dt K H' v (.tuple (Sm.ds x)) → PgV x → Q v H'
theorem Kp.out {H H1 H2 : Hp} {d c l : Addr} (k1 : Kp [d, c] H H1) (hl : H l = none) (k2 : Kp [d, c, l] H1 H2) : Kp [d, c] H H2 := fun z o e => ⟨(k1 z o e).1, fun nm' => by
  refine (k2 z o ((k1 z o e).2 nm')).2 fun hz => ?_
  simp only [List.mem_cons, List.not_mem_nil, or_false, not_or] at hz nm'
  rcases hz with rfl | rfl | rfl
  · exact nm'.1 rfl
  · exact nm'.2 rfl
  · rw [hl] at e
    cases e⟩
/-! ### a tree is told by its data -/
theorem Ex.d_inj : ∀ {a b : Ex}, a.d = b.d → a = b
  | .int i, .int j, h => by cases h; rfl
  | .name x, .name y, h => by cases h; rfl
  | .bin o a b, .bin o' a' b', h => by
    rw [Ex.d, Ex.d] at h
    simp only [PyData.tuple.injEq, List.cons.injEq, PyData.str.injEq, and_true] at h
    rw [h.1, Ex.d_inj h.2.1, Ex.d_inj h.2.2]
  | .int _, .name _, h => by cases h
  | .int _, .bin _ _ _, h => by cases h
  | .name _, .int _, h => by cases h
  | .name _, .bin _ _ _, h => by cases h
  | .bin _ _ _, .int _, h => by cases h
  | .bin _ _ _, .name _, h => by cases h
theorem tup_head {a b : Str} {r s : List PyData} (h : PyData.tuple (.str a :: r) = .tuple (.str b :: s)) : a = b ∧ r = s := by
  simp only [PyData.tuple.injEq, List.cons.injEq, PyData.str.injEq] at h
  exact h
theorem Ts.d_inj : ∀ {a b : Ts}, a.d = b.d → a = b
  | .not t, .not u, h => by
    have q := (tup_head h).2
    simp only [List.cons.injEq, and_true] at q
    rw [Ts.d_inj q]
  | .given x, .given y, h => by
    have q := (tup_head h).2
    simp only [List.cons.injEq, PyData.str.injEq, and_true] at q
    rw [q]
  | .rest e b r, .rest e' b' r', h => by
    have q := (tup_head h).2
    simp only [List.cons.injEq, PyData.int.injEq, and_true] at q
    rw [Ex.d_inj q.1, q.2.1, q.2.2]
  | .less a b, .less a' b', h => by
    have q := (tup_head h).2
    simp only [List.cons.injEq, and_true] at q
    rw [Ex.d_inj q.1, Ex.d_inj q.2]
  | .not _, .given _, h => absurd (tup_head h).1 (by decide +kernel)
  | .not _, .rest _ _ _, h => absurd (tup_head h).1 (by decide +kernel)
  | .not _, .less _ _, h => absurd (tup_head h).1 (by decide +kernel)
  | .given _, .not _, h => absurd (tup_head h).1 (by decide +kernel)
  | .given _, .rest _ _ _, h => absurd (tup_head h).1 (by decide +kernel)
  | .given _, .less _ _, h => absurd (tup_head h).1 (by decide +kernel)
  | .rest _ _ _, .not _, h => absurd (tup_head h).1 (by decide +kernel)
  | .rest _ _ _, .given _, h => absurd (tup_head h).1 (by decide +kernel)
  | .rest _ _ _, .less _ _, h => absurd (tup_head h).1 (by decide +kernel)
  | .less _ _, .not _, h => absurd (tup_head h).1 (by decide +kernel)
  | .less _ _, .given _, h => absurd (tup_head h).1 (by decide +kernel)
  | .less _ _, .rest _ _ _, h => absurd (tup_head h).1 (by decide +kernel)
theorem Pl.d_inj {a b : Pl} (h : a.d = b.d) : a = b := by
  cases a <;> cases b <;> first
    | exact absurd (tup_head h).1 (by decide +kernel)
    | (have q := (tup_head h).2
       simp only [List.cons.injEq, PyData.str.injEq, and_true] at q
       first
         | rw [q]
         | rw [Ex.d_inj q]
         | rw [q.1, Ex.d_inj q.2])
mutual
theorem Sm.d_inj : ∀ {a b : Sm}, a.d = b.d → a = b
  | .pl p, .pl q, h => by rw [Sm.d, Sm.d] at h; rw [Pl.d_inj h]
  | .ifs t y z, .ifs t' y' z', h => by
    rw [Sm.d, Sm.d] at h
    have q := (tup_head h).2
    simp only [List.cons.injEq, PyData.tuple.injEq, and_true] at q
    rw [Ts.d_inj q.1, Sm.ds_inj q.2.1, Sm.ds_inj q.2.2]
  | .rep k b, .rep k' b', h => by
    rw [Sm.d, Sm.d] at h
    have q := (tup_head h).2
    simp only [List.cons.injEq, PyData.tuple.injEq, PyData.int.injEq, and_true] at q
    rw [q.1, Sm.ds_inj q.2]
  | .pl p, .ifs t y z, h => by
    rw [Sm.d, Sm.d] at h
    obtain ⟨u, r, e, n1, n2⟩ := Pl.hd p
    rw [e] at h
    exact absurd (tup_head h).1 n1
  | .pl p, .rep k b, h => by
    rw [Sm.d, Sm.d] at h
    obtain ⟨u, r, e, n1, n2⟩ := Pl.hd p
    rw [e] at h
    exact absurd (tup_head h).1 n2
  | .ifs t y z, .pl p, h => by
    rw [Sm.d, Sm.d] at h
    obtain ⟨u, r, e, n1, n2⟩ := Pl.hd p
    rw [e] at h
    exact absurd (tup_head h).1.symm n1
  | .rep k b, .pl p, h => by
    rw [Sm.d, Sm.d] at h
    obtain ⟨u, r, e, n1, n2⟩ := Pl.hd p
    rw [e] at h
    exact absurd (tup_head h).1.symm n2
  | .ifs t y z, .rep k b, h => by
    rw [Sm.d, Sm.d] at h
    exact absurd (tup_head h).1 (by decide +kernel)
  | .rep k b, .ifs t y z, h => by
    rw [Sm.d, Sm.d] at h
    exact absurd (tup_head h).1 (by decide +kernel)
theorem Sm.ds_inj : ∀ {a b : List Sm}, Sm.ds a = Sm.ds b → a = b
  | [], [], _ => rfl
  | s :: r, s' :: r', h => by
    rw [Sm.ds, Sm.ds] at h
    simp only [List.cons.injEq] at h
    rw [Sm.d_inj h.1, Sm.ds_inj h.2]
  | [], _ :: _, h => by rw [Sm.ds, Sm.ds] at h; cases h
  | _ :: _, [], h => by rw [Sm.ds, Sm.ds] at h; cases h
end
theorem vd_ordErr {b : List Sm} (h : ∀ s ∈ b, Sm.vd 3 s) : ordErr (Sm.ds b) = none := by
  refine ordLoop_vd _ _ 0 (by rw [stSize_map]; exact Nat.le_refl _) fun p hp => ?_
  obtain ⟨e, he, rfl⟩ := List.mem_map.mp hp
  rw [Sm.ds_map] at he
  obtain ⟨s, hs, rfl⟩ := List.mem_map.mp he
  exact ⟨Nat.zero_le _, s, rfl, h s hs⟩
theorem perr_vd {b : List Sm} (h : ∀ s ∈ b, Sm.vd 3 s) : perr (.tuple (Sm.ds b)) = lim b := by
  have ho := vd_ordErr h
  rw [perr, ho]
  show lim (treeOf (Sm.ds b)) = _
  rw [← Sm.ds_inj (treeOf_spec ho).1]
theorem PgV.perr {b : List Sm} (h : PgV b) : perr (.tuple (Sm.ds b)) = .none := by
  have := h.size; have := h.weight; have := h.rest; have := h.less
  rw [perr_vd h.vd, lim, if_neg (by omega), if_neg (by omega), if_neg (by omega), if_neg (by omega)]
end Aw

/-! odd data: written, shown, cut -/
namespace Aw
open PySem PySem.Spec L2

/-! ### data that may be shown: small ints, texts -/
mutual
def shb : PyData → Bool
  | .none => true
  | .bool _ => true
  | .int i => decide (i.natAbs.log2 < 200)
  | .str x => PyData.strOk x
  | .list ds => shbs ds
  | .tuple ds => shbs ds
  | .dict [] => true
  | .dict [(.str x, .int i)] => PyData.strOk x && decide (x.length ≤ 8) && decide (i.natAbs.log2 < 200)
  | .dict _ => false
def shbs : List PyData → Bool
  | [] => true
  | d :: r => shb d && shbs r
end
theorem shbs_app : ∀ a b : List PyData, shbs (a ++ b) = (shbs a && shbs b)
  | [], b => by rw [List.nil_append, shbs, Bool.true_and]
  | d :: r, b => by rw [List.cons_append, shbs, shbs, shbs_app r b, Bool.and_assoc]
theorem shbs_mem {d : PyData} : ∀ {b : List PyData}, shbs b = true → d ∈ b → shb d = true
  | _ :: r, h, .head _ => by rw [shbs, Bool.and_eq_true] at h; exact h.1
  | _ :: r, h, .tail _ m => by rw [shbs, Bool.and_eq_true] at h; exact shbs_mem h.2 m
theorem shbs_all : ∀ {b : List PyData}, (∀ d ∈ b, shb d = true) → shbs b = true
  | [], _ => by rw [shbs]
  | d :: r, h => by rw [shbs, h d (List.mem_cons_self ..), shbs_all fun e he => h e (List.mem_cons_of_mem _ he)]; rfl
theorem int_len {i : Int} (h : i.natAbs.log2 < 200) : (Str.ofString (toString i)).length ≤ 201 := by
  have q := int_text_length_le (k := 200) (by decide) h
  rw [ofString_length]
  omega
mutual
theorem shb_ok : ∀ d : PyData, shb d = true → d.showable = true ∧ d.shown.length + 2 ≤ 300 * dsz d
  | .none, _ => ⟨by rw [PyData.showable], by rw [PyData.shown, dsz]; decide +kernel⟩
  | .bool b, _ => ⟨by rw [PyData.showable], by rw [PyData.shown, dsz]; cases b <;> decide +kernel⟩
  | .int i, h => by
    rw [shb, decide_eq_true_eq] at h
    refine ⟨by rw [PyData.showable]; exact decide_eq_true (by omega), ?_⟩
    rw [PyData.shown, dsz]
    have := int_len h
    show (Str.ofString (toString i)).length + 2 ≤ 300 * 1
    omega
  | .str x, h => by
    rw [shb] at h
    refine ⟨by rw [PyData.showable], ?_⟩
    rw [PyData.shown, dsz]
    have := (Sok.repr (x := x) (n := x.length) ⟨h, Nat.le_refl _⟩)
    omega
  | .list ds, h => by
    rw [shb] at h
    obtain ⟨a, b, c⟩ := shbs_ok ds h
    refine ⟨by rw [PyData.showable]; exact a, ?_⟩
    rw [PyData.shown, dsz]
    have q := listText_len_le (PyData.shownAll ds)
    omega
  | .tuple ds, h => by
    rw [shb] at h
    obtain ⟨a, b, c⟩ := shbs_ok ds h
    refine ⟨by rw [PyData.showable]; exact a, ?_⟩
    rw [PyData.shown, dsz]
    have q := tupleText_len_le (PyData.shownAll ds)
    omega
  | .dict [], _ => ⟨by rw [PyData.showable, PyData.showableKv], by rw [PyData.shown, PyData.shownKv, dsz]; decide +kernel⟩
  | .dict [(.str x, .int i)], h => by
    rw [shb, Bool.and_eq_true, Bool.and_eq_true, decide_eq_true_eq, decide_eq_true_eq] at h
    obtain ⟨⟨h1, h2⟩, h3⟩ := h
    refine ⟨by simp [PyData.showable, PyData.showableKv]; omega, ?_⟩
    rw [PyData.shown, dsz]
    have q := dictText_len_le (PyData.shownKv [(.str x, .int i)])
    have e : PyData.shownKv [(.str x, .int i)] = [reprText x ++ ": " ++ Str.ofString (toString i)] := by
      simp [PyData.shownKv, PyData.shown]
    rw [e] at q ⊢
    have r1 := (Sok.repr (x := x) (n := 8) ⟨h1, h2⟩)
    have r2 := int_len h3
    simp only [List.map_cons, List.map_nil, List.sum_cons, List.sum_nil, List.length_cons, List.length_nil, Str.length_append] at q
    have r3 : (": " : Str).length = 2 := by decide +kernel
    omega
  | .dict ((.none, _) :: _), h => by simp [shb] at h
  | .dict ((.bool _, _) :: _), h => by simp [shb] at h
  | .dict ((.int _, _) :: _), h => by simp [shb] at h
  | .dict ((.list _, _) :: _), h => by simp [shb] at h
  | .dict ((.tuple _, _) :: _), h => by simp [shb] at h
  | .dict ((.dict _, _) :: _), h => by simp [shb] at h
  | .dict ((.str _, .none) :: _), h => by simp [shb] at h
  | .dict ((.str _, .bool _) :: _), h => by simp [shb] at h
  | .dict ((.str _, .str _) :: _), h => by simp [shb] at h
  | .dict ((.str _, .list _) :: _), h => by simp [shb] at h
  | .dict ((.str _, .tuple _) :: _), h => by simp [shb] at h
  | .dict ((.str _, .dict _) :: _), h => by simp [shb] at h
  | .dict ((.str _, .int _) :: _ :: _), h => by simp [shb] at h
theorem shbs_ok : ∀ ds : List PyData, shbs ds = true → PyData.showableAll ds = true ∧ (PyData.shownAll ds).length = ds.length ∧ ((PyData.shownAll ds).map (·.length)).sum + 2 * (PyData.shownAll ds).length ≤ 300 * dszs ds
  | [], _ => ⟨by rw [PyData.showableAll], by rw [PyData.shownAll]; rfl, by rw [PyData.shownAll]; simp⟩
  | d :: r, h => by
    rw [shbs, Bool.and_eq_true] at h
    obtain ⟨a, b⟩ := shb_ok d h.1
    obtain ⟨a1, b1, c1⟩ := shbs_ok r h.2
    refine ⟨by rw [PyData.showableAll, a, a1]; rfl, by rw [PyData.shownAll, List.length_cons, List.length_cons, b1], ?_⟩
    rw [PyData.shownAll, List.map_cons, List.sum_cons, List.length_cons, dszs]
    omega
end
theorem depthAll_mem {d : PyData} : ∀ {b : List PyData}, d ∈ b → d.depth ≤ PyData.depthAll b
  | _ :: r, .head _ => by rw [PyData.depthAll]; omega
  | _ :: r, .tail _ m => by have := depthAll_mem m; rw [PyData.depthAll]; omega
theorem depthAll_le {k : Nat} : ∀ {b : List PyData}, (∀ d ∈ b, d.depth ≤ k) → PyData.depthAll b ≤ k
  | [], _ => by rw [PyData.depthAll]; omega
  | d :: r, h => by
    have := h d (List.mem_cons_self ..)
    have := depthAll_le fun e he => h e (List.mem_cons_of_mem _ he)
    rw [PyData.depthAll]
    omega
/-- data of a size, that may be shown, of a depth -/
structure Dok (d : PyData) (z k : Nat) : Prop where
  sz : dsz d ≤ z
  sh : shb d = true
  dp : d.depth ≤ k
theorem Dok.shw {d : PyData} {z k : Nat} (h : Dok d z k) : ShwD d k (300 * z) := by
  obtain ⟨a, b⟩ := shb_ok d h.sh
  have := h.sz
  exact ⟨a, h.dp, by omega⟩
theorem Dok.mono {d : PyData} {z k z' k' : Nat} (h : Dok d z k) (hz : z ≤ z') (hk : k ≤ k') : Dok d z' k' := ⟨Nat.le_trans h.sz hz, h.sh, Nat.le_trans h.dp hk⟩
theorem Dok.by {d : PyData} {z k : Nat} (h : (decide (dsz d ≤ z) && shb d && decide (d.depth ≤ k)) = true) : Dok d z k := by
  rw [Bool.and_eq_true, Bool.and_eq_true, decide_eq_true_eq, decide_eq_true_eq] at h
  exact ⟨h.1.1, h.1.2, h.2⟩

/-! ### written data with lists and dicts, none of them at M -/
def Oc (M : List Addr) (H : Hp) : Prop := ∀ a ∈ M, ∃ o, H a = some o
theorem Oc.new {M : List Addr} {H H1 : Hp} {p : Addr} (h : Oc M H) (k : Kp [] H H1) (hp : H1 p = none) : p ∉ M := fun m => by
  obtain ⟨o, e⟩ := h p m
  rw [k.get e (by simp)] at hp
  cases hp
def CW (M : List Addr) (K : PySem.W.Frag) (σ : L2.St) (H0 : Hp) (te : TE) (d : PyData) : Prop := ∀ (H : Hp) (Q : VK), Kp [] H0 H → (∀ H' v, Kp [] H H' → Dw M K H' v d → Q v H') → te σ H Q
def CWs (M : List Addr) (K : PySem.W.Frag) (σ : L2.St) (H0 : Hp) (ts : TA) (ds : List PyData) : Prop := ∀ (H : Hp) (R : List V → Hp → Prop), Kp [] H0 H → (∀ H' vs, Kp [] H H' → DwL M K H' vs ds → R vs H') → ts σ H R
section
variable {M : List Addr} {K : PySem.W.Frag} {σ : L2.St} {H0 : Hp} {te ta tb : TE} {ts : TA} {d : PyData} {ds es : List PyData}
theorem DwL.tup {H : Hp} {vs : List V} {a : Addr} (h : DwL M K H vs ds) (e : H a = some (.tup vs)) : Dw M K H (.ref a) (.tuple ds) := .tup (SqT.of e) h.len h.all
theorem DwL.lst {H : Hp} {vs : List V} {a : Addr} (h : DwL M K H vs ds) (e : H a = some (.lst vs)) (n : a ∉ M) : Dw M K H (.ref a) (.list ds) := .lst e n h.len h.all
theorem DwL.app {H : Hp} {vs us : List V} (h : DwL M K H vs ds) (g : DwL M K H us es) : DwL M K H (vs ++ us) (ds ++ es) := by
  refine ⟨by rw [List.length_append, List.length_append, h.len, g.len], fun i u e q q' => ?_⟩
  by_cases hi : i < vs.length
  · rw [List.getElem?_append_left hi] at q
    rw [List.getElem?_append_left (by rw [← h.len]; exact hi)] at q'
    exact h.all i u e q q'
  · rw [List.getElem?_append_right (by omega)] at q
    rw [List.getElem?_append_right (by rw [← h.len]; omega), ← h.len] at q'
    exact g.all _ u e q q'
theorem DwL.mem {H : Hp} {vs : List V} {x : V} (h : DwL M K H vs ds) (m : x ∈ vs) : ∃ d ∈ ds, Dw M K H x d := by
  obtain ⟨i, hi, rfl⟩ := List.mem_iff_getElem.mp m
  obtain ⟨d, e, q⟩ := h.get (List.getElem?_eq_getElem hi)
  exact ⟨d, List.mem_of_getElem? e, q⟩
theorem cw_str {x : Str} : CW M K σ H0 (tC (.str x)) (.str x) := fun H Q _ h => h H _ Kp.nil (.str x)
theorem cw_int {x : Int} : CW M K σ H0 (tC (.int x)) (.int x) := fun H Q _ h => h H _ Kp.nil (.int x)
theorem cw_bl {x : Bool} : CW M K σ H0 (tC (.bl x)) (.bool x) := fun H Q _ h => h H _ Kp.nil (.bl x)
theorem cw_non : CW M K σ H0 (tC .non) .none := fun H Q _ h => h H _ Kp.nil .non
theorem cw_var {i : Nat} {v : V} (e : σ[i]? = some (some v)) (hv : Dw M K H0 v d) : CW M K σ H0 (tVar i) d := fun H Q k h => ⟨v, e, h H _ Kp.nil (hv.kp0 k)⟩
theorem cw_neg {i : Int} : CW M K σ H0 (tUn (rU fun i => .int (-i)) (tC (.int i))) (.int (-i)) := fun H Q _ h => r_un (r_C (r_U (h H _ Kp.nil (.int _))))
theorem cw_pow {i j : Int} (h0 : CPow i j) : CW M K σ H0 (tOp (rI CPow fun i j => .int (i ^ j.toNat)) (tC (.int i)) (tC (.int j))) (.int (i ^ j.toNat)) := fun H Q _ h => r_op (r_C (r_C (r_I (h H _ Kp.nil (.int _)) h0)))
theorem cws_nil : CWs M K σ H0 tNil [] := fun H R _ h => h H _ Kp.nil DwL.nil
theorem cws_cons (a : CW M K σ H0 te d) (b : CWs M K σ H0 ts ds) : CWs M K σ H0 (tCons te ts) (d :: ds) := fun H R k h =>
  a H _ k fun H1 v k1 hv => b H1 _ (k.trans k1) fun H2 vs k2 hs => h H2 (v :: vs) (k1.trans k2) (DwL.cons (hv.kp0 k2) hs)
theorem cw_tup (b : CWs M K σ H0 ts ds) (hz : ds.length ≤ 16777216) : CW M K σ H0 (tTup ts) (.tuple ds) := fun H Q k h =>
  b H _ k fun H1 vs k1 hs => ⟨by rw [hs.len, sizeLine_eq]; exact hz, fun p hp => h _ _ (k1.new hp) ((hs.kp0 (Kp.nil.new hp)).tup upd_same)⟩
theorem cw_lst (hM : Oc M H0) (b : CWs M K σ H0 ts ds) (hz : ds.length ≤ 16777216) : CW M K σ H0 (tLst ts) (.list ds) := fun H Q k h =>
  b H _ k fun H1 vs k1 hs => ⟨by rw [hs.len, sizeLine_eq]; exact hz, fun p hp => h _ _ (k1.new hp) ((hs.kp0 (Kp.nil.new hp)).lst upd_same (hM.new (k.trans k1) hp))⟩
theorem cw_d0 (hM : Oc M H0) : CW M K σ H0 tDNewK (.dict []) := fun H Q k h p hp => h _ _ (Kp.nil.new hp) (.dct upd_same (hM.new k hp) rfl (fun i kv p e => by simp at e) (fun i kv p e => by simp at e))
theorem cw_d1 {x : Str} {i : Int} (hM : Oc M H0) : CW M K σ H0 (tDisp [(tC (.str x), tC (.int i))]) (.dict [(.str x, .int i)]) := fun H Q k h p hp => by
  refine r_pcons (r_C (r_C (r_pnil ⟨upd_same, [(Sum.inr x, .int i)], rfl, by simp, ?_⟩)))
  have e : mergeK [] [((Sum.inr x : Key), V.int i)] = [(Sum.inr x, .int i)] := rfl
  rw [e, upd_upd]
  refine h _ _ (Kp.nil.new hp) (.dct upd_same (hM.new k hp) rfl (fun j kv p e e' => ?_) (fun j kv p e e' => ?_))
  · match j, e, e' with
    | 0, e, e' => cases e; cases e'; rfl
  · match j, e, e' with
    | 0, e, e' => cases e; cases e'; exact .int i
theorem CW.use {H : Hp} {Q : VK} (a : CW M K σ H te d) (h : ∀ H' v, Kp [] H H' → Dw M K H' v d → Q v H') : te σ H Q := a H Q Kp.nil h
theorem CWs.use {H : Hp} {R : List V → Hp → Prop} (a : CWs M K σ H ts ds) (h : ∀ H' vs, Kp [] H H' → DwL M K H' vs ds → R vs H') : ts σ H R := a H R Kp.nil h

/-! ### cuts -/
def cutD {α : Type} (xs : List α) (lo hi : Option Int) : List α := (xs.drop (HT.sIx xs.length 0 lo)).take (HT.sIx xs.length xs.length hi - HT.sIx xs.length 0 lo)
theorem DwL.cut {H : Hp} {vs : List V} (h : DwL M K H vs ds) (lo hi : Option Int) : DwL M K H (cutV vs lo hi) (cutD ds lo hi) := by
  have hl := h.len
  unfold cutV cutD
  rw [hl]
  refine ⟨by rw [List.length_take, List.length_take, List.length_drop, List.length_drop, hl], fun i v d e e' => ?_⟩
  have hi := (List.getElem?_eq_some_iff.mp e).1
  rw [List.length_take] at hi
  rw [List.getElem?_take, if_pos (by omega), List.getElem?_drop] at e e'
  exact h.all _ v d e e'
theorem r_slW {H : Hp} {Q : VK} {v : V} {lo hi : Option Int} (h : Dw M K H v (.tuple ds)) (k : ∀ H' w, Kp [] H H' → Dw M K H' w (.tuple (cutD ds lo hi)) → Q w H') : rSlA K v lo hi H Q := by
  obtain ⟨a, xs, rfl, hT, hL⟩ := h.items
  refine ⟨a, xs, rfl, hT, fun hw => ?_, fun _ p hp => k _ _ (Kp.nil.new hp) (((hL.cut lo hi).kp0 (Kp.nil.new hp)).tup upd_same)⟩
  refine k _ _ Kp.nil ?_
  have e : cutD ds lo hi = ds := by
    unfold cutD
    rw [hL.len] at hw
    rw [hw.1, hw.2, List.drop_zero, Nat.sub_zero, List.take_length]
  rw [e]
  exact h
theorem r_catW {H : Hp} {Q : VK} {v u : V} (hv : Dw M K H v (.tuple ds)) (hu : Dw M K H u (.tuple es)) (hz : ds.length + es.length ≤ 16777216)
    (h : ∀ H' w, Kp [] H H' → Dw M K H' w (.tuple (ds ++ es)) → Q w H') : rCatA K v u H Q := by
  obtain ⟨a, xs, rfl, ha, la⟩ := hv.items
  obtain ⟨b, ys, rfl, hb, lb⟩ := hu.items
  refine ⟨a, b, xs, ys, rfl, rfl, ha, hb, by rw [la.len, lb.len, sizeLine_eq]; exact hz, fun e => ?_, fun _ e => ?_, fun _ _ p hp => ?_⟩
  · have q := la.len
    rw [e] at q
    obtain rfl : ds = [] := List.length_eq_zero_iff.mp q.symm
    exact h _ _ Kp.nil hu
  · have q := lb.len
    rw [e] at q
    obtain rfl : es = [] := List.length_eq_zero_iff.mp q.symm
    rw [List.append_nil] at h
    exact h _ _ Kp.nil hv
  · exact h _ _ (Kp.nil.new hp) (((la.app lb).kp0 (Kp.nil.new hp)).tup upd_same)
end
theorem cutD_mem {α : Type} {xs : List α} {lo hi : Option Int} {x : α} (h : x ∈ cutD xs lo hi) : x ∈ xs := List.mem_of_mem_drop (List.mem_of_mem_take h)
theorem dszs_take : ∀ (n : Nat) (b : List PyData), dszs (b.take n) ≤ dszs b
  | 0, b => by rw [List.take_zero, dszs]; omega
  | n + 1, [] => by rw [List.take_nil]; omega
  | n + 1, d :: r => by have := dszs_take n r; rw [List.take_succ_cons, dszs, dszs]; omega
theorem dszs_drop : ∀ (n : Nat) (b : List PyData), dszs (b.drop n) ≤ dszs b
  | 0, b => by rw [List.drop_zero]; omega
  | n + 1, [] => by rw [List.drop_nil]; omega
  | n + 1, d :: r => by have := dszs_drop n r; rw [List.drop_succ_cons, dszs]; omega
theorem dszs_cut (b : List PyData) (lo hi : Option Int) : dszs (cutD b lo hi) ≤ dszs b := Nat.le_trans (dszs_take _ _) (dszs_drop _ _)
theorem cutD_to {α : Type} (xs : List α) (n : Nat) (h : n ≤ xs.length) : cutD xs none (some (n : Int)) = xs.take n := by
  unfold cutD
  rw [HT.sIx_none, HT.sIx_nat, List.drop_zero, Nat.min_eq_left h, Nat.sub_zero]
theorem cutD_from {α : Type} (xs : List α) (n : Nat) (h : n ≤ xs.length) : cutD xs (some (n : Int)) none = xs.drop n := by
  unfold cutD
  rw [HT.sIx_none, HT.sIx_nat, Nat.min_eq_left h, List.take_of_length_le (by rw [List.length_drop]; omega)]
theorem dszs_split (b : List PyData) {i : Nat} {d : PyData} (h : b[i]? = some d) : dszs b = dszs (b.take i) + dsz d + dszs (b.drop (i + 1)) := by
  obtain ⟨hi, e⟩ := List.getElem?_eq_some_iff.mp h
  have q : b = b.take i ++ d :: b.drop (i + 1) := by rw [← e, ← List.drop_eq_getElem_cons hi, List.take_append_drop]
  conv => lhs; rw [q]
  rw [dszs_app, dszs]
  omega

/-! ### trees as data -/
theorem name_ok {x : Str} (h : isNameS x = true) : PyData.strOk x = true ∧ x.length ≤ 8 := by
  unfold isNameS at h
  simp only [Bool.and_eq_true, decide_eq_true_eq] at h
  obtain ⟨⟨⟨⟨_, h1⟩, _⟩, h2⟩, _⟩ := h
  refine ⟨?_, h1⟩
  unfold PyData.strOk
  rw [Array.all_eq_true_iff_forall_mem]
  intro c hc
  have q : ∀ c ∈ SGN.cps.toList, c < 1114112 := by decide +kernel
  exact decide_eq_true (q c (of_decide_eq_true (List.all_eq_true.mp h2 c (Array.mem_def.mp hc))))
theorem word_ok {x : Str} (h : isWordS x = true) : PyData.strOk x = true ∧ x.length ≤ 8 := by
  unfold isWordS at h
  simp only [Bool.and_eq_true, decide_eq_true_eq] at h
  obtain ⟨⟨⟨_, h1⟩, _⟩, h2⟩ := h
  refine ⟨?_, h1⟩
  unfold PyData.strOk
  rw [Array.all_eq_true_iff_forall_mem]
  intro c hc
  have q : ∀ c ∈ SGN.cps.toList, c < 1114112 := by decide +kernel
  exact decide_eq_true (q c (of_decide_eq_true (List.all_eq_true.mp h2 c (Array.mem_def.mp hc))))
theorem small_log {i : Int} (h1 : -1000 ≤ i) (h2 : i ≤ 1000) : i.natAbs.log2 < 200 := by
  by_cases h : i.natAbs = 0
  · rw [h]
    decide
  · exact Nat.lt_of_lt_of_le ((Nat.log2_lt (k := 10) h).mpr (by omega)) (by decide)
theorem Dok.int {i : Int} (h1 : -1000 ≤ i) (h2 : i ≤ 1000) : Dok (.int i) 1 0 := ⟨by rw [dsz]; omega, by rw [shb]; exact decide_eq_true (small_log h1 h2), by rw [PyData.depth]; omega⟩
theorem Dok.str {x : Str} {n : Nat} (h : PyData.strOk x = true ∧ x.length ≤ n) : Dok (.str x) (n + 1) 0 := ⟨by rw [dsz]; omega, by rw [shb]; exact h.1, by rw [PyData.depth]; omega⟩
theorem Dok.nil {k : Nat} : Dok (.tuple []) 1 (k + 1) := ⟨by simp [dsz, dszs], by simp [shb, shbs], by simp [PyData.depth, PyData.depthAll]⟩
/-- lists of data -/
structure Doks (ds : List PyData) (z k : Nat) : Prop where
  sz : dszs ds ≤ z
  sh : shbs ds = true
  dp : PyData.depthAll ds ≤ k
theorem Doks.nil {k : Nat} : Doks [] 0 k := ⟨by rw [dszs]; omega, by rw [shbs], by rw [PyData.depthAll]; omega⟩
theorem Doks.cons {d : PyData} {ds : List PyData} {z z' k k' : Nat} (a : Dok d z k') (b : Doks ds z' k) (h : k' ≤ k) : Doks (d :: ds) (z + z') k := by
  have := a.sz; have := b.sz; have := a.dp; have := b.dp
  exact ⟨by rw [dszs]; omega, by rw [shbs, a.sh, b.sh]; rfl, by rw [PyData.depthAll]; omega⟩
theorem Doks.tup {ds : List PyData} {z k : Nat} (h : Doks ds z k) : Dok (.tuple ds) (z + 1) (k + 1) := by
  have := h.sz; have := h.dp
  exact ⟨by rw [dsz]; omega, by rw [shb]; exact h.sh, by rw [PyData.depth]; omega⟩
theorem Dok.tups {ds : List PyData} {z k : Nat} (h : Dok (.tuple ds) (z + 1) (k + 1)) : Doks ds z k := by
  have h1 := h.sz; have h2 := h.dp; have h3 := h.sh
  rw [dsz] at h1
  rw [PyData.depth] at h2
  rw [shb] at h3
  exact ⟨by omega, h3, by omega⟩
theorem Dok.lst {ds : List PyData} {z k : Nat} (h : Dok (.tuple ds) z k) : Dok (.list ds) z k := by
  have h1 := h.sz; have h2 := h.dp; have h3 := h.sh
  rw [dsz] at h1
  rw [PyData.depth] at h2
  rw [shb] at h3
  exact ⟨by rw [dsz]; exact h1, by rw [shb]; exact h3, by rw [PyData.depth]; exact h2⟩
theorem lit_ok {x : Str} {n : Nat} (h : (PyData.strOk x && decide (x.length ≤ n)) = true) : PyData.strOk x = true ∧ x.length ≤ n := by
  rw [Bool.and_eq_true, decide_eq_true_eq] at h
  exact h
def eZ : Nat → Nat
  | 0 => 0
  | n + 1 => 2 * eZ n + 10
theorem Ex.vd.dok : ∀ {n : Nat} {e : Ex}, e.vd n → Dok e.d (eZ n) n
  | 0, _, h => h.elim
  | n + 1, .int i, h => (Dok.int (by have := h.1; omega) (by have := h.2; omega)).mono (by unfold eZ; omega) (by omega)
  | n + 1, .name x, h => (Dok.str (name_ok h)).mono (by unfold eZ; omega) (by omega)
  | n + 1, .bin o a b, h => by
    obtain ⟨hb, h⟩ := h
    have qb := Ex.vd.dok hb
    have key : ∀ {o : Str}, PyData.strOk o = true ∧ o.length ≤ 5 → Dok a.d (eZ n) n → Dok (Ex.bin o a b).d (eZ (n + 1)) (n + 1) := fun ho qa =>
      (Doks.tup (Doks.cons (Dok.str ho) (Doks.cons qa (Doks.cons qb (Doks.nil (k := n)) (Nat.le_refl _)) (Nat.le_refl _)) (Nat.zero_le _))).mono (by show _ ≤ 2 * eZ n + 10; omega) (by omega)
    rcases h with ⟨rfl, i, rfl, h1, h2⟩ | ⟨ho, ha⟩
    · refine key (lit_ok (by decide +kernel)) ((Dok.int (by omega) (by omega)).mono ?_ (by omega))
      cases n with
      | zero => exact hb.elim
      | succ n => unfold eZ; omega
    · refine key ?_ (Ex.vd.dok ha)
      rcases ho with rfl | rfl <;> exact lit_ok (by decide +kernel)
theorem Ts.vd.dok : ∀ {n : Nat} {t : Ts}, t.vd n → Dok t.d (5 * n + 160) (n + 4)
  | n + 1, .not t, h => by
    have q := Ts.vd.dok (n := n) (t := t) h
    exact (Doks.tup (Doks.cons (Dok.str (lit_ok (x := "not") (n := 3) (by decide +kernel))) (Doks.cons q (Doks.nil (k := n + 4)) (Nat.le_refl _)) (by omega))).mono (by omega) (by omega)
  | n, .given x, h => by
    have q : isNameS x = true := by cases n <;> exact h
    exact (Doks.tup (Doks.cons (Dok.str (lit_ok (x := "given") (n := 5) (by decide +kernel))) (Doks.cons (Dok.str (name_ok q)) (Doks.nil (k := 0)) (by omega)) (by omega))).mono (by omega) (by omega)
  | n, .rest e b r, h => by
    have q : e.vd 3 ∧ 2 ≤ b ∧ b ≤ 6 ∧ 0 ≤ r ∧ r ≤ b - 1 := by cases n <;> exact h
    obtain ⟨q, b0, b1, r0, r1⟩ := q
    have e3 : eZ 3 = 70 := rfl
    exact (Doks.tup (Doks.cons (Dok.str (lit_ok (x := "rest") (n := 5) (by decide +kernel))) (Doks.cons q.dok (Doks.cons (Dok.int (by omega) (by omega)) (Doks.cons (Dok.int (by omega) (by omega)) (Doks.nil (k := 3)) (by omega)) (by omega)) (by omega)) (by omega))).mono (by omega) (by omega)
  | n, .less a b, h => by
    have q : a.vd 3 ∧ b.vd 3 := by cases n <;> exact h
    have e3 : eZ 3 = 70 := rfl
    exact (Doks.tup (Doks.cons (Dok.str (lit_ok (x := "less") (n := 5) (by decide +kernel))) (Doks.cons q.1.dok (Doks.cons q.2.dok (Doks.nil (k := 3)) (by omega)) (by omega)) (by omega))).mono (by omega) (by omega)
theorem Pl.vd.dok {p : Pl} (h : p.vd) : Dok p.d 100 4 := by
  have e3 : eZ 3 = 70 := rfl
  cases p with
  | set x e => exact (Doks.tup (Doks.cons (Dok.str (lit_ok (x := "set") (n := 5) (by decide +kernel))) (Doks.cons (Dok.str (name_ok h.1)) (Doks.cons h.2.dok (Doks.nil (k := 3)) (by omega)) (by omega)) (by omega))).mono (by omega) (by omega)
  | unset x => exact (Doks.tup (Doks.cons (Dok.str (lit_ok (x := "unset") (n := 5) (by decide +kernel))) (Doks.cons (Dok.str (name_ok h)) (Doks.nil (k := 3)) (by omega)) (by omega))).mono (by omega) (by omega)
  | tell e => exact (Doks.tup (Doks.cons (Dok.str (lit_ok (x := "tell") (n := 5) (by decide +kernel))) (Doks.cons (Ex.vd.dok (n := 3) h) (Doks.nil (k := 3)) (by omega)) (by omega))).mono (by omega) (by omega)
  | say x => exact (Doks.tup (Doks.cons (Dok.str (lit_ok (x := "say") (n := 5) (by decide +kernel))) (Doks.cons (Dok.str (word_ok h)) (Doks.nil (k := 3)) (by omega)) (by omega))).mono (by omega) (by omega)
  | stop x => exact (Doks.tup (Doks.cons (Dok.str (lit_ok (x := "stop") (n := 5) (by decide +kernel))) (Doks.cons (Dok.str (word_ok h)) (Doks.nil (k := 3)) (by omega)) (by omega))).mono (by omega) (by omega)
theorem Sm.vd.doks : ∀ (n : Nat) (b : List Sm), VdB n b → Doks (Sm.ds b) (200 * Sm.sizes b) (2 * n + 6) := by
  intro n
  induction n with
  | zero =>
    intro b h
    have h : b = [] := h
    subst h
    rw [Sm.ds, Sm.sizes]
    exact Doks.nil
  | succ n ih =>
    intro b h
    induction b with
    | nil =>
      rw [Sm.ds, Sm.sizes]
      exact Doks.nil
    | cons s r ihr =>
      have hr := ihr fun z hz => h z (List.mem_cons_of_mem _ hz)
      have hs : Dok s.d (200 * s.size) (2 * (n + 1) + 6) := by
        have hv := h s (List.mem_cons_self ..)
        have hp := hv.parts
        cases s with
        | pl p =>
          have q : p.vd := by cases n <;> exact hv
          rw [Sm.d, Sm.size]
          exact q.dok.mono (by omega) (by omega)
        | ifs t y z =>
          have ht : t.vd 2 := by cases n <;> exact hv.1
          have q1 := ih y (hp y (by simp [Sm.parts]))
          have q2 := ih z (hp z (by simp [Sm.parts]))
          rw [Sm.d, Sm.size]
          exact (Doks.tup (Doks.cons (Dok.str (lit_ok (x := "if") (n := 2) (by decide +kernel))) (Doks.cons ht.dok (Doks.cons q1.tup (Doks.cons q2.tup (Doks.nil (k := 2 * n + 7)) (by omega)) (by omega)) (by omega)) (by omega))).mono (by omega) (by omega)
        | rep k b =>
          have hk : 0 ≤ k ∧ k ≤ 8 := by cases n <;> exact ⟨hv.1, hv.2.1⟩
          have q1 := ih b (hp b (by simp [Sm.parts]))
          rw [Sm.d, Sm.size]
          exact (Doks.tup (Doks.cons (Dok.str (lit_ok (x := "repeat") (n := 6) (by decide +kernel))) (Doks.cons (Dok.int (by omega) (by omega)) (Doks.cons q1.tup (Doks.nil (k := 2 * n + 7)) (by omega)) (by omega)) (by omega))).mono (by omega) (by omega)
      rw [Sm.ds, Sm.sizes]
      have q := Doks.cons hs hr (Nat.le_refl _)
      exact ⟨by have := q.sz; omega, q.sh, q.dp⟩
theorem PgV.dok {b : List Sm} (h : PgV b) : Dok (.tuple (Sm.ds b)) 4801 15 := by
  have q := (Sm.vd.doks 4 b h.vd).tup
  have := h.size
  exact q.mono (by omega) (by omega)

abbrev ODD1 : List PyData := [.none, .bool true, .int 0, .int 9, .int (-100), .int ((10 : Int) ^ (50 : Int).toNat), .str "", .str "n", .str "unset", .str "Ab", .str "a_", .str "abcdefghi", .tuple [], .list [], .dict [], .tuple [.int 1], .tuple [.str "say"]]
abbrev ODD2 : List PyData := [.tuple [.str "given", .str "n"], .list [.str "say", .str "x"], .tuple [.str "say", .str "x"], .tuple [.tuple [.str "say", .str "x"]], .tuple [.tuple [.str "say", .str "X"]], .tuple [.str "tell", .tuple [.str "plus", .int 1]]]
theorem odd1_ok : ∀ d ∈ ODD1, Dok d 3000 30 := by
  have h : ODD1.all (fun d => decide (dsz d ≤ 3000) && shb d && decide (d.depth ≤ 30)) = true := by decide +kernel
  exact fun d hd => Dok.by (List.all_eq_true.mp h d hd)
theorem odd2_ok : ∀ d ∈ ODD2, Dok d 3000 30 := by
  have h : ODD2.all (fun d => decide (dsz d ≤ 3000) && shb d && decide (d.depth ≤ 30)) = true := by decide +kernel
  exact fun d hd => Dok.by (List.all_eq_true.mp h d hd)
def strL (x : Str) (n : Nat) : Prop := PyData.strOk x = true ∧ x.length ≤ n
/-- one if more around it -/
theorem deep_ok {x : PyData} {z k : Nat} (h : Dok x z k) : Dok (.tuple [.str "if", .tuple [.str "given", .str "n"], .tuple [x], .tuple []]) (z + 30) (k + 2) :=
  (Doks.tup (Doks.cons (Dok.str (lit_ok (x := "if") (n := 2) (by decide +kernel))) (Doks.cons (Dok.by (z := 12) (k := 1) (by decide +kernel)) (Doks.cons (Doks.cons h (Doks.nil (k := k)) (Nat.le_refl _)).tup (Doks.cons (Dok.nil (k := 0)) (Doks.nil (k := k + 1)) (by omega)) (by omega)) (by omega)) (by omega))).mono (by omega) (by omega)
theorem twice_ok {x : PyData} {z k : Nat} (h : Dok x z k) : Dok (.tuple [.str "repeat", .int 8, .tuple [x, x]]) (2 * z + 30) (k + 2) :=
  (Doks.tup (Doks.cons (Dok.str (lit_ok (x := "repeat") (n := 6) (by decide +kernel))) (Doks.cons (Dok.int (by omega) (by omega)) (Doks.cons (Doks.cons h (Doks.cons h (Doks.nil (k := k)) (Nat.le_refl _)) (Nat.le_refl _)).tup (Doks.nil (k := k + 1)) (by omega)) (by omega)) (by omega))).mono (by omega) (by omega)

/-! ### promises -/
theorem Deck.oc {H : Hp} {d c : Addr} {n : Int} (D : Deck H d c n) : Oc [d, c] H := fun a m => by
  obtain ⟨xs, e⟩ := D.ls a m
  exact ⟨_, e⟩
theorem Deck.ocM {H : Hp} {d c : Addr} {n : Int} {M : List Addr} (D : Deck H d c n) (h : Oc M H) : Oc (d :: c :: M) H := fun a m => by
  rcases List.mem_cons.mp m with rfl | m
  · exact ⟨_, D.hd⟩
  rcases List.mem_cons.mp m with rfl | m
  · exact D.oc _ (by simp)
  · exact h a m
theorem Oc.kp {M : List Addr} {H H1 : Hp} (h : Oc M H) (k : Kp [] H H1) : Oc M H1 := fun a m => by
  obtain ⟨o, e⟩ := h a m
  exact ⟨o, k.get e (by simp)⟩
theorem Oc.deck {M : List Addr} {H H1 : Hp} {d c : Addr} {n : Int} (h : Oc M H) (D : Deck H1 d c n) (k : Kp [d, c] H H1) : Oc M H1 := fun a m => by
  by_cases hm : a ∈ [d, c]
  · exact D.oc a hm
  · obtain ⟨o, e⟩ := h a m
    exact ⟨o, k.get e hm⟩
theorem dcM {d c : Addr} {M : List Addr} : ∀ b ∈ [d, c], b ∈ d :: c :: M := fun b hb => by
  simp only [List.mem_cons, List.not_mem_nil, or_false] at hb ⊢
  rcases hb with rfl | rfl
  · exact .inl rfl
  · exact .inr (.inl rfl)
def spOdd (K : PySem.W.Frag) : Sp := fun vs H Q _ => ∃ (d c : Addr) (n : Int) (M : List Addr), vs = [.ref d] ∧ Deck H d c n ∧ n + 10 < 10 ^ 12 ∧ Oc M H ∧
  ∀ (H' : Hp) (v : V) (x : PyData) (n' : Int), Deck H' d c n' → n ≤ n' → n' ≤ n + 10 → Kp [d, c] H H' → Dw (d :: c :: M) K H' v x → Dok x 3000 30 → Q v H'
def spBent (K : PySem.W.Frag) (m : Nat) : Sp := fun vs H Q _ => ∃ (d c : Addr) (n : Int) (M : List Addr) (v : V) (x : PyData) (z k : Nat), vs = [.ref d, v, .int m] ∧ Deck H d c n ∧ n + 20 + 10 * m < 10 ^ 12 ∧ Oc M H ∧ Dw (d :: c :: M) K H v x ∧ Dok x z k ∧ z ≤ 1000000 ∧
  ∀ (H' : Hp) (w : V) (y : PyData) (n' : Int), Deck H' d c n' → n ≤ n' → n' ≤ n + 20 + 10 * m → Kp [d, c] H H' → Dw (d :: c :: M) K H' w y → Dok y (3 * z + 3000) (max k (30 + m)) → Q w H'
end Aw

/-! runs: sums, states, what a run does -/
namespace Aw
open PySem PySem.Spec L2

/-! ### multiples of readings -/
abbrev Ml := List (Int × Int)
structure Sv where
  n : Int
  m : Ml
def kvI (m : Ml) : List (Key × V) := m.map fun p => (Sum.inl p.1, V.int p.2)
def getI (m : Ml) (k : Int) : Int := ((m.find? fun p => decide (p.1 = k)).map (·.2)).getD 0
def putI (m : Ml) (k v : Int) : Ml := if (m.any fun p => decide (p.1 = k)) = true then m.map (fun p => if p.1 = k then (p.1, v) else p) else m ++ [(k, v)]
def ksI (m : Ml) : List Int := m.map (·.1)
theorem getI_nil (k : Int) : getI [] k = 0 := rfl
theorem getI_pos {p : Int × Int} {r : Ml} {k : Int} (e : p.1 = k) : getI (p :: r) k = p.2 := by simp [getI, List.find?_cons, e]
theorem getI_neg {p : Int × Int} {r : Ml} {k : Int} (e : ¬ p.1 = k) : getI (p :: r) k = getI r k := by simp [getI, List.find?_cons, e]
theorem kvI_get (k : Int) : ∀ m : Ml, (valV (kvI m) (Sum.inl k)).getD (.int 0) = .int (getI m k)
  | [] => rfl
  | p :: r => by
    have ih := kvI_get k r
    unfold kvI at ih ⊢
    rw [List.map_cons]
    by_cases e : p.1 = k
    · rw [valV_pos (show (Sum.inl p.1 : Key) = Sum.inl k by rw [e]), getI_pos e]
      rfl
    · rw [valV_neg (fun z => e (by injection z)), getI_neg e]
      exact ih
theorem kvI_some {k v : Int} : ∀ {m : Ml}, (ksI m).Nodup → (k, v) ∈ m → valV (kvI m) (Sum.inl k) = some (.int v)
  | p :: r, hn, hm => by
    unfold kvI
    rw [List.map_cons]
    rcases List.mem_cons.mp hm with e | hm
    · subst e
      exact valV_pos rfl
    · have hn' : (p.1 :: ksI r).Nodup := hn
      rw [List.nodup_cons] at hn'
      have hne : ¬ p.1 = k := fun e => hn'.1 (by rw [e]; exact List.mem_map.mpr ⟨(k, v), hm, rfl⟩)
      rw [valV_neg (fun z => hne (by injection z))]
      exact kvI_some hn'.2 hm
theorem kvI_put (m : Ml) (k v : Int) : putK (kvI m) (Sum.inl k) (.int v) = kvI (putI m k v) := by
  have ha : ((kvI m).any fun kv => decide (kv.1 = (Sum.inl k : Key))) = (m.any fun p => decide (p.1 = k)) := by
    unfold kvI
    rw [List.any_map]
    congr 1
    funext p
    show decide ((Sum.inl p.1 : Key) = Sum.inl k) = decide (p.1 = k)
    exact decide_eq_decide.mpr ⟨fun e => by injection e, fun e => by rw [e]⟩
  unfold putK putI
  rw [ha]
  split
  · unfold kvI
    rw [List.map_map, List.map_map]
    congr 1
    funext p
    show (if (Sum.inl p.1 : Key) = Sum.inl k then ((Sum.inl p.1 : Key), V.int v) else (Sum.inl p.1, V.int p.2)) = (Sum.inl (if p.1 = k then (p.1, v) else p).1, V.int (if p.1 = k then (p.1, v) else p).2)
    by_cases e : p.1 = k
    · rw [if_pos (by rw [e]), if_pos e]
    · rw [if_neg (fun z => e (by injection z)), if_neg e]
  · unfold kvI
    rw [List.map_append]
    rfl
theorem kvI_len (m : Ml) : (kvI m).length = m.length := by unfold kvI; rw [List.length_map]
theorem kvI_vals (m : Ml) : (kvI m).map (·.2) = (m.map (·.2)).map V.int := by unfold kvI; rw [List.map_map, List.map_map]; rfl
theorem getI_out {k : Int} : ∀ {m : Ml}, k ∉ ksI m → getI m k = 0
  | [], _ => rfl
  | p :: r, h => by
    have h' : ¬ (k = p.1 ∨ k ∈ ksI r) := fun z => h (List.mem_cons.mpr z)
    rw [getI_neg (fun e => h' (.inl e.symm))]
    exact getI_out fun z => h' (.inr z)
theorem getI_mem {k v : Int} : ∀ {m : Ml}, (ksI m).Nodup → (k, v) ∈ m → getI m k = v
  | p :: r, hn, hm => by
    rcases List.mem_cons.mp hm with e | hm
    · subst e
      exact getI_pos rfl
    · have hn' : (p.1 :: ksI r).Nodup := hn
      rw [List.nodup_cons] at hn'
      rw [getI_neg fun e => hn'.1 (by rw [e]; exact List.mem_map.mpr ⟨(k, v), hm, rfl⟩)]
      exact getI_mem hn'.2 hm
theorem putI_keys (m : Ml) (k v : Int) : ksI (putI m k v) = if k ∈ ksI m then ksI m else ksI m ++ [k] := by
  have ha : (m.any fun p => decide (p.1 = k)) = decide (k ∈ ksI m) := by
    unfold ksI
    rw [Bool.eq_iff_iff, List.any_eq_true, decide_eq_true_eq]
    constructor
    · rintro ⟨p, hp, e⟩
      exact List.mem_map.mpr ⟨p, hp, of_decide_eq_true e⟩
    · intro h
      obtain ⟨p, hp, e⟩ := List.mem_map.mp h
      exact ⟨p, hp, decide_eq_true e⟩
  unfold putI
  rw [ha]
  by_cases h : k ∈ ksI m
  · rw [if_pos (decide_eq_true h), if_pos h]
    unfold ksI
    rw [List.map_map]
    congr 1
    funext p
    show (if p.1 = k then (p.1, v) else p).1 = p.1
    split <;> rfl
  · rw [if_neg (by rw [decide_eq_false h]; decide), if_neg h]
    unfold ksI
    rw [List.map_append]
    rfl
theorem putI_nodup {m : Ml} (k v : Int) (h : (ksI m).Nodup) : (ksI (putI m k v)).Nodup := by
  rw [putI_keys]
  split
  · exact h
  · rename_i hk
    rw [List.nodup_append]
    exact ⟨h, by simp, fun a ha b hb => by
      rw [List.mem_singleton.mp hb]
      intro e
      exact hk (e ▸ ha)⟩
theorem getI_put (k v j : Int) : ∀ m : Ml, getI (putI m k v) j = if j = k then v else getI m j := by
  intro m
  induction m with
  | nil =>
    show getI [(k, v)] j = _
    by_cases e : k = j
    · rw [getI_pos (p := (k, v)) e, if_pos e.symm]
    · rw [getI_neg (p := (k, v)) e, if_neg (fun z => e z.symm)]
  | cons p r ih =>
    unfold putI at ih ⊢
    rw [List.any_cons]
    by_cases e : p.1 = k
    · rw [decide_eq_true e, Bool.true_or, if_pos rfl, List.map_cons, if_pos e]
      by_cases ej : p.1 = j
      · rw [getI_pos (p := (p.1, v)) ej, if_pos (by rw [← ej, e])]
      · rw [getI_neg (p := (p.1, v)) ej, getI_neg ej, if_neg (fun z => ej (by rw [e, z]))]
        by_cases ha : (r.any fun p => decide (p.1 = k)) = true
        · rw [if_pos ha] at ih
          rw [ih, if_neg (fun z => ej (by rw [e, z]))]
        · have hid : r.map (fun p => if p.1 = k then (p.1, v) else p) = r := by
            refine (List.map_congr_left fun q hq => ?_).trans (List.map_id r)
            show (if q.1 = k then (q.1, v) else q) = q
            rw [if_neg fun z => ha (List.any_eq_true.mpr ⟨q, hq, decide_eq_true z⟩)]
          rw [hid]
    · rw [decide_eq_false e, Bool.false_or]
      by_cases ej : p.1 = j
      · have hjk : ¬ j = k := fun z => e (by rw [ej, z])
        rw [if_neg hjk, getI_pos ej]
        split
        · rw [List.map_cons, if_neg e, getI_pos ej]
        · rw [List.cons_append, getI_pos ej]
      · rw [getI_neg ej, ← ih]
        split
        · rw [List.map_cons, if_neg e, getI_neg ej]
        · rw [List.cons_append, getI_neg ej]
/-- a and t times b -/
def bothM (a b : Ml) (t : Int) : Ml := b.foldl (fun m p => putI m p.1 (getI m p.1 + t * p.2)) a
theorem bothM_snoc (a b : Ml) (t : Int) (p : Int × Int) : bothM a (b ++ [p]) t = putI (bothM a b t) p.1 (getI (bothM a b t) p.1 + t * p.2) := by
  unfold bothM
  rw [List.foldl_append]
  rfl
theorem bothM_nodup {t : Int} : ∀ {b a : Ml}, (ksI a).Nodup → (ksI (bothM a b t)).Nodup
  | [], a, h => h
  | p :: r, a, h => bothM_nodup (b := r) (a := putI a p.1 (getI a p.1 + t * p.2)) (putI_nodup _ _ h)
theorem bothM_keys {t k : Int} : ∀ {b a : Ml}, k ∈ ksI (bothM a b t) → k ∈ ksI a ∨ k ∈ ksI b
  | [], a, h => .inl h
  | p :: r, a, h => by
    rcases bothM_keys (b := r) (a := putI a p.1 (getI a p.1 + t * p.2)) h with h | h
    · rw [putI_keys] at h
      split at h
      · exact .inl h
      · rcases List.mem_append.mp h with h | h
        · exact .inl h
        · rw [List.mem_singleton.mp h]
          exact .inr (List.mem_cons_self ..)
    · exact .inr (List.mem_cons_of_mem _ h)
theorem bothM_get {t k : Int} : ∀ {b a : Ml}, (ksI b).Nodup → getI (bothM a b t) k = getI a k + t * getI b k
  | [], a, _ => by rw [getI_nil]; show getI a k = _; omega
  | p :: r, a, h => by
    have h' : (p.1 :: ksI r).Nodup := h
    rw [List.nodup_cons] at h'
    show getI (bothM (putI a p.1 (getI a p.1 + t * p.2)) r t) k = _
    rw [bothM_get h'.2, getI_put]
    by_cases e : k = p.1
    · rw [if_pos e, e, getI_out h'.1, getI_pos rfl]
      omega
    · rw [if_neg e, getI_neg (fun z => e z.symm)]
def both (a b : Sv) (t : Int) : Sv := ⟨a.n + t * b.n, bothM a.m b.m t⟩
/-! ### bounds -/
structure Sv.ok (b m : Nat) (s : Sv) : Prop where
  n : s.n.natAbs < 2 ^ b
  v : ∀ p ∈ s.m, p.2.natAbs < 2 ^ b
  k : ∀ p ∈ s.m, 0 ≤ p.1 ∧ p.1 < m
  nd : (ksI s.m).Nodup
theorem two_le {b c : Nat} (h : b ≤ c) : 2 ^ b ≤ 2 ^ c := Nat.pow_le_pow_right (by decide) h
theorem Sv.ok.mono {b m b' m' : Nat} {s : Sv} (h : s.ok b m) (hb : b ≤ b') (hm : m ≤ m') : s.ok b' m' :=
  ⟨Nat.lt_of_lt_of_le h.n (two_le hb), fun p hp => Nat.lt_of_lt_of_le (h.v p hp) (two_le hb), fun p hp => by have := h.k p hp; omega, h.nd⟩
theorem Sv.ok.get {b m : Nat} {s : Sv} (h : s.ok b m) (k : Int) : (getI s.m k).natAbs < 2 ^ b := by
  by_cases hk : k ∈ ksI s.m
  · obtain ⟨p, hp, e⟩ := List.mem_map.mp hk
    have := h.v p hp
    rw [← e, getI_mem (v := p.2) h.nd hp]
    exact this
  · rw [getI_out hk]
    exact Nat.lt_of_lt_of_le Nat.zero_lt_one (Nat.one_le_two_pow)
theorem mul_abs {t x : Int} {N : Nat} (h1 : -9 ≤ t) (h2 : t ≤ 9) (hx : x.natAbs < N) : (t * x).natAbs ≤ 9 * N := by
  rw [Int.natAbs_mul]
  exact Nat.mul_le_mul (by omega) (Nat.le_of_lt hx)
theorem Sv.ok.both {b m : Nat} {s u : Sv} {t : Int} (h : s.ok b m) (g : u.ok b m) (h1 : -9 ≤ t) (h2 : t ≤ 9) : (both s u t).ok (b + 4) m := by
  have e : 2 ^ (b + 4) = 16 * 2 ^ b := by rw [Nat.pow_add]; omega
  have key : ∀ x y : Int, x.natAbs < 2 ^ b → y.natAbs < 2 ^ b → (x + t * y).natAbs < 2 ^ (b + 4) := fun x y hx hy => by
    have q := mul_abs h1 h2 hy
    have := Int.natAbs_add_le x (t * y)
    rw [e]
    omega
  refine ⟨key _ _ h.n g.n, fun p hp => ?_, fun p hp => ?_, bothM_nodup h.nd⟩
  · have q := getI_mem (k := p.1) (v := p.2) (bothM_nodup (b := u.m) (t := t) h.nd) hp
    rw [bothM_get g.nd] at q
    rw [← q]
    exact key _ _ (h.get _) (g.get _)
  · rcases bothM_keys (List.mem_map.mpr ⟨p, hp, rfl⟩ : p.1 ∈ ksI (bothM s.m u.m t)) with hk | hk
    · obtain ⟨q, hq, e⟩ := List.mem_map.mp hk
      rw [← e]
      exact h.k q hq
    · obtain ⟨q, hq, e⟩ := List.mem_map.mp hk
      rw [← e]
      exact g.k q hq
theorem nodup_len : ∀ (m : Nat) (l : List Int), l.Nodup → (∀ x ∈ l, 0 ≤ x ∧ x < m) → l.length ≤ m := by
  intro m
  induction m with
  | zero =>
    intro l _ h
    cases l with
    | nil => exact Nat.le_refl _
    | cons x r => have := h x (List.mem_cons_self ..); omega
  | succ m ih =>
    intro l hn h
    have hf : (l.filter fun x => decide (x ≠ (m : Int))).length ≤ m := ih _ (hn.filter _) fun x hx => by
      have q := List.mem_filter.mp hx
      have := h x q.1
      have := of_decide_eq_true q.2
      omega
    have hc : l.length ≤ (l.filter fun x => decide (x ≠ (m : Int))).length + 1 := by
      clear ih hf h
      induction l with
      | nil => exact Nat.zero_le _
      | cons x r ihr =>
        rw [List.nodup_cons] at hn
        by_cases e : x = (m : Int)
        · rw [List.filter_cons_of_neg (by simp [e])]
          have hid : r.filter (fun x => decide (x ≠ (m : Int))) = r := List.filter_eq_self.mpr fun y hy => by
            refine decide_eq_true fun z => hn.1 ?_
            rw [e, ← z]
            exact hy
          rw [hid, List.length_cons]
          exact Nat.le_refl _
        · rw [List.filter_cons_of_pos (by simpa using e), List.length_cons, List.length_cons]
          have := ihr hn.2
          omega
    omega
theorem Sv.ok.len {b m : Nat} {s : Sv} (h : s.ok b m) : s.m.length ≤ m := by
  have q := nodup_len m (ksI s.m) h.nd fun x hx => by
    obtain ⟨p, hp, rfl⟩ := List.mem_map.mp hx
    exact h.k p hp
  unfold ksI at q
  rwa [List.length_map] at q
/-! ### the run -/
structure Rs where
  env : Str → Option Sv
  said : List (Str ⊕ Sv)
  made : List Int
def rdS (fix : List Int) (p : Int) (st : Rs) : Sv × Rs := if p ∈ fix then (⟨0, []⟩, st) else (⟨0, [((st.made.length : Nat), 1)]⟩, { st with made := st.made ++ [p] })
def Ex.num : Ex → Int
  | .int i => i
  | _ => 0
def Ex.ev (fix : List Int) (p : Int) : Ex → Rs → Sv × Rs
  | .int i, st => (⟨i, []⟩, st)
  | .name x, st => match st.env x with
    | some s => (s, st)
    | none => rdS fix p st
  | .bin o a b, st => if o = "times" then (both ⟨0, []⟩ (b.ev fix p st).1 a.num, (b.ev fix p st).2)
    else (both (a.ev fix p st).1 (b.ev fix p (a.ev fix p st).2).1 (if o = "plus" then 1 else -1), (b.ev fix p (a.ev fix p st).2).2)
def Sv.non (f : Int → Bool) (s : Sv) : Bool := ((s.m.map (·.2)).filter f).isEmpty
def lessV (v : Sv) : Option Bool := if v.non (fun x => !decide (x = 0)) = true then some (decide (v.n < 0)) else none
def restV (b r : Int) (v : Sv) : Option Bool := if v.non (fun x => !decide (x % b = 0)) = true then some (decide (v.n % b = r)) else none
def Ts.tr (fix : List Int) (p : Int) : Ts → Rs → Option Bool × Rs
  | .not t, st => ((t.tr fix p st).1.map (! ·), (t.tr fix p st).2)
  | .given x, st => (some (st.env x).isSome, st)
  | .rest e b r, st => (restV b r (e.ev fix p st).1, (e.ev fix p st).2)
  | .less a b, st => (lessV (both (a.ev fix p st).1 (b.ev fix p (a.ev fix p st).2).1 (-1)), (b.ev fix p (a.ev fix p st).2).2)
def setE (env : Str → Option Sv) (x : Str) (o : Option Sv) : Str → Option Sv := fun y => if y = x then o else env y
def Pl.go (fix : List Int) (p : Int) : Pl → Rs → Option Str × Rs
  | .set x e, st => (none, { (e.ev fix p st).2 with env := setE (e.ev fix p st).2.env x (some (e.ev fix p st).1) })
  | .unset x, st => (none, { st with env := setE st.env x none })
  | .tell e, st => (none, { (e.ev fix p st).2 with said := (e.ev fix p st).2.said ++ [.inr (e.ev fix p st).1] })
  | .say w, st => (none, { st with said := st.said ++ [.inl w] })
  | .stop w, st => (some w, st)
def iterS (f : Rs → Option Str × Rs) : Nat → Rs → Option Str × Rs
  | 0, st => (none, st)
  | n + 1, st => match f st with
    | (some w, st') => (some w, st')
    | (none, st') => iterS f n st'
mutual
def Sm.go (fix : List Int) : Int → Sm → Rs → Option Str × Rs
  | p, .pl s, st => s.go fix p st
  | p, .ifs t y z, st => match t.tr fix p st with
    | (none, st') => (some "unsure", st')
    | (some true, st') => Sm.goL fix (p + 1) y st'
    | (some false, st') => Sm.goL fix (p + 1 + (Sm.sizes y : Nat)) z st'
  | p, .rep k b, st => iterS (fun st => Sm.goL fix (p + 1) b st) k.toNat st
def Sm.goL (fix : List Int) : Int → List Sm → Rs → Option Str × Rs
  | _, [], st => (none, st)
  | p, s :: r, st => match Sm.go fix p s st with
    | (some w, st') => (some w, st')
    | (none, st') => Sm.goL fix (p + (s.size : Nat)) r st'
end
/-! ### bounds of a run -/
structure Rs.ok (b L : Nat) (st : Rs) : Prop where
  env : ∀ x s, st.env x = some s → s.ok b st.made.length
  said : ∀ s, .inr s ∈ st.said → s.ok b st.made.length
  sl : st.said.length ≤ L
  ml : st.made.length ≤ 16 * L
theorem Rs.ok.mono {b L b' L' : Nat} {st : Rs} (h : st.ok b L) (hb : b ≤ b') (hL : L ≤ L') : st.ok b' L' :=
  ⟨fun x s e => (h.env x s e).mono hb (Nat.le_refl _), fun s e => (h.said s e).mono hb (Nat.le_refl _), Nat.le_trans h.sl hL, by have := h.ml; omega⟩
/-- a state with the same names and items, and more readings -/
structure Rs.more (st st' : Rs) (k : Nat) : Prop where
  env : st'.env = st.env
  said : st'.said = st.said
  ge : st.made.length ≤ st'.made.length
  le : st'.made.length ≤ st.made.length + k
theorem Rs.more.refl (st : Rs) (k : Nat) : st.more st k := ⟨rfl, rfl, Nat.le_refl _, by omega⟩
theorem Rs.more.trans {a b c : Rs} {k l : Nat} (h : a.more b k) (g : b.more c l) : a.more c (k + l) :=
  ⟨g.env.trans h.env, g.said.trans h.said, Nat.le_trans h.ge g.ge, by have := h.le; have := g.le; omega⟩
theorem rdS_ok (fix : List Int) (p : Int) (st : Rs) : st.more (rdS fix p st).2 1 ∧ ∀ b, 1 ≤ b → (rdS fix p st).1.ok b (rdS fix p st).2.made.length := by
  unfold rdS
  split
  · refine ⟨Rs.more.refl st 1, fun b hb => ⟨?_, (fun p hp => nomatch hp), (fun p hp => nomatch hp), List.nodup_nil⟩⟩
    exact Nat.lt_of_lt_of_le Nat.zero_lt_one (Nat.one_le_two_pow)
  · refine ⟨⟨rfl, rfl, by simp, by simp⟩, fun b hb => ⟨Nat.lt_of_lt_of_le Nat.zero_lt_one (Nat.one_le_two_pow), fun p hp => ?_, fun p hp => ?_, by simp [ksI]⟩⟩
    · rw [List.mem_singleton.mp hp]
      exact Nat.lt_of_lt_of_le (by decide : (1 : Int).natAbs < 2 ^ 1) (two_le hb)
    · rw [List.mem_singleton.mp hp]
      simp
      omega
theorem Ex.ev_ok (fix : List Int) (p : Int) : ∀ {n : Nat} {e : Ex} {st : Rs} {b : Nat}, e.vd n → (∀ x s, st.env x = some s → s.ok b st.made.length) → 7 ≤ b →
    st.more (e.ev fix p st).2 (2 ^ n) ∧ (e.ev fix p st).1.ok (b + 4 * n) (e.ev fix p st).2.made.length
  | 0, _, _, _, h, _, _ => h.elim
  | n + 1, .int i, st, b, h, hs, hb => by
    refine ⟨Rs.more.refl st _, ?_, (fun p hp => nomatch hp), (fun p hp => nomatch hp), List.nodup_nil⟩
    have h1 : -99 ≤ i := h.1
    have h2 : i ≤ 99 := h.2
    show i.natAbs < 2 ^ (b + 4 * (n + 1))
    exact Nat.lt_of_lt_of_le (show i.natAbs < 2 ^ 7 by omega) (two_le (by omega))
  | n + 1, .name x, st, b, h, hs, hb => by
    rw [Ex.ev]
    split
    · rename_i s e
      exact ⟨Rs.more.refl st _, (hs x s e).mono (by omega) (Nat.le_refl _)⟩
    · have q := rdS_ok fix p st
      refine ⟨⟨q.1.env, q.1.said, q.1.ge, ?_⟩, q.2 _ (by omega)⟩
      have := q.1.le
      have := Nat.one_le_two_pow (n := n + 1)
      omega
  | n + 1, .bin o x y, st, b, h, hs, hb => by
    obtain ⟨hy, h⟩ := h
    rw [Ex.ev]
    have e2 : 2 ^ (n + 1) = 2 ^ n + 2 ^ n := by rw [Nat.pow_succ]; omega
    rcases h with ⟨rfl, i, rfl, i1, i2⟩ | ⟨ho, hx⟩
    · rw [if_pos rfl]
      obtain ⟨m1, o1⟩ := Ex.ev_ok fix p (st := st) hy hs hb
      have h2n := Nat.one_le_two_pow (n := n)
      refine ⟨⟨m1.env, m1.said, m1.ge, Nat.le_trans m1.le (by omega)⟩, ?_⟩
      have z : (⟨0, []⟩ : Sv).ok (b + 4 * n) (y.ev fix p st).2.made.length := ⟨Nat.lt_of_lt_of_le Nat.zero_lt_one (Nat.one_le_two_pow), (fun p hp => nomatch hp), (fun p hp => nomatch hp), List.nodup_nil⟩
      exact (z.both o1 i1 i2).mono (by omega) (Nat.le_refl _)
    · have hot : o ≠ "times" := by
        rcases ho with rfl | rfl <;> decide +kernel
      rw [if_neg hot]
      obtain ⟨m1, o1⟩ := Ex.ev_ok fix p (st := st) hx hs hb
      have hs2 : ∀ z s, (x.ev fix p st).2.env z = some s → s.ok b (x.ev fix p st).2.made.length := fun z s e => by
        rw [m1.env] at e
        exact (hs z s e).mono (Nat.le_refl _) m1.ge
      obtain ⟨m2, o2⟩ := Ex.ev_ok fix p (st := (x.ev fix p st).2) hy hs2 hb
      have m12 := m1.trans m2
      refine ⟨⟨m12.env, m12.said, m12.ge, Nat.le_trans m12.le (by omega)⟩, ?_⟩
      have t9 : -9 ≤ (if o = "plus" then (1 : Int) else -1) ∧ (if o = "plus" then (1 : Int) else -1) ≤ 9 := by split <;> omega
      exact ((o1.mono (Nat.le_refl _) m2.ge).both o2 t9.1 t9.2).mono (by omega) (Nat.le_refl _)
theorem Ts.tr_ok (fix : List Int) (p : Int) : ∀ {n : Nat} {t : Ts} {st : Rs} {b : Nat}, t.vd n → (∀ x s, st.env x = some s → s.ok b st.made.length) → 7 ≤ b → st.more (t.tr fix p st).2 16
  | n + 1, .not t, st, b, h, hs, hb => Ts.tr_ok fix p (n := n) (t := t) h hs hb
  | n, .given x, st, b, h, hs, hb => Rs.more.refl st _
  | n, .rest e c r, st, b, h, hs, hb => by
    have q : e.vd 3 := by cases n <;> exact h.1
    have := (Ex.ev_ok fix p q hs hb).1
    exact ⟨this.env, this.said, this.ge, Nat.le_trans this.le (by omega)⟩
  | n, .less x y, st, b, h, hs, hb => by
    have q : x.vd 3 ∧ y.vd 3 := by cases n <;> exact h
    have m1 := (Ex.ev_ok fix p q.1 hs hb).1
    have hs2 : ∀ z s, (x.ev fix p st).2.env z = some s → s.ok b (x.ev fix p st).2.made.length := fun z s e => by
      rw [m1.env] at e
      exact (hs z s e).mono (Nat.le_refl _) m1.ge
    have m2 := (Ex.ev_ok fix p q.2 hs2 hb).1
    have m12 := m1.trans m2
    exact ⟨m12.env, m12.said, m12.ge, Nat.le_trans m12.le (by omega)⟩
/-! ### the weight, as a natural number -/
mutual
def Sm.wt : Sm → Nat
  | .pl _ => 1
  | .ifs _ y z => 1 + (Sm.wts y + Sm.wts z)
  | .rep k b => 1 + Sm.wts b * k.toNat
def Sm.wts : List Sm → Nat
  | [] => 0
  | s :: r => Sm.wt s + Sm.wts r
end
theorem Sm.wts_cnts : ∀ (n : Nat) (b : List Sm), VdB n b → (Sm.wts b : Int) = Sm.cnts "weight" b := by
  intro n
  induction n with
  | zero =>
    intro b h
    have h : b = [] := h
    subst h
    rw [Sm.wts, Sm.cnts]
    rfl
  | succ n ih =>
    intro b h
    induction b with
    | nil => rw [Sm.wts, Sm.cnts]; rfl
    | cons s r ihr =>
      have hr := ihr fun z hz => h z (List.mem_cons_of_mem _ hz)
      have hs : (s.wt : Int) = Sm.cnt "weight" s := by
        have hv := h s (List.mem_cons_self ..)
        have hp := hv.parts
        cases s with
        | pl p => rw [Sm.wt, Sm.cnt_pl, if_pos rfl]; rfl
        | ifs t y z =>
          have q1 := ih y (hp y (by simp [Sm.parts]))
          have q2 := ih z (hp z (by simp [Sm.parts]))
          rw [Sm.wt, Sm.cnt, Sm.cnt_w]
          omega
        | rep k b =>
          have hk : 0 ≤ k := by cases n <;> exact hv.1
          have q1 := ih b (hp b (by simp [Sm.parts]))
          rw [Sm.wt, Sm.cnt, Sm.cnt_w, ← q1]
          have : ((k.toNat : Nat) : Int) = k := Int.toNat_of_nonneg hk
          rw [Int.natCast_add, Int.natCast_mul, this]
          rfl
      rw [Sm.wts, Sm.cnts]
      omega
theorem Rs.ok.more {b L k : Nat} {st st' : Rs} (h : st.ok b L) (m : st.more st' k) (hk : k ≤ 16) : st'.ok b (L + 1) := by
  have := m.le; have := h.ml; have := h.sl
  exact ⟨fun x s e => (h.env x s (by rw [← m.env]; exact e)).mono (Nat.le_refl _) m.ge, fun s e => (h.said s (by rw [← m.said]; exact e)).mono (Nat.le_refl _) m.ge, by rw [m.said]; omega, by omega⟩
theorem Pl.go_ok (fix : List Int) (p : Int) {s : Pl} {st : Rs} {b L : Nat} (h : s.vd) (hs : st.ok b L) (hb : 7 ≤ b) : (s.go fix p st).2.ok (b + 12) (L + 1) := by
  cases s with
  | set x e =>
    obtain ⟨m, o⟩ := Ex.ev_ok fix p h.2 hs.env hb
    have q := hs.more m (by decide)
    rw [Pl.go]
    refine ⟨fun y s e' => ?_, fun s e' => (q.said s e').mono (by omega) (Nat.le_refl _), q.sl, q.ml⟩
    have e' : setE _ x _ y = some s := e'
    unfold setE at e'
    split at e'
    · cases e'
      exact o
    · exact (q.env y s e').mono (by omega) (Nat.le_refl _)
  | unset x =>
    rw [Pl.go]
    refine ⟨fun y s e' => ?_, fun s e' => (hs.said s e').mono (by omega) (Nat.le_refl _), by have := hs.sl; exact Nat.le_trans this (by omega), by have := hs.ml; exact Nat.le_trans this (by omega)⟩
    have e' : setE _ x _ y = some s := e'
    unfold setE at e'
    split at e'
    · cases e'
    · exact (hs.env y s e').mono (by omega) (Nat.le_refl _)
  | tell e =>
    obtain ⟨m, o⟩ := Ex.ev_ok fix p (n := 3) h hs.env hb
    have q := hs.more m (by decide)
    rw [Pl.go]
    refine ⟨fun y s e' => (q.env y s e').mono (by omega) (Nat.le_refl _), fun s e' => ?_, ?_, q.ml⟩
    · rcases List.mem_append.mp e' with e' | e'
      · exact (q.said s e').mono (by omega) (Nat.le_refl _)
      · cases List.mem_singleton.mp e'
        exact o
    · show ((Ex.ev fix p e st).2.said ++ [_]).length ≤ L + 1
      rw [List.length_append, m.said]
      have := hs.sl
      simpa using this
  | say w =>
    rw [Pl.go]
    refine ⟨fun y s e' => (hs.env y s e').mono (by omega) (Nat.le_refl _), fun s e' => ?_, ?_, by have := hs.ml; exact Nat.le_trans this (by omega)⟩
    · rcases List.mem_append.mp e' with e' | e'
      · exact (hs.said s e').mono (by omega) (Nat.le_refl _)
      · cases List.mem_singleton.mp e'
    · show (st.said ++ [_]).length ≤ L + 1
      rw [List.length_append]
      have := hs.sl
      simpa using this
  | stop w => exact hs.mono (by omega) (by omega)
theorem iterS_ok {f : Rs → Option Str × Rs} {w : Nat} (hf : ∀ (st : Rs) (b L : Nat), st.ok b L → 7 ≤ b → (f st).2.ok (b + 12 * w) (L + w)) : ∀ (k : Nat) (st : Rs) (b L : Nat), st.ok b L → 7 ≤ b → (iterS f k st).2.ok (b + 12 * (w * k)) (L + w * k)
  | 0, st, b, L, h, _ => by
    rw [iterS]
    exact h.mono (by omega) (by omega)
  | k + 1, st, b, L, h, hb => by
    have q := hf st b L h hb
    rw [iterS]
    cases e : f st with
    | mk o st' =>
      rw [e] at q
      have e2 : w * (k + 1) = w * k + w := by rw [Nat.mul_succ]
      cases o with
      | some x => exact q.mono (by omega) (by omega)
      | none =>
        have z := iterS_ok hf k st' _ _ q (by omega)
        exact z.mono (by omega) (by omega)
theorem Sm.goL_ok (fix : List Int) : ∀ (n : Nat) (bl : List Sm) (p : Int) (st : Rs) (b L : Nat), VdB n bl → st.ok b L → 7 ≤ b → (Sm.goL fix p bl st).2.ok (b + 12 * Sm.wts bl) (L + Sm.wts bl) := by
  intro n
  induction n with
  | zero =>
    intro bl p st b L h hs hb
    have h : bl = [] := h
    subst h
    rw [Sm.goL, Sm.wts]
    exact hs.mono (by omega) (by omega)
  | succ n ih =>
    intro bl
    induction bl with
    | nil =>
      intro p st b L h hs hb
      rw [Sm.goL, Sm.wts]
      exact hs.mono (by omega) (by omega)
    | cons s r ihr =>
      intro p st b L h hs hb
      have hv := h s (List.mem_cons_self ..)
      have hp := hv.parts
      have h1 : (Sm.go fix p s st).2.ok (b + 12 * s.wt) (L + s.wt) := by
        cases s with
        | pl q =>
          have q' : q.vd := by cases n <;> exact hv
          rw [Sm.go, Sm.wt]
          exact Pl.go_ok fix p q' hs hb
        | ifs t y z =>
          have ht : t.vd 2 := by cases n <;> exact hv.1
          have m := Ts.tr_ok fix p ht hs.env hb
          have hs' := hs.more m (Nat.le_refl _)
          rw [Sm.go, Sm.wt]
          cases e : t.tr fix p st with
          | mk o st' =>
            rw [e] at hs'
            match o with
            | none => exact hs'.mono (by omega) (by omega)
            | some true => exact (ih y (p + 1) st' b (L + 1) (hp y (by simp [Sm.parts])) hs' hb).mono (by omega) (by omega)
            | some false => exact (ih z _ st' b (L + 1) (hp z (by simp [Sm.parts])) hs' hb).mono (by omega) (by omega)
        | rep k bb =>
          rw [Sm.go, Sm.wt]
          exact (iterS_ok (fun st b L h hb => ih bb (p + 1) st b L (hp bb (by simp [Sm.parts])) h hb) k.toNat st b L hs hb).mono (by omega) (by omega)
      rw [Sm.goL, Sm.wts]
      cases e : Sm.go fix p s st with
      | mk o st' =>
        rw [e] at h1
        cases o with
        | some w => exact h1.mono (by omega) (by omega)
        | none => exact (ihr _ st' _ _ (fun z hz => h z (List.mem_cons_of_mem _ hz)) h1 (by omega)).mono (by omega) (by omega)

/-! ### sums in the heap: tuples (the program's), lists (the law's) -/
def SvT (M : List Addr) (K : PySem.W.Frag) (H : Hp) (v : V) (s : Sv) : Prop := ∃ a dd, v = .ref a ∧ SqT K H a [.int s.n, .ref dd] ∧ H dd = some (.dK (kvI s.m)) ∧ dd ∉ M
def SvL (M : List Addr) (H : Hp) (v : V) (s : Sv) : Prop := ∃ a dd, v = .ref a ∧ H a = some (.lst [.int s.n, .ref dd]) ∧ H dd = some (.dK (kvI s.m)) ∧ a ∉ M ∧ dd ∉ M
section
variable {M N : List Addr} {K : PySem.W.Frag} {H H1 : Hp} {v : V} {s : Sv}
theorem SvT.kp (h : SvT M K H v s) (k : Kp N H H1) (hs : ∀ b ∈ N, b ∈ M) : SvT M K H1 v s := by
  obtain ⟨a, dd, e, h1, h2, h3⟩ := h
  exact ⟨a, dd, e, sqT_kp k h1, k.get h2 fun m => h3 (hs _ m), h3⟩
theorem SvT.kp0 (h : SvT M K H v s) (k : Kp [] H H1) : SvT M K H1 v s := h.kp k (by simp)
theorem SvT.sub (h : SvT M K H v s) (hs : ∀ b ∈ N, b ∈ M) : SvT N K H v s := by
  obtain ⟨a, dd, e, h1, h2, h3⟩ := h
  exact ⟨a, dd, e, h1, h2, fun m => h3 (hs _ m)⟩
theorem SvT.fresh {l : Addr} (h : SvT M K H v s) (n : H l = none) : SvT (l :: M) K H v s := by
  obtain ⟨a, dd, e, h1, h2, h3⟩ := h
  refine ⟨a, dd, e, h1, h2, fun m => ?_⟩
  rcases List.mem_cons.mp m with z | z
  · rw [z, n] at h2; cases h2
  · exact h3 z
theorem SvL.kp (h : SvL M H v s) (k : Kp N H H1) (hs : ∀ b ∈ N, b ∈ M) : SvL M H1 v s := by
  obtain ⟨a, dd, e, h1, h2, h3, h4⟩ := h
  exact ⟨a, dd, e, k.get h1 fun m => h3 (hs _ m), k.get h2 fun m => h4 (hs _ m), h3, h4⟩
theorem SvL.kp0 (h : SvL M H v s) (k : Kp [] H H1) : SvL M H1 v s := h.kp k (by simp)
theorem SvL.sub (h : SvL M H v s) (hs : ∀ b ∈ N, b ∈ M) : SvL N H v s := by
  obtain ⟨a, dd, e, h1, h2, h3, h4⟩ := h
  exact ⟨a, dd, e, h1, h2, fun m => h3 (hs _ m), fun m => h4 (hs _ m)⟩
theorem SvL.fresh {l : Addr} (h : SvL M H v s) (n : H l = none) : SvL (l :: M) H v s := by
  obtain ⟨a, dd, e, h1, h2, h3, h4⟩ := h
  refine ⟨a, dd, e, h1, h2, fun m => ?_, fun m => ?_⟩
  · rcases List.mem_cons.mp m with z | z
    · rw [z, n] at h1; cases h1
    · exact h3 z
  · rcases List.mem_cons.mp m with z | z
    · rw [z, n] at h2; cases h2
    · exact h4 z
end
/-- the names: the program's dict, the law's dict (None: unset) -/
def EnvT (M : List Addr) (K : PySem.W.Frag) (H : Hp) (kvs : List (Key × V)) (env : Str → Option Sv) : Prop := ∀ x : Str,
  (valV kvs (Sum.inr x) = none ∧ env x = none) ∨ ∃ v s, valV kvs (Sum.inr x) = some v ∧ env x = some s ∧ SvT M K H v s
def EnvL (M : List Addr) (H : Hp) (kvs : List (Key × V)) (env : Str → Option Sv) : Prop := ∀ x : Str,
  ((valV kvs (Sum.inr x) = none ∨ valV kvs (Sum.inr x) = some .non) ∧ env x = none) ∨ ∃ v s, valV kvs (Sum.inr x) = some v ∧ env x = some s ∧ SvL M H v s
def ItT (M : List Addr) (K : PySem.W.Frag) (H : Hp) (v : V) : Str ⊕ Sv → Prop
  | .inl w => v = .str w
  | .inr s => SvT M K H v s
def ItL (M : List Addr) (H : Hp) (v : V) : Str ⊕ Sv → Prop
  | .inl w => v = .str w
  | .inr s => SvL M H v s
structure ItsT (M : List Addr) (K : PySem.W.Frag) (H : Hp) (vs : List V) (its : List (Str ⊕ Sv)) : Prop where
  len : vs.length = its.length
  all : ∀ (i : Nat) (v : V) (t : Str ⊕ Sv), vs[i]? = some v → its[i]? = some t → ItT M K H v t
structure ItsL (M : List Addr) (H : Hp) (vs : List V) (its : List (Str ⊕ Sv)) : Prop where
  len : vs.length = its.length
  all : ∀ (i : Nat) (v : V) (t : Str ⊕ Sv), vs[i]? = some v → its[i]? = some t → ItL M H v t
section
variable {M N : List Addr} {K : PySem.W.Frag} {H H1 : Hp} {kvs : List (Key × V)} {env : Str → Option Sv} {vs : List V} {its : List (Str ⊕ Sv)} {v : V} {t : Str ⊕ Sv}
theorem EnvT.kp (h : EnvT M K H kvs env) (k : Kp N H H1) (hs : ∀ b ∈ N, b ∈ M) : EnvT M K H1 kvs env := fun x => by
  rcases h x with h | ⟨v, s, h1, h2, h3⟩
  · exact .inl h
  · exact .inr ⟨v, s, h1, h2, h3.kp k hs⟩
theorem EnvL.kp (h : EnvL M H kvs env) (k : Kp N H H1) (hs : ∀ b ∈ N, b ∈ M) : EnvL M H1 kvs env := fun x => by
  rcases h x with h | ⟨v, s, h1, h2, h3⟩
  · exact .inl h
  · exact .inr ⟨v, s, h1, h2, h3.kp k hs⟩
theorem ItT.kp (h : ItT M K H v t) (k : Kp N H H1) (hs : ∀ b ∈ N, b ∈ M) : ItT M K H1 v t := by
  cases t with
  | inl w => exact h
  | inr s => exact SvT.kp h k hs
theorem ItL.kp (h : ItL M H v t) (k : Kp N H H1) (hs : ∀ b ∈ N, b ∈ M) : ItL M H1 v t := by
  cases t with
  | inl w => exact h
  | inr s => exact SvL.kp h k hs
theorem ItsT.kp (h : ItsT M K H vs its) (k : Kp N H H1) (hs : ∀ b ∈ N, b ∈ M) : ItsT M K H1 vs its := ⟨h.len, fun i v t e e' => (h.all i v t e e').kp k hs⟩
theorem ItsL.kp (h : ItsL M H vs its) (k : Kp N H H1) (hs : ∀ b ∈ N, b ∈ M) : ItsL M H1 vs its := ⟨h.len, fun i v t e e' => (h.all i v t e e').kp k hs⟩
theorem ItsT.snoc (h : ItsT M K H vs its) (ht : ItT M K H v t) : ItsT M K H (vs ++ [v]) (its ++ [t]) := by
  refine ⟨by rw [List.length_append, List.length_append, h.len]; rfl, fun i u e q q' => ?_⟩
  by_cases hi : i < vs.length
  · rw [List.getElem?_append_left hi] at q
    rw [List.getElem?_append_left (by rw [← h.len]; exact hi)] at q'
    exact h.all i u e q q'
  · rw [List.getElem?_append_right (by omega)] at q
    rw [List.getElem?_append_right (by rw [← h.len]; omega), ← h.len] at q'
    have hlt := (List.getElem?_eq_some_iff.mp q).1
    rw [List.length_singleton] at hlt
    obtain h0 : i - vs.length = 0 := by omega
    rw [h0] at q q'
    cases q
    cases q'
    exact ht
theorem ItsL.snoc (h : ItsL M H vs its) (ht : ItL M H v t) : ItsL M H (vs ++ [v]) (its ++ [t]) := by
  refine ⟨by rw [List.length_append, List.length_append, h.len]; rfl, fun i u e q q' => ?_⟩
  by_cases hi : i < vs.length
  · rw [List.getElem?_append_left hi] at q
    rw [List.getElem?_append_left (by rw [← h.len]; exact hi)] at q'
    exact h.all i u e q q'
  · rw [List.getElem?_append_right (by omega)] at q
    rw [List.getElem?_append_right (by rw [← h.len]; omega), ← h.len] at q'
    have hlt := (List.getElem?_eq_some_iff.mp q).1
    rw [List.length_singleton] at hlt
    obtain h0 : i - vs.length = 0 := by omega
    rw [h0] at q q'
    cases q
    cases q'
    exact ht
theorem EnvT.put {x : Str} {s : Sv} (h : EnvT M K H kvs env) (hv : SvT M K H v s) : EnvT M K H (putK kvs (Sum.inr x) v) (setE env x (some s)) := fun y => by
  rw [valV_put]
  unfold setE
  by_cases e : y = x
  · rw [if_pos (by rw [e]), if_pos e]
    exact .inr ⟨v, s, rfl, rfl, hv⟩
  · rw [if_neg (fun z => e (by injection z)), if_neg e]
    exact h y
theorem EnvL.put {x : Str} {s : Sv} (h : EnvL M H kvs env) (hv : SvL M H v s) : EnvL M H (putK kvs (Sum.inr x) v) (setE env x (some s)) := fun y => by
  rw [valV_put]
  unfold setE
  by_cases e : y = x
  · rw [if_pos (by rw [e]), if_pos e]
    exact .inr ⟨v, s, rfl, rfl, hv⟩
  · rw [if_neg (fun z => e (by injection z)), if_neg e]
    exact h y
theorem EnvL.putN {x : Str} (h : EnvL M H kvs env) : EnvL M H (putK kvs (Sum.inr x) .non) (setE env x none) := fun y => by
  rw [valV_put]
  unfold setE
  by_cases e : y = x
  · rw [if_pos (by rw [e]), if_pos e]
    exact .inl ⟨.inr rfl, rfl⟩
  · rw [if_neg (fun z => e (by injection z)), if_neg e]
    exact h y
theorem valV_drop (k j : Key) : ∀ kvs : List (Key × V), valV (dropK kvs k) j = if j = k then none else valV kvs j
  | [] => by split <;> rfl
  | p :: r => by
    have ih := valV_drop k j r
    by_cases e : p.1 = k
    · have e1 : dropK (p :: r) k = dropK r k := by unfold dropK; rw [List.filter_cons_of_neg (by simp [e])]
      rw [e1, ih]
      split
      · rfl
      · rename_i hj
        rw [valV_neg fun z => hj (by rw [← z, e])]
    · have e1 : dropK (p :: r) k = p :: dropK r k := by unfold dropK; rw [List.filter_cons_of_pos (by simpa using e)]
      rw [e1]
      by_cases ej : p.1 = j
      · rw [valV_pos ej, if_neg (fun z => e (by rw [ej, z])), valV_pos ej]
      · rw [valV_neg ej, valV_neg ej, ih]
theorem EnvT.drop {x : Str} (h : EnvT M K H kvs env) : EnvT M K H (dropK kvs (Sum.inr x)) (setE env x none) := fun y => by
  rw [valV_drop]
  unfold setE
  by_cases e : y = x
  · rw [if_pos (by rw [e]), if_pos e]
    exact .inl ⟨rfl, rfl⟩
  · rw [if_neg (fun z => e (by injection z)), if_neg e]
    exact h y
theorem EnvT.same {x : Str} (h : EnvT M K H kvs env) (e : valV kvs (Sum.inr x) = none) : EnvT M K H kvs (setE env x none) := fun y => by
  unfold setE
  by_cases ey : y = x
  · rw [if_pos ey, ey]
    exact .inl ⟨e, rfl⟩
  · rw [if_neg ey]
    exact h y
end
/-- the object of a run -/
structure Crs (K : PySem.W.Frag) (C sf nd sd rd : Addr) (fv : V) (fix : List Int) (H : Hp) (st : Rs) (L : Nat) : Prop where
  obj : ∃ dx, H sf = some (.ins C dx [("names", .ref nd), ("said", .ref sd), ("readings", .ref rd), ("fix", fv)])
  names : ∃ kvs, H nd = some (.dK kvs) ∧ EnvT [nd, sd, rd] K H kvs st.env ∧ kvs.length ≤ L
  said : ∃ vs, H sd = some (.lst vs) ∧ ItsT [nd, sd, rd] K H vs st.said
  made : H rd = some (.lst (st.made.map V.int))
  fixed : ∃ a, fv = .ref a ∧ SqT K H a (fix.map V.int)
  ne : sd ≠ rd
theorem Crs.ms {K : PySem.W.Frag} {C sf nd sd rd : Addr} {fv : V} {fix : List Int} {H : Hp} {st : Rs} {L : Nat} (c : Crs K C sf nd sd rd fv fix H st L) : Ms [nd, sd, rd] H := by
  obtain ⟨kvs, h1, _⟩ := c.names
  obtain ⟨vs, h2, _⟩ := c.said
  exact Ms.cons h1 trivial (Ms.cons h2 trivial (Ms.cons c.made trivial Ms.nil))
theorem Ms.oc {M : List Addr} {H : Hp} (h : Ms M H) : Oc M H := fun a m => by
  obtain ⟨o, e, _⟩ := h a m
  exact ⟨o, e⟩
theorem Crs.kp0 {K : PySem.W.Frag} {C sf nd sd rd : Addr} {fv : V} {fix : List Int} {H H1 : Hp} {st : Rs} {L : Nat} (c : Crs K C sf nd sd rd fv fix H st L) (k : Kp [] H H1) : Crs K C sf nd sd rd fv fix H1 st L := by
  obtain ⟨dx, h0⟩ := c.obj
  obtain ⟨kvs, h1, h2, h3⟩ := c.names
  obtain ⟨vs, h4, h5⟩ := c.said
  obtain ⟨a, h6, h7⟩ := c.fixed
  exact ⟨⟨dx, k.get h0 (by simp)⟩, ⟨kvs, k.get h1 (by simp), h2.kp k (by simp), h3⟩, ⟨vs, k.get h4 (by simp), h5.kp k (by simp)⟩, k.get c.made (by simp), ⟨a, h6, sqT_kp k h7⟩, c.ne⟩
def wdV : Option Str → V
  | none => .non
  | some w => .str w
def trV : Option Bool → V
  | none => .non
  | some b => .bl b
end Aw

/-! runs: promises of the program's defs and methods -/
namespace Aw
open PySem PySem.Spec L2

theorem Sm.size_mem {c : Sm} : ∀ {b : List Sm}, c ∈ b → c.size ≤ Sm.sizes b
  | _ :: r, .head _ => by rw [Sm.sizes]; omega
  | _ :: r, .tail _ h => by have := Sm.size_mem h; rw [Sm.sizes]; omega
theorem Sm.sizes_sum : ∀ b : List Sm, (b.map fun c => ((c.size : Nat) : Int)).sum = ((Sm.sizes b : Nat) : Int)
  | [] => by rw [Sm.sizes]; rfl
  | c :: r => by rw [List.map_cons, List.sum_cons, Sm.sizes_sum r, Sm.sizes]; omega
theorem drop_cons {α : Type} {l : List α} {i : Nat} {c : α} (h : l[i]? = some c) : l.drop i = c :: l.drop (i + 1) := by
  obtain ⟨hi, e⟩ := List.getElem?_eq_some_iff.mp h
  rw [List.drop_eq_getElem_cons hi, e]
theorem Sm.wts_app : ∀ a b : List Sm, Sm.wts (a ++ b) = Sm.wts a + Sm.wts b
  | [], b => by rw [List.nil_append, Sm.wts, Nat.zero_add]
  | s :: r, b => by rw [List.cons_append, Sm.wts, Sm.wts, Sm.wts_app r b, Nat.add_assoc]
theorem Sm.wts_take {bl : List Sm} {i : Nat} {c : Sm} (h : bl[i]? = some c) : Sm.wts (bl.take (i + 1)) = Sm.wts (bl.take i) + c.wt ∧ Sm.wts (bl.take i) + c.wt ≤ Sm.wts bl := by
  have e : Sm.wts (bl.take (i + 1)) = Sm.wts (bl.take i) + c.wt := by
    rw [List.take_add_one, h, Sm.wts_app]
    show _ + Sm.wts [c] = _
    rw [Sm.wts, Sm.wts]
    omega
  refine ⟨e, ?_⟩
  have := Sm.wts_app (bl.take (i + 1)) (bl.drop (i + 1))
  rw [List.take_append_drop] at this
  omega
theorem Sm.go_ok (fix : List Int) (p : Int) {n : Nat} {c : Sm} {st : Rs} {b L : Nat} (h : c.vd n) (hs : st.ok b L) (hb : 7 ≤ b) : (Sm.go fix p c st).2.ok (b + 12 * c.wt) (L + c.wt) := by
  have q := Sm.goL_ok fix (n + 1) [c] p st b L (fun s hs => by rw [List.mem_singleton.mp hs]; exact h) hs hb
  rw [Sm.goL, Sm.wts, Sm.wts, Nat.add_zero] at q
  cases e : Sm.go fix p c st with
  | mk o st' =>
    rw [e] at q
    cases o with
    | none => simpa only [Sm.goL] using q
    | some w => exact q
theorem DtL.get {K : PySem.W.Frag} {H : Hp} {vs : List V} {ds : List PyData} {i : Nat} {v : V} (h : DtL K H vs ds) (e : vs[i]? = some v) : ∃ d, ds[i]? = some d ∧ Dt K H v d := by
  have hi := (List.getElem?_eq_some_iff.mp e).1
  rw [h.len] at hi
  exact ⟨ds[i], List.getElem?_eq_getElem hi, h.all i v _ e (List.getElem?_eq_getElem hi)⟩
theorem DtL.un {K : PySem.W.Frag} {H : Hp} {vs : List V} {ds : List PyData} {d : PyData} (h : DtL K H vs (d :: ds)) : ∃ v us, vs = v :: us ∧ Dt K H v d := by
  cases vs with
  | nil => have := h.len; cases this
  | cons v us => exact ⟨v, us, rfl, h.all 0 v d rfl rfl⟩
theorem atI0 (x : V) (xs : List V) : atI (x :: xs) 0 = some x := by
  unfold atI ixN
  simp
theorem Pl.head2 (s : Pl) : ∃ (h : Str) (ds : List PyData), s.d = .tuple (.str h :: ds) ∧ h ≠ "if" ∧ h ≠ "repeat" := by
  cases s with
  | set x e => exact ⟨_, _, rfl, by decide +kernel, by decide +kernel⟩
  | unset x => exact ⟨_, _, rfl, by decide +kernel, by decide +kernel⟩
  | tell e => exact ⟨_, _, rfl, by decide +kernel, by decide +kernel⟩
  | say w => exact ⟨_, _, rfl, by decide +kernel, by decide +kernel⟩
  | stop w => exact ⟨_, _, rfl, by decide +kernel, by decide +kernel⟩
def spPlaces (K : PySem.W.Frag) (n : Nat) : Sp := fun vs H Q _ => ∃ (v : V) (s : Sm), vs = [v] ∧ Dw [] K H v s.d ∧ s.vd n ∧ s.size ≤ 10000 ∧ ∀ H', Kp [] H H' → Q (.int (s.size : Nat)) H'
/-- a sum and so many times another -/
def spAdded (K : PySem.W.Frag) : Sp := fun vs H Q _ => ∃ (M : List Addr) (v u : V) (s r : Sv) (t : Int) (b m : Nat), vs = [v, u, .int t] ∧ Oc M H ∧ SvT M K H v s ∧ SvT M K H u r ∧ s.ok b m ∧ r.ok b m ∧ m ≤ 10000 ∧ -9 ≤ t ∧ t ≤ 9 ∧
  ∀ (H' : Hp) (z : V), Kp [] H H' → SvT M K H' z (both s r t) → Q z H'
def spWholeS (K : PySem.W.Frag) : Sp := fun vs H Q _ => ∃ (M : List Addr) (i : Int), vs = [.int i] ∧ Oc M H ∧ ∀ (H' : Hp) (z : V), Kp [] H H' → SvT M K H' z ⟨i, []⟩ → Q z H'
/-- what a run's object promises behind a step -/
def spRead (K : PySem.W.Frag) (C : Addr) : Sp := fun vs H Q _ => ∃ (sf nd sd rd : Addr) (fv : V) (fix : List Int) (st : Rs) (L : Nat) (p : Int), vs = [.ref sf, .int p] ∧ Crs K C sf nd sd rd fv fix H st L ∧ st.made.length ≤ 9000 ∧
  ∀ (H' : Hp) (z : V), Kp [nd, sd, rd] H H' → Crs K C sf nd sd rd fv fix H' (rdS fix p st).2 L → SvT [nd, sd, rd] K H' z (rdS fix p st).1 → Q z H'
def spWorth (K : PySem.W.Frag) (C : Addr) (n : Nat) : Sp := fun vs H Q _ => ∃ (sf nd sd rd : Addr) (fv v : V) (fix : List Int) (st : Rs) (L b : Nat) (p : Int) (e : Ex), vs = [.ref sf, v, .int p] ∧ Crs K C sf nd sd rd fv fix H st L ∧ Dt K H v e.d ∧ e.vd n ∧
  (∀ x s, st.env x = some s → s.ok b st.made.length) ∧ 7 ≤ b ∧ st.made.length + 2 ^ n ≤ 9000 ∧
  ∀ (H' : Hp) (z : V), Kp [nd, sd, rd] H H' → Crs K C sf nd sd rd fv fix H' (e.ev fix p st).2 L → SvT [nd, sd, rd] K H' z (e.ev fix p st).1 → Q z H'
def spTruth (K : PySem.W.Frag) (C : Addr) (n : Nat) : Sp := fun vs H Q _ => ∃ (sf nd sd rd : Addr) (fv v : V) (fix : List Int) (st : Rs) (L b : Nat) (p : Int) (t : Ts), vs = [.ref sf, v, .int p] ∧ Crs K C sf nd sd rd fv fix H st L ∧ Dt K H v t.d ∧ t.vd n ∧
  (∀ x s, st.env x = some s → s.ok b st.made.length) ∧ 7 ≤ b ∧ st.made.length + 16 ≤ 9000 ∧
  ∀ (H' : Hp), Kp [nd, sd, rd] H H' → Crs K C sf nd sd rd fv fix H' (t.tr fix p st).2 L → Q (trV (t.tr fix p st).1) H'
def spDo (K : PySem.W.Frag) (C : Addr) : Sp := fun vs H Q _ => ∃ (sf nd sd rd : Addr) (fv v : V) (fix : List Int) (st : Rs) (L b : Nat) (p : Int) (s : Pl), vs = [.ref sf, v, .int p] ∧ Crs K C sf nd sd rd fv fix H st L ∧ Dt K H v s.d ∧ s.vd ∧
  st.ok b L ∧ 7 ≤ b ∧ L ≤ 500 ∧
  ∀ (H' : Hp), Kp [nd, sd, rd] H H' → Crs K C sf nd sd rd fv fix H' (s.go fix p st).2 (L + 1) → Q (wdV (s.go fix p st).1) H'
def spGo (K : PySem.W.Frag) (C : Addr) (n : Nat) : Sp := fun vs H Q _ => ∃ (sf nd sd rd : Addr) (fv v : V) (fix : List Int) (st : Rs) (L b : Nat) (p : Int) (bl : List Sm), vs = [.ref sf, v, .int p] ∧ Crs K C sf nd sd rd fv fix H st L ∧ Dt K H v (.tuple (Sm.ds bl)) ∧ VdB n bl ∧
  st.ok b L ∧ 7 ≤ b ∧ L + Sm.wts bl ≤ 500 ∧ Sm.sizes bl ≤ 10000 ∧
  ∀ (H' : Hp), Kp [nd, sd, rd] H H' → Crs K C sf nd sd rd fv fix H' (Sm.goL fix p bl st).2 (L + Sm.wts bl) → Q (wdV (Sm.goL fix p bl st).1) H'
/-- a statement with blocks -/
def spBlk (K : PySem.W.Frag) (C : Addr) (n : Nat) (rep : Bool) : Sp := fun vs H Q _ => ∃ (sf nd sd rd : Addr) (fv v : V) (fix : List Int) (st : Rs) (L b : Nat) (p : Int) (s : Sm), vs = [.ref sf, v, .int p] ∧ Crs K C sf nd sd rd fv fix H st L ∧ Dt K H v s.d ∧ s.vd n ∧
  (if rep = true then ∃ k bb, s = .rep k bb else ∃ t y z, s = .ifs t y z) ∧
  st.ok b L ∧ 7 ≤ b ∧ L + s.wt ≤ 500 ∧ s.size ≤ 10000 ∧
  ∀ (H' : Hp), Kp [nd, sd, rd] H H' → Crs K C sf nd sd rd fv fix H' (Sm.go fix p s st).2 (L + s.wt) → Q (wdV (Sm.go fix p s st).1) H'
/-- the class of runs -/
structure CT (K : PySem.W.Frag) (C : Addr) : Prop where
  cl : Cls K C
  nN : NoAttr K C "names"
  nS : NoAttr K C "said"
  nR : NoAttr K C "readings"
  nF : NoAttr K C "fix"
theorem inV_ints (p : Int) : ∀ l : List Int, inV (.int p) (l.map V.int) = decide (p ∈ l)
  | [] => rfl
  | x :: r => by
    have q := inV_ints p r
    unfold inV at q ⊢
    rw [List.map_cons, List.any_cons, q]
    show (decide (x = p) || decide (p ∈ r)) = _
    by_cases e : p = x
    · simp [e]
    · have e2 : ¬ x = p := fun z => e z.symm
      simp [e, e2]
theorem flat_ints (l : List Int) : (l.map V.int).all flatV = true := by
  rw [List.all_eq_true]
  intro v hv
  obtain ⟨i, _, rfl⟩ := List.mem_map.mp hv
  rfl
theorem dec_int (x y : Int) : decide (V.int x = V.int y) = decide (x = y) := decide_eq_decide.mpr ⟨fun e => by injection e, fun e => by rw [e]⟩
/-- tuples stay when a dict is locked -/
theorem sqT_lock {K : PySem.W.Frag} {H : Hp} {a d : Addr} {xs : List V} {u w : HO} (h : SqT K H a xs) (e : H d = some u) (m : Mut u) : SqT K (upd H d w) a xs := by
  rcases h with (h | ⟨o, h⟩) | h
  · exact .inl (.inl (by rw [upd_ne (fun z => by rw [z, e] at h; cases h; exact m)]; exact h))
  · exact .inl (.inr ⟨o, by rw [upd_ne (fun z => by rw [z, e] at h; cases h; exact m)]; exact h⟩)
  · exact .inr h
def st0 (n : Int) : Rs := ⟨fun y => if y = "n" then some ⟨n, []⟩ else none, [], []⟩
def spInit (K : PySem.W.Frag) (C : Addr) : Sp := fun vs H Q _ => ∃ (sf dx a : Addr) (n : Int) (fix : List Int), vs = [.ref sf, .int n, .ref a] ∧ H sf = some (.ins C dx []) ∧ SqT K H a (fix.map V.int) ∧
  ∀ (H' : Hp) (nd sd rd : Addr), H nd = none → H sd = none → H rd = none → Kp [sf] H H' → Crs K C sf nd sd rd (.ref a) fix H' (st0 n) 1 → Q .non H'
section
variable {K : PySem.W.Frag} {C sf nd sd rd : Addr} {fv : V} {fix : List Int} {H H1 : Hp} {st st' : Rs} {L : Nat}
theorem Crs.mono {L' : Nat} (c : Crs K C sf nd sd rd fv fix H st L) (h : L ≤ L') : Crs K C sf nd sd rd fv fix H st L' := by
  obtain ⟨kvs, h1, h2, h3⟩ := c.names
  exact ⟨c.obj, ⟨kvs, h1, h2, Nat.le_trans h3 h⟩, c.said, c.made, c.fixed, c.ne⟩
theorem Crs.nds (c : Crs K C sf nd sd rd fv fix H st L) : nd ≠ sd ∧ nd ≠ rd ∧ sf ≠ nd ∧ sf ≠ sd ∧ sf ≠ rd := by
  obtain ⟨dx, h0⟩ := c.obj
  obtain ⟨kvs, h1, _⟩ := c.names
  obtain ⟨vs, h2, _⟩ := c.said
  have h3 := c.made
  refine ⟨ne_of h1 h2 (by intro z; cases z), ne_of h1 h3 (by intro z; cases z), ne_of h0 h1 (by intro z; cases z), ne_of h0 h2 (by intro z; cases z), ne_of h0 h3 (by intro z; cases z)⟩
/-- a reading is added -/
theorem Crs.read {q : Int} (c : Crs K C sf nd sd rd fv fix H st L) : Crs K C sf nd sd rd fv fix (upd H rd (.lst (st.made.map V.int ++ [.int q]))) { st with made := st.made ++ [q] } L := by
  obtain ⟨n1, n2, n3, n4, n5⟩ := c.nds
  obtain ⟨dx, h0⟩ := c.obj
  obtain ⟨kvs, h1, h2, h3⟩ := c.names
  obtain ⟨vs, h4, h5⟩ := c.said
  obtain ⟨a, h6, h7⟩ := c.fixed
  have k := kpW (o := .lst (st.made.map V.int ++ [.int q])) c.made
  exact ⟨⟨dx, k.get h0 (by simp [n5])⟩, ⟨kvs, k.get h1 (by simp [n2]), h2.kp k (by simp), h3⟩, ⟨vs, k.get h4 (by simp [c.ne]), h5.kp k (by simp)⟩, by rw [upd_same, List.map_append]; rfl, ⟨a, h6, sqT_kp k h7⟩, c.ne⟩
theorem Crs.kpr {q : Int} (c : Crs K C sf nd sd rd fv fix H st L) : Kp [nd, sd, rd] H (upd H rd (.lst (st.made.map V.int ++ [.int q]))) := (Kp.reflM c.ms).write (by simp)
theorem Crs.envs {kvs' : List (Key × V)} {env' : Str → Option Sv} {L' : Nat} (c : Crs K C sf nd sd rd fv fix H st L) (hE : EnvT [nd, sd, rd] K H kvs' env') (hl : kvs'.length ≤ L') :
    Crs K C sf nd sd rd fv fix (upd H nd (.dK kvs')) { st with env := env' } L' ∧ Kp [nd, sd, rd] H (upd H nd (.dK kvs')) := by
  obtain ⟨n1, n2, n3, n4, n5⟩ := c.nds
  obtain ⟨dx, h0⟩ := c.obj
  obtain ⟨kvs, h1, h2, h3⟩ := c.names
  obtain ⟨vs, h4, h5⟩ := c.said
  obtain ⟨a, h6, h7⟩ := c.fixed
  have k : Kp [nd] H (upd H nd (.dK kvs')) := kpW2 h1 trivial
  exact ⟨⟨⟨dx, k.get h0 (by simp [n3])⟩, ⟨kvs', upd_same, hE.kp k (by simp), hl⟩, ⟨vs, k.get h4 (by simp [Ne.symm n1]), h5.kp k (by simp)⟩, k.get c.made (by simp [Ne.symm n2]), ⟨a, h6, sqT_kp k h7⟩, c.ne⟩, (Kp.reflM c.ms).write (by simp)⟩
theorem Crs.tells {vs : List V} {v : V} {t : Str ⊕ Sv} (c : Crs K C sf nd sd rd fv fix H st L) (h4 : H sd = some (.lst vs)) (h5 : ItsT [nd, sd, rd] K H vs st.said) (ht : ItT [nd, sd, rd] K H v t) :
    Crs K C sf nd sd rd fv fix (upd H sd (.lst (vs ++ [v]))) { st with said := st.said ++ [t] } L ∧ Kp [nd, sd, rd] H (upd H sd (.lst (vs ++ [v]))) := by
  obtain ⟨n1, n2, n3, n4, n5⟩ := c.nds
  obtain ⟨dx, h0⟩ := c.obj
  obtain ⟨kvs, h1, h2, h3⟩ := c.names
  obtain ⟨a, h6, h7⟩ := c.fixed
  have k : Kp [sd] H (upd H sd (.lst (vs ++ [v]))) := kpW2 h4 trivial
  exact ⟨⟨⟨dx, k.get h0 (by simp [n4])⟩, ⟨kvs, k.get h1 (by simp [n1]), h2.kp k (by simp), h3⟩, ⟨_, upd_same, (h5.snoc ht).kp k (by simp)⟩, k.get c.made (by simp [Ne.symm c.ne]), ⟨a, h6, sqT_kp k h7⟩, c.ne⟩, (Kp.reflM c.ms).write (by simp)⟩
theorem putK_len (kvs : List (Key × V)) (k : Key) (v : V) : (putK kvs k v).length ≤ kvs.length + 1 := by
  induction kvs with
  | nil => simp [putK]
  | cons p r ih =>
    unfold putK
    split <;> simp_all
theorem dropK_len (kvs : List (Key × V)) (k : Key) : (dropK kvs k).length ≤ kvs.length := List.length_filter_le _ _
end
end Aw

/-! runs: what the program's defs return -/
namespace Aw
open PySem PySem.Spec L2

def mulD (s : Sv) (m : Nat) : List PyData := (List.range m).map fun (i : Nat) => .int (getI s.m (i : Nat))
theorem mulD_len (s : Sv) (m : Nat) : (mulD s m).length = m := by unfold mulD; rw [List.length_map, List.length_range]
theorem mulD_succ (s : Sv) (m : Nat) : mulD s (m + 1) = mulD s m ++ [.int (getI s.m m)] := by unfold mulD; rw [List.range_succ, List.map_append]; rfl
def itD (m : Nat) : Str ⊕ Sv → PyData
  | .inl w => .str w
  | .inr s => .tuple [.int s.n, .tuple (mulD s m)]
def wdD : Option Str → PyData
  | none => .none
  | some w => .str w
theorem DtL.ints {K : PySem.W.Frag} {H : Hp} : ∀ l : List Int, DtL K H (l.map V.int) (l.map PyData.int)
  | [] => DtL.nil
  | i :: r => DtL.cons (.int i) (DtL.ints r)
theorem wdD_dt {K : PySem.W.Frag} {H : Hp} (o : Option Str) : Dt K H (wdV o) (wdD o) := by
  cases o with
  | none => exact .non
  | some w => exact .str w
theorem r_is2tF {K : PySem.W.Frag} {H : Hp} {Q : VK} {a : Addr} {xs : List V} (h : SqT K H a xs) (q : Q (.bl false) H) : qIs2 K [.ref a, .ty "str"] H Q :=
  ⟨.ref a, .tuple [], "str", rfl, tyX_T h, by decide, by rw [show isaD (.tuple []) "str" = false by decide]; exact q⟩
theorem r_is2lF {K : PySem.W.Frag} {H : Hp} {Q : VK} {a : Addr} {xs : List V} (h : SqL K H a xs) (q : Q (.bl false) H) : qIs2 K [.ref a, .ty "str"] H Q :=
  ⟨.ref a, .list [], "str", rfl, tyX_L h, by decide, by rw [show isaD (.list []) "str" = false by decide]; exact q⟩
def spMults (K : PySem.W.Frag) : Sp := fun vs H Q _ => ∃ (M : List Addr) (v : V) (s : Sv) (m : Nat), vs = [v, .int (m : Nat)] ∧ SvT M K H v s ∧ m ≤ 10000 ∧
  ∀ (H' : Hp) (z : V), Kp [] H H' → Dt K H' z (.tuple (mulD s m)) → Q z H'
/-- the run of a program -/
def runR (fix : List Int) (n : Int) (bl : List Sm) : Option Str × Rs := Sm.goL fix 0 bl (st0 n)
def crD (fix : List Int) (n : Int) (bl : List Sm) : PyData :=
  .tuple [.tuple ((runR fix n bl).2.said.map (itD (runR fix n bl).2.made.length)), wdD (runR fix n bl).1, .tuple ((runR fix n bl).2.made.map PyData.int)]
def spCourse (K : PySem.W.Frag) : Sp := fun vs H Q _ => ∃ (v : V) (a : Addr) (n : Int) (fix : List Int) (bl : List Sm), vs = [v, .int n, .ref a] ∧ Dt K H v (.tuple (Sm.ds bl)) ∧ VdB 4 bl ∧ n.natAbs < 2 ^ 200 ∧ Sm.wts bl ≤ 400 ∧ Sm.sizes bl ≤ 10000 ∧
  SqT K H a (fix.map V.int) ∧ ∀ (H' : Hp) (z : V), Kp [] H H' → Dt K H' z (crD fix n bl) → Q z H'
def smD (fix : List Int) (n : Int) (bl : List Sm) : PyData :=
  .tuple [.tuple ((runR fix n bl).2.said.map (itD (runR fix n bl).2.made.length)), wdD (runR fix n bl).1, .int ((runR fix n bl).2.made.length : Nat)]
def spSums (K : PySem.W.Frag) : Sp := fun vs H Q _ => ∃ (v : V) (n : Int) (bl : List Sm), vs = [v, .int n] ∧ Dt K H v (.tuple (Sm.ds bl)) ∧ VdB 4 bl ∧ n.natAbs < 2 ^ 200 ∧ Sm.wts bl ≤ 400 ∧ Sm.sizes bl ≤ 10000 ∧
  ∀ (H' : Hp) (z : V), Kp [] H H' → Dt K H' z (smD [] n bl) → Q z H'
theorem st0_ok {n : Int} (h : n.natAbs < 2 ^ 200) : (st0 n).ok 200 1 := by
  refine ⟨fun x s e => ?_, (fun s e => by cases e), Nat.zero_le _, Nat.zero_le _⟩
  unfold st0 at e
  dsimp only at e
  split at e
  · cases e
    exact ⟨h, (fun p hp => nomatch hp), (fun p hp => nomatch hp), List.nodup_nil⟩
  · cases e
/-- what a sum tells with readings -/
def toldI (n : Int) : List Int → List Int → Int
  | m :: ms, r :: rs => toldI (n + m * r) ms rs
  | _, _ => n
end Aw

/-! runs: the law's walk -/
namespace Aw
open PySem PySem.Spec L2

theorem c_reprK {X : Cx} {K : PySem.W.Frag} {k : Nat} (h : X.K = K) (hr : RoomG k X.A) : CallR X (.builtin "repr") (qRepr K) := by
  subst h
  exact c_repr hr
theorem c_repr3K {X : Cx} {K : PySem.W.Frag} {k : Nat} (h : X.K = K) (hr : RoomG k X.A) (hM : ∃ mm, X.base.Ns sysModules mm) : CallR X (.builtin "repr") (qRepr3 K) := by
  subst h
  exact c_repr3 hr hM
/-- the ints of a list that are f -/
theorem r_LcLf {K : PySem.W.Frag} {H : Hp} {Q : VK} {σ : L2.St} {vs : List Nat} {tt : TT} {te : TE} {a : Addr} {ms : List Int} {f : Int → Bool} {i : Nat} (s : H a = some (.lst (ms.map V.int))) (hz : ms.length ≤ 16777216)
    (ht : ∀ (c : Int) (H' : Hp) (R : Bool → Hp → Prop), R (f c) H' → tt ((wipe σ vs).set i (some (.int c))) H' R) (he : ∀ (c : Int) (H' : Hp) (R : VK), R (.int c) H' → te ((wipe σ vs).set i (some (.int c))) H' R)
    (hw : ∀ v : V, wipe ((wipe σ vs).set i (some v)) vs = wipe σ vs) (h : ∀ p, H p = none → Q (.ref p) (upd H p (.lst ((ms.filter f).map V.int)))) : LcL K (gName i) tt te vs σ Q (.ref a) H := by
  refine r_LcL (SqL.of s) fun p hp => ⟨fun n H' => H' = upd H p (.lst (((ms.take n).filter f).map V.int)), rfl, fun n H' e => by rw [e]; exact SqL.of (by rw [upd_ne (ne_of_none s hp)]; exact s), ?_, ?_⟩
  · rintro n x H' hx rfl
    rw [List.getElem?_map] at hx
    obtain ⟨c, hc, rfl⟩ := Option.map_eq_some_iff.mp hx
    have hnm : n < ms.length := (List.getElem?_eq_some_iff.mp hc).1
    refine r_name (r_LcTurn (hw _) (ht c _ _ ?_))
    have htk : ms.take (n + 1) = ms.take n ++ [c] := by rw [List.take_add_one, hc]; rfl
    cases hf : f c with
    | true =>
      refine ifT (he c _ _ (r_LcEnd upd_same ?_ ?_))
      · rw [List.length_map, sizeLine_eq]
        have a := List.length_filter_le f (ms.take n)
        rw [List.length_take] at a
        omega
      · show _ = upd H p (.lst (((ms.take (n + 1)).filter f).map V.int))
        rw [htk, List.filter_append, List.filter_cons_of_pos (by exact hf), List.filter_nil, List.map_append, upd_upd]
        rfl
    | false =>
      refine ifF ?_
      show _ = upd H p (.lst (((ms.take (n + 1)).filter f).map V.int))
      rw [htk, List.filter_append, List.filter_cons_of_neg (by rw [hf]; exact Bool.false_ne_true), List.filter_nil, List.append_nil]
  · rintro H' rfl
    rw [List.length_map, List.take_length]
    exact h p hp
theorem non_rest {sv : Sv} {c : Int} : sv.non (fun x => !decide (x % c = 0)) = true ↔ ∀ x ∈ (sv.m.map (·.2)).filter (fun x => !decide (x = 0)), x % c = 0 := by
  unfold Sv.non
  rw [List.isEmpty_iff, List.filter_eq_nil_iff]
  constructor
  · intro h x hx
    have := h x (List.mem_filter.mp hx).1
    simpa using this
  · intro h x hx
    by_cases e : x = 0
    · rw [e]; simp
    · have := h x (List.mem_filter.mpr ⟨hx, by simpa using e⟩)
      simpa using this
/-- the pairs of a dict of ints -/
theorem pairGet {α β : Type} {F : α → β → Prop} : ∀ {l : List α} {m : List β} {j : Nat} {x : α}, Paired F l m → l[j]? = some x → ∃ y, m[j]? = some y ∧ F x y
  | _, _, 0, _, .cons h _, e => ⟨_, rfl, by cases e; exact h⟩
  | _, _, j + 1, _, .cons _ t, e => pairGet (j := j) t e
def spBothL : Sp := fun vs H Q _ => ∃ (M : List Addr) (v u : V) (s r : Sv) (t : Int) (b m : Nat), vs = [v, u, .int t] ∧ Oc M H ∧ SvL M H v s ∧ SvL M H u r ∧ s.ok b m ∧ r.ok b m ∧ m ≤ 10000 ∧ -9 ≤ t ∧ t ≤ 9 ∧
  ∀ (H' : Hp) (z : V), Kp [] H H' → SvL M H' z (both s r t) → Q z H'
/-- the law's world -/
def wkv (nd sd rd fa : Addr) : List (Key × V) := [(Sum.inr "names", .ref nd), (Sum.inr "items", .ref sd), (Sum.inr "made", .ref rd), (Sum.inr "fix", .ref fa)]
section
variable {H : Hp} {Q : VK} {wd nd sd rd fa : Addr}
theorem kne {x y : Str} (h : ¬ x = y) (v : V) : ¬ ((Sum.inr x, v) : Key × V).1 = Sum.inr y := fun e => h (by injection e)
theorem r_wN (e : H wd = some (.dK (wkv nd sd rd fa))) (q : Q (.ref nd) H) : DG Q (.ref wd) (.str "names") H :=
  r_DG (dget_k e (valV_pos rfl)) q
theorem r_wS (e : H wd = some (.dK (wkv nd sd rd fa))) (q : Q (.ref sd) H) : DG Q (.ref wd) (.str "items") H :=
  r_DG (dget_k e ((valV_neg (kne (by decide +kernel) _)).trans (valV_pos rfl))) q
theorem r_wR (e : H wd = some (.dK (wkv nd sd rd fa))) (q : Q (.ref rd) H) : DG Q (.ref wd) (.str "made") H :=
  r_DG (dget_k e ((valV_neg (kne (by decide +kernel) _)).trans ((valV_neg (kne (by decide +kernel) _)).trans (valV_pos rfl)))) q
theorem r_wF (e : H wd = some (.dK (wkv nd sd rd fa))) (q : Q (.ref fa) H) : DG Q (.ref wd) (.str "fix") H :=
  r_DG (dget_k e ((valV_neg (kne (by decide +kernel) _)).trans ((valV_neg (kne (by decide +kernel) _)).trans ((valV_neg (kne (by decide +kernel) _)).trans (valV_pos rfl))))) q
end
structure Wld (K : PySem.W.Frag) (wd nd sd rd fa : Addr) (fix : List Int) (H : Hp) (st : Rs) (L : Nat) : Prop where
  obj : H wd = some (.dK (wkv nd sd rd fa))
  names : ∃ kvs, H nd = some (.dK kvs) ∧ EnvL [nd, sd, rd] H kvs st.env ∧ kvs.length ≤ L
  said : ∃ vs, H sd = some (.lst vs) ∧ ItsL [nd, sd, rd] H vs st.said
  made : H rd = some (.lst (st.made.map V.int))
  fixed : SqT K H fa (fix.map V.int)
  ne : sd ≠ rd
  nw : wd ≠ nd
section
variable {K : PySem.W.Frag} {wd nd sd rd fa : Addr} {fix : List Int} {H H1 : Hp} {st st' : Rs} {L : Nat}
theorem Wld.ms (c : Wld K wd nd sd rd fa fix H st L) : Ms [nd, sd, rd] H := by
  obtain ⟨kvs, h1, _⟩ := c.names
  obtain ⟨vs, h2, _⟩ := c.said
  exact Ms.cons h1 trivial (Ms.cons h2 trivial (Ms.cons c.made trivial Ms.nil))
theorem Wld.kp0 (c : Wld K wd nd sd rd fa fix H st L) (k : Kp [] H H1) : Wld K wd nd sd rd fa fix H1 st L := by
  obtain ⟨kvs, h1, h2, h3⟩ := c.names
  obtain ⟨vs, h4, h5⟩ := c.said
  exact ⟨k.get c.obj (by simp), ⟨kvs, k.get h1 (by simp), h2.kp k (by simp), h3⟩, ⟨vs, k.get h4 (by simp), h5.kp k (by simp)⟩, k.get c.made (by simp), sqT_kp k c.fixed, c.ne, c.nw⟩
theorem Wld.mono {L' : Nat} (c : Wld K wd nd sd rd fa fix H st L) (h : L ≤ L') : Wld K wd nd sd rd fa fix H st L' := by
  obtain ⟨kvs, h1, h2, h3⟩ := c.names
  exact ⟨c.obj, ⟨kvs, h1, h2, Nat.le_trans h3 h⟩, c.said, c.made, c.fixed, c.ne, c.nw⟩
theorem Wld.nds (c : Wld K wd nd sd rd fa fix H st L) : nd ≠ sd ∧ nd ≠ rd ∧ wd ≠ nd ∧ wd ≠ sd ∧ wd ≠ rd := by
  have h0 := c.obj
  obtain ⟨kvs, h1, _⟩ := c.names
  obtain ⟨vs, h2, _⟩ := c.said
  have h3 := c.made
  exact ⟨ne_of h1 h2 (by intro z; cases z), ne_of h1 h3 (by intro z; cases z), c.nw, ne_of h0 h2 (by intro z; cases z), ne_of h0 h3 (by intro z; cases z)⟩
theorem Wld.read {q : Int} (c : Wld K wd nd sd rd fa fix H st L) : Wld K wd nd sd rd fa fix (upd H rd (.lst (st.made.map V.int ++ [.int q]))) { st with made := st.made ++ [q] } L ∧ Kp [nd, sd, rd] H (upd H rd (.lst (st.made.map V.int ++ [.int q]))) := by
  obtain ⟨n1, n2, n3, n4, n5⟩ := c.nds
  obtain ⟨kvs, h1, h2, h3⟩ := c.names
  obtain ⟨vs, h4, h5⟩ := c.said
  have k := kpW (o := .lst (st.made.map V.int ++ [.int q])) c.made
  exact ⟨⟨k.get c.obj (by simp [n5]), ⟨kvs, k.get h1 (by simp [n2]), h2.kp k (by simp), h3⟩, ⟨vs, k.get h4 (by simp [c.ne]), h5.kp k (by simp)⟩, by rw [upd_same, List.map_append]; rfl, sqT_kp k c.fixed, c.ne, c.nw⟩, (Kp.reflM c.ms).write (by simp)⟩
theorem Wld.envs {kvs' : List (Key × V)} {env' : Str → Option Sv} {L' : Nat} (c : Wld K wd nd sd rd fa fix H st L) (hE : EnvL [nd, sd, rd] H kvs' env') (hl : kvs'.length ≤ L') :
    Wld K wd nd sd rd fa fix (upd H nd (.dK kvs')) { st with env := env' } L' ∧ Kp [nd, sd, rd] H (upd H nd (.dK kvs')) := by
  obtain ⟨n1, n2, n3, n4, n5⟩ := c.nds
  obtain ⟨kvs, h1, h2, h3⟩ := c.names
  obtain ⟨vs, h4, h5⟩ := c.said
  have k : Kp [nd] H (upd H nd (.dK kvs')) := kpW2 h1 trivial
  exact ⟨⟨k.get c.obj (by simp [n3]), ⟨kvs', upd_same, hE.kp k (by simp), hl⟩, ⟨vs, k.get h4 (by simp [Ne.symm n1]), h5.kp k (by simp)⟩, k.get c.made (by simp [Ne.symm n2]), sqT_kp k c.fixed, c.ne, c.nw⟩, (Kp.reflM c.ms).write (by simp)⟩
theorem Wld.tells {vs : List V} {v : V} {t : Str ⊕ Sv} (c : Wld K wd nd sd rd fa fix H st L) (h4 : H sd = some (.lst vs)) (h5 : ItsL [nd, sd, rd] H vs st.said) (ht : ItL [nd, sd, rd] H v t) :
    Wld K wd nd sd rd fa fix (upd H sd (.lst (vs ++ [v]))) { st with said := st.said ++ [t] } L ∧ Kp [nd, sd, rd] H (upd H sd (.lst (vs ++ [v]))) := by
  obtain ⟨n1, n2, n3, n4, n5⟩ := c.nds
  obtain ⟨kvs, h1, h2, h3⟩ := c.names
  have k : Kp [sd] H (upd H sd (.lst (vs ++ [v]))) := kpW2 h4 trivial
  exact ⟨⟨k.get c.obj (by simp [n4]), ⟨kvs, k.get h1 (by simp [n1]), h2.kp k (by simp), h3⟩, ⟨_, upd_same, (h5.snoc ht).kp k (by simp)⟩, k.get c.made (by simp [Ne.symm c.ne]), sqT_kp k c.fixed, c.ne, c.nw⟩, (Kp.reflM c.ms).write (by simp)⟩
end
def spValL (K : PySem.W.Frag) (n : Nat) : Sp := fun vs H Q _ => ∃ (wd nd sd rd fa : Addr) (v : V) (fix : List Int) (st : Rs) (L b : Nat) (p : Int) (e : Ex), vs = [.ref wd, v, .int p] ∧ Wld K wd nd sd rd fa fix H st L ∧ Dt K H v e.d ∧ e.vd n ∧
  (∀ x s, st.env x = some s → s.ok b st.made.length) ∧ 7 ≤ b ∧ st.made.length + 2 ^ n ≤ 9000 ∧
  ∀ (H' : Hp) (z : V), Kp [nd, sd, rd] H H' → Wld K wd nd sd rd fa fix H' (e.ev fix p st).2 L → SvL [nd, sd, rd] H' z (e.ev fix p st).1 → Q z H'
def spTruL (K : PySem.W.Frag) (n : Nat) : Sp := fun vs H Q _ => ∃ (wd nd sd rd fa : Addr) (v : V) (fix : List Int) (st : Rs) (L b : Nat) (p : Int) (t : Ts), vs = [.ref wd, v, .int p] ∧ Wld K wd nd sd rd fa fix H st L ∧ Dt K H v t.d ∧ t.vd n ∧
  (∀ x s, st.env x = some s → s.ok b st.made.length) ∧ 7 ≤ b ∧ st.made.length + 16 ≤ 9000 ∧
  ∀ (H' : Hp), Kp [nd, sd, rd] H H' → Wld K wd nd sd rd fa fix H' (t.tr fix p st).2 L → Q (trV (t.tr fix p st).1) H'
def spSizeL (K : PySem.W.Frag) (n : Nat) : Sp := fun vs H Q _ => ∃ (v : V) (b : List Sm), vs = [v] ∧ Dt K H v (.tuple (Sm.ds b)) ∧ VdB n b ∧ Sm.sizes b ≤ 10000 ∧ ∀ H', Kp [] H H' → Q (.int (Sm.sizes b : Nat)) H'
/-- the parts of a row, one after the other, till a word -/
def goP (fix : List Int) : List (List Sm × Int) → Option Str → Rs → Option Str × Rs
  | [], o, st => (o, st)
  | p :: r, none, st => goP fix r (Sm.goL fix p.2 p.1 st).1 (Sm.goL fix p.2 p.1 st).2
  | _ :: r, some w, st => goP fix r (some w) st
theorem goP_some (fix : List Int) (w : Str) (st : Rs) : ∀ l : List (List Sm × Int), goP fix l (some w) st = (some w, st)
  | [] => rfl
  | _ :: r => goP_some fix w st r
theorem goP_rep (fix : List Int) (b : List Sm) (q : Int) : ∀ (n : Nat) (st : Rs), iterS (fun st => Sm.goL fix q b st) n st = goP fix (List.replicate n (b, q)) none st
  | 0, st => rfl
  | n + 1, st => by
    rw [iterS, List.replicate_succ, goP]
    cases e : Sm.goL fix q b st with
    | mk o st' =>
      cases o with
      | some w => exact (goP_some fix w st' _).symm
      | none => exact goP_rep fix b q n st'
theorem goP_one (fix : List Int) (b : List Sm) (q : Int) (st : Rs) : goP fix (List.replicate 1 (b, q)) none st = Sm.goL fix q b st := rfl
def prsW (l : List (List Sm × Int)) : Nat := (l.map fun p => Sm.wts p.1).sum
theorem prsW_rep (b : List Sm) (q : Int) : ∀ n : Nat, prsW (List.replicate n (b, q)) = Sm.wts b * n
  | 0 => rfl
  | n + 1 => by
    have := prsW_rep b q n
    unfold prsW at this ⊢
    rw [List.replicate_succ, List.map_cons, List.sum_cons, this, Nat.mul_succ]
    exact Nat.add_comm _ _
theorem prsW_take {l : List (List Sm × Int)} {i : Nat} {p : List Sm × Int} (h : l[i]? = some p) : prsW (l.take (i + 1)) = prsW (l.take i) + Sm.wts p.1 ∧ prsW (l.take i) + Sm.wts p.1 ≤ prsW l := by
  have e : prsW (l.take (i + 1)) = prsW (l.take i) + Sm.wts p.1 := by
    unfold prsW
    rw [List.take_add_one, h, List.map_append, List.sum_append]
    simp
  refine ⟨e, ?_⟩
  have : prsW l = prsW (l.take (i + 1)) + prsW (l.drop (i + 1)) := by
    unfold prsW
    rw [← List.sum_append, ← List.map_append, List.take_append_drop]
  omega
structure PrsL (K : PySem.W.Frag) (M : List Addr) (H : Hp) (l : Addr) (ts : List V) (prs : List (List Sm × Int)) (n : Nat) : Prop where
  li : H l = some (.lst ts)
  nm : l ∉ M
  len : ts.length = prs.length
  all : ∀ (i : Nat) (t : V) (p : List Sm × Int), ts[i]? = some t → prs[i]? = some p → ∃ ta bv, t = .ref ta ∧ SqT K H ta [bv, .int p.2] ∧ Dt K H bv (.tuple (Sm.ds p.1))
  vd : ∀ p ∈ prs, VdB n p.1 ∧ Sm.sizes p.1 ≤ 10000
theorem PrsL.kp {K : PySem.W.Frag} {M : List Addr} {H H1 : Hp} {l : Addr} {ts : List V} {prs : List (List Sm × Int)} {n : Nat} (h : PrsL K M H l ts prs n) (k : Kp M H H1) : PrsL K M H1 l ts prs n :=
  ⟨k.get h.li h.nm, h.nm, h.len, fun i t p e e' => by
    obtain ⟨ta, bv, e1, e2, e3⟩ := h.all i t p e e'
    exact ⟨ta, bv, e1, sqT_kp k e2, e3.kp k⟩, h.vd⟩
theorem PrsL.nil {K : PySem.W.Frag} {M : List Addr} {H : Hp} {l : Addr} {n : Nat} (e : H l = some (.lst [])) (nm : l ∉ M) : PrsL K M H l [] [] n :=
  ⟨e, nm, rfl, fun i t p e => by simp at e, fun p hp => nomatch hp⟩
theorem PrsL.rep {K : PySem.W.Frag} {M : List Addr} {H : Hp} {l ta : Addr} {n : Nat} {bv : V} {b : List Sm} {q : Int} (c : Nat) (e : H l = some (.lst (List.replicate c (.ref ta)))) (nm : l ∉ M) (h : SqT K H ta [bv, .int q]) (hb : Dt K H bv (.tuple (Sm.ds b))) (hv : VdB n b) (hz : Sm.sizes b ≤ 10000) :
    PrsL K M H l (List.replicate c (.ref ta)) (List.replicate c (b, q)) n :=
  ⟨e, nm, by rw [List.length_replicate, List.length_replicate], fun i t p e1 e2 => by
    rw [List.mem_replicate.mp (List.mem_of_getElem? e1) |>.2, List.mem_replicate.mp (List.mem_of_getElem? e2) |>.2]
    exact ⟨ta, bv, rfl, h, hb⟩, fun p hp => by rw [(List.mem_replicate.mp hp).2]; exact ⟨hv, hz⟩⟩
def spPartsL (K : PySem.W.Frag) (n : Nat) : Sp := fun vs H Q _ => ∃ (wd nd sd rd fa : Addr) (v : V) (fix : List Int) (st : Rs) (L b : Nat) (p : Int) (s : Sm), vs = [.ref wd, v, .int p] ∧ Wld K wd nd sd rd fa fix H st L ∧ Dt K H v s.d ∧ s.vd n ∧
  ((∃ k bb, s = .rep k bb) ∨ ∃ t y z, s = .ifs t y z) ∧ st.ok b L ∧ 7 ≤ b ∧ L ≤ 500 ∧ s.size ≤ 10000 ∧
  ∀ (H' : Hp) (a l : Addr) (ts : List V) (prs : List (List Sm × Int)) (o : Option Str) (st' : Rs), Kp [nd, sd, rd] H H' → Wld K wd nd sd rd fa fix H' st' (L + 1) → st'.ok b (L + 1) → SqT K H' a [.ref l, wdV o] → PrsL K [nd, sd, rd] H' l ts prs n →
    prs.length ≤ 8 → 1 + prsW prs ≤ s.wt → Sm.go fix p s st = goP fix prs o st' → Q (.ref a) H'
def spGoL (K : PySem.W.Frag) (n : Nat) : Sp := fun vs H Q _ => ∃ (wd nd sd rd fa : Addr) (v : V) (fix : List Int) (st : Rs) (L b : Nat) (p : Int) (bl : List Sm), vs = [.ref wd, v, .int p] ∧ Wld K wd nd sd rd fa fix H st L ∧ Dt K H v (.tuple (Sm.ds bl)) ∧ VdB n bl ∧
  st.ok b L ∧ 7 ≤ b ∧ L + Sm.wts bl ≤ 500 ∧ Sm.sizes bl ≤ 10000 ∧
  ∀ (H' : Hp), Kp [nd, sd, rd] H H' → Wld K wd nd sd rd fa fix H' (Sm.goL fix p bl st).2 (L + Sm.wts bl) → Q (wdV (Sm.goL fix p bl st).1) H'
def spNum : Sp := fun vs H Q _ => ∃ (d c : Addr) (n : Int), vs = [.ref d] ∧ Deck H d c n ∧ n + 5000 < 10 ^ 12 ∧
  ∀ (H' : Hp) (i n' : Int), Deck H' d c n' → n ≤ n' → n' ≤ n + 10 → Kp [d, c] H H' → i.natAbs < 2 ^ 200 → Q (.int i) H'
def spSumsL (K : PySem.W.Frag) : Sp := fun vs H Q _ => ∃ (v : V) (a : Addr) (n : Int) (fix : List Int) (bl : List Sm), vs = [v, .int n, .ref a] ∧ Dt K H v (.tuple (Sm.ds bl)) ∧ VdB 4 bl ∧ n.natAbs < 2 ^ 200 ∧ Sm.wts bl ≤ 400 ∧ Sm.sizes bl ≤ 10000 ∧
  SqT K H a (fix.map V.int) ∧ ∀ (H' : Hp) (z sd rd nd : Addr) (vs : List V), Kp [] H H' → SqT K H' z [.ref sd, wdV (runR fix n bl).1, .ref rd] → H' sd = some (.lst vs) → ItsL [nd, sd, rd] H' vs (runR fix n bl).2.said → H' rd = some (.lst ((runR fix n bl).2.made.map V.int)) → sd ≠ rd →
    (runR fix n bl).2.ok (200 + 12 * Sm.wts bl) (1 + Sm.wts bl) → Q (.ref z) H'
theorem env0L {M : List Addr} {H : Hp} {v : V} {n : Int} (h : SvL M H v ⟨n, []⟩) : EnvL M H [(Sum.inr "n", v)] (st0 n).env := fun x => by
  by_cases e : x = "n"
  · subst e
    exact .inr ⟨v, ⟨n, []⟩, valV_pos rfl, by unfold st0; simp, h⟩
  · exact .inl ⟨.inl ((valV_neg (kne (Ne.symm e) _)).trans valV_nil), by unfold st0; simp [e]⟩
theorem wkv_merge (nd sd rd fa : Addr) : mergeK [] (wkv nd sd rd fa) = wkv nd sd rd fa := rfl
end Aw

/-! runs: what is told may be shown -/
namespace Aw
open PySem PySem.Spec L2

def wOk (w : Str) : Prop := PyData.strOk w = true ∧ w.length ≤ 8
def Rs.wds (st : Rs) : Prop := ∀ w, .inl w ∈ st.said → wOk w
def oOk (o : Option Str) : Prop := ∀ w, o = some w → wOk w
theorem unsure_ok : wOk "unsure" := lit_ok (by decide +kernel)
theorem Rs.more.wds {a b : Rs} {k : Nat} (m : a.more b k) (h : a.wds) : b.wds := fun w hw => h w (by rw [← m.said]; exact hw)
theorem iterS_wds {f : Rs → Option Str × Rs} {I : Rs → Prop} (hf : ∀ st : Rs, I st → I (f st).2 ∧ oOk (f st).1) : ∀ (k : Nat) (st : Rs), I st → I (iterS f k st).2 ∧ oOk (iterS f k st).1
  | 0, st, h => ⟨h, fun w e => nomatch e⟩
  | k + 1, st, h => by
    have q := hf st h
    rw [iterS]
    cases e : f st with
    | mk o st' =>
      rw [e] at q
      cases o with
      | some w => exact q
      | none => exact iterS_wds hf k st' q.1
theorem Pl.go_wds (fix : List Int) (p : Int) {s : Pl} {st : Rs} {b L : Nat} (h : s.vd) (hs : st.ok b L) (hb : 7 ≤ b) (hw : st.wds) : (s.go fix p st).2.wds ∧ oOk (s.go fix p st).1 := by
  cases s with
  | set x e =>
    have m := (Ex.ev_ok fix p h.2 hs.env hb).1
    exact ⟨m.wds hw, fun w e => nomatch e⟩
  | unset x => exact ⟨hw, fun w e => nomatch e⟩
  | tell e =>
    have m := (Ex.ev_ok fix p (n := 3) h hs.env hb).1
    refine ⟨fun w hm => ?_, fun w e => nomatch e⟩
    rcases List.mem_append.mp hm with z | z
    · exact m.wds hw w z
    · cases List.mem_singleton.mp z
  | say x =>
    refine ⟨fun w hm => ?_, fun w e => nomatch e⟩
    rcases List.mem_append.mp hm with z | z
    · exact hw w z
    · cases List.mem_singleton.mp z
      exact word_ok h
  | stop x => exact ⟨hw, fun w e => by cases e; exact word_ok h⟩
/-- states within some bounds, with right words -/
def Rs.fine (st : Rs) : Prop := st.wds ∧ ∃ b L, st.ok b L ∧ 7 ≤ b
theorem Sm.goL_wds (fix : List Int) : ∀ (n : Nat) (bl : List Sm) (p : Int) (st : Rs), VdB n bl → st.fine → (Sm.goL fix p bl st).2.fine ∧ oOk (Sm.goL fix p bl st).1 := by
  intro n
  induction n with
  | zero =>
    intro bl p st h hs
    have h : bl = [] := h
    subst h
    rw [Sm.goL]
    exact ⟨hs, fun w e => nomatch e⟩
  | succ n ih =>
    intro bl
    induction bl with
    | nil =>
      intro p st h hs
      rw [Sm.goL]
      exact ⟨hs, fun w e => nomatch e⟩
    | cons s r ihr =>
      intro p st h hs
      have hv := h s (List.mem_cons_self ..)
      have hp := hv.parts
      have h1 : (Sm.go fix p s st).2.fine ∧ oOk (Sm.go fix p s st).1 := by
        obtain ⟨hw, b, L, hok, hb⟩ := hs
        cases s with
        | pl q =>
          have q' : q.vd := by cases n <;> exact hv
          rw [Sm.go]
          have z := Pl.go_wds fix p q' hok hb hw
          exact ⟨⟨z.1, _, _, Pl.go_ok fix p q' hok hb, by omega⟩, z.2⟩
        | ifs t y z =>
          have ht : t.vd 2 := by cases n <;> exact hv.1
          have m := Ts.tr_ok fix p ht hok.env hb
          have hs' : (t.tr fix p st).2.fine := ⟨m.wds hw, b, _, hok.more m (Nat.le_refl _), hb⟩
          rw [Sm.go]
          cases e : t.tr fix p st with
          | mk o st' =>
            rw [e] at hs'
            match o with
            | none => exact ⟨hs', fun w e => by cases e; exact unsure_ok⟩
            | some true => exact ih y (p + 1) st' (hp y (by simp [Sm.parts])) hs'
            | some false => exact ih z _ st' (hp z (by simp [Sm.parts])) hs'
        | rep k bb =>
          rw [Sm.go]
          exact iterS_wds (I := Rs.fine) (fun st h => ih bb (p + 1) st (hp bb (by simp [Sm.parts])) h) k.toNat st ⟨hw, b, L, hok, hb⟩
      rw [Sm.goL]
      cases e : Sm.go fix p s st with
      | mk o st' =>
        rw [e] at h1
        cases o with
        | some w => exact h1
        | none => exact ihr _ st' (fun z hz => h z (List.mem_cons_of_mem _ hz)) h1.1
/-! ### shown data, summed -/
structure ShwL (ds : List PyData) (k n : Nat) : Prop where
  sh : PyData.showableAll ds = true
  nd : PyData.hasDictAll ds = false
  dep : PyData.depthAll ds ≤ k
  cnt : (PyData.shownAll ds).length = ds.length
  len : ((PyData.shownAll ds).map (·.length)).sum ≤ n
theorem ShwL.nil {k : Nat} : ShwL [] k 0 := ⟨by rw [PyData.showableAll], by rw [PyData.hasDictAll], by rw [PyData.depthAll]; exact Nat.zero_le _, by rw [PyData.shownAll]; rfl, by rw [PyData.shownAll]; exact Nat.zero_le _⟩
theorem ShwL.cons {d : PyData} {ds : List PyData} {k n m : Nat} (a : Shw d k n) (b : ShwL ds k m) : ShwL (d :: ds) k (n + m) := by
  refine ⟨by rw [PyData.showableAll, a.sh, b.sh]; rfl, by rw [PyData.hasDictAll, a.nd, b.nd]; rfl, ?_, ?_, ?_⟩
  · rw [PyData.depthAll]
    have := a.dep; have := b.dep
    omega
  · rw [PyData.shownAll, List.length_cons, List.length_cons, b.cnt]
  · rw [PyData.shownAll, List.map_cons, List.sum_cons]
    have := a.len; have := b.len
    omega
theorem ShwL.all {ds : List PyData} {k n : Nat} (h : ∀ d ∈ ds, Shw d k n) : ShwL ds k (ds.length * n) := by
  obtain ⟨a1, a2, a3, a4, a5⟩ := shownAll_len h
  exact ⟨a1, a2, a3, a4, a5⟩
theorem ShwL.tup {ds : List PyData} {k n : Nat} (h : ShwL ds k n) : Shw (.tuple ds) (k + 1) (n + 2 * ds.length + 3) := by
  have := h.dep
  refine ⟨by rw [PyData.showable]; exact h.sh, by rw [PyData.hasDict]; exact h.nd, by rw [PyData.depth]; omega, ?_⟩
  rw [PyData.shown]
  have q := tupleText_len_le (PyData.shownAll ds)
  have := h.len
  rw [h.cnt] at q
  omega
theorem Shw.big {i : Int} {k : Nat} (h : i.natAbs < 2 ^ 560) : Shw (.int i) k 171 := by
  have h1 : i.natAbs.log2 < 1920 := by
    by_cases h0 : i.natAbs = 0
    · rw [h0]
      decide
    · exact Nat.lt_of_lt_of_le ((Nat.log2_lt h0).mpr h) (by decide)
  refine ⟨by rw [PyData.showable]; exact decide_eq_true h1, by rw [PyData.hasDict], by rw [PyData.depth]; exact Nat.zero_le _, ?_⟩
  rw [PyData.shown]
  have q := int_text_length_le10 (a := i) (k := 170) (by decide) (Nat.lt_trans h (by decide +kernel))
  show (Str.ofString (toString i)).length ≤ 171
  rw [ofString_length]
  omega
theorem Shw.wd {o : Option Str} {k : Nat} (h : oOk o) : Shw (wdD o) k 82 := by
  cases o with
  | none => exact Shw.non.mono (Nat.le_refl _) (by omega)
  | some w => exact Shw.str ⟨(h w rfl).1, (h w rfl).2⟩
theorem runR_fine {fix : List Int} {n : Int} {bl : List Sm} (hv : VdB 4 bl) (hn : n.natAbs < 2 ^ 200) : (runR fix n bl).2.fine ∧ oOk (runR fix n bl).1 :=
  Sm.goL_wds fix 4 bl 0 (st0 n) hv ⟨(fun w hw => by cases hw), 200, 1, st0_ok hn, by omega⟩
theorem smD_shw {fix : List Int} {n : Int} {bl : List Sm} (hv : VdB 4 bl) (hn : n.natAbs < 2 ^ 200) (hw : Sm.wts bl ≤ 30) : Shw (smD fix n bl) 10 10000000 := by
  have hf := runR_fine (fix := fix) hv hn
  have hok : (runR fix n bl).2.ok (200 + 12 * Sm.wts bl) (1 + Sm.wts bl) := Sm.goL_ok fix 4 bl 0 (st0 n) 200 1 hv (st0_ok hn) (by omega)
  unfold smD
  generalize runR fix n bl = R at hf hok
  obtain ⟨o, st⟩ := R
  dsimp only at hf hok ⊢
  have hml := hok.ml
  have hsl := hok.sl
  have hb : ∀ {s : Sv}, s.ok (200 + 12 * Sm.wts bl) st.made.length → s.ok 560 st.made.length := fun h => h.mono (by omega) (Nat.le_refl _)
  have hin : ∀ s : Sv, s.ok 560 st.made.length → ∀ k, Shw (.tuple (mulD s st.made.length)) (k + 1) 90000 := by
    intro s h k
    have q := (ShwL.all (ds := mulD s st.made.length) (k := k) (n := 171) (fun d hd => by
      unfold mulD at hd
      obtain ⟨i, _, rfl⟩ := List.mem_map.mp hd
      exact Shw.big (h.get _))).tup
    rw [mulD_len] at q
    exact q.mono (Nat.le_refl _) (by omega)
  have hit : ∀ d ∈ st.said.map (itD st.made.length), Shw d 3 90300 := by
    intro d hd
    obtain ⟨t, ht, rfl⟩ := List.mem_map.mp hd
    cases t with
    | inl w => exact (Shw.str ⟨(hf.1.1 w ht).1, (hf.1.1 w ht).2⟩).mono (Nat.le_refl _) (by omega)
    | inr s =>
      have hs := hb (hok.said s ht)
      exact ((ShwL.cons (Shw.big (k := 2) hs.n) (ShwL.cons (hin s hs 1) ShwL.nil)).tup).mono (Nat.le_refl _) (by simp)
  have h3 := (ShwL.all hit).tup
  rw [List.length_map] at h3
  have h4 : Shw (.tuple (st.said.map (itD st.made.length))) 4 3000000 := h3.mono (Nat.le_refl _) (by omega)
  have h5 : Shw (.int (st.made.length : Nat)) 4 171 := Shw.big (by
    have : st.made.length < 2 ^ 20 := by omega
    exact Nat.lt_trans (show Int.natAbs (st.made.length : Nat) < 2 ^ 20 by omega) (Nat.pow_lt_pow_right (by decide) (by decide)))
  exact ((ShwL.cons h4 (ShwL.cons (Shw.wd hf.2) (ShwL.cons h5 ShwL.nil))).tup).mono (by omega) (by simp)
/-! ### lists of the same texts -/
theorem vals_str : ∀ {zs : List Str} {us : List Value}, Vals (zs.map V.str) us → ∀ j (h : j < us.length), ∃ z t, zs[j]? = some z ∧ us[j] = Value.str z t
  | [], _, .nil, j, h => absurd h (Nat.not_lt_zero j)
  | z :: zs, _ :: us, .cons r0 r1, 0, h => by
    obtain ⟨t, e⟩ := r0
    exact ⟨z, t, rfl, e⟩
  | z :: zs, _ :: us, .cons r0 r1, j + 1, h => vals_str r1 j (Nat.lt_of_succ_lt_succ h)
def rNeSS (K : PySem.W.Frag) : R2 := fun x y H Q => ∃ (a b : Addr) (zs : List Str), x = .ref a ∧ y = .ref b ∧ SqL K H a (zs.map V.str) ∧ SqL K H b (zs.map V.str) ∧ Q (.bl false) H
theorem op_neSS {X : Cx} (hu : X.A.units + 64 < cLine) : OpR X (compareOp .NotEq) (rNeSS X.K) := by
  intro pins s σ H x y v u Q I rx ry h
  obtain ⟨a, b, zs, rfl, rfl, ha, hb, q⟩ := h
  cases (show v = Value.ref a from rx)
  cases (show u = Value.ref b from ry)
  have hu' : X.A.units < cLine := by omega
  obtain ⟨its, r, ⟨o, n, e, c, _, d⟩, _⟩ := I.list ha
  obtain ⟨its2, r2, ⟨o2, n2, e2, c2, _, d2⟩, _⟩ := I.list hb
  have hl : s.heap.IsList a its.toArray := ⟨o, e, c, n, d⟩
  have hl2 : s.heap.IsList b its2.toArray := ⟨o2, e2, c2, n2, d2⟩
  have hsz : its.toArray.size = its2.toArray.size := by rw [List.size_toArray, List.size_toArray, ← r.length, ← r2.length]
  have hall : (!(List.range its.toArray.size).all fun _ => true) = false := by simp
  refine PySem.SeqAt.RcNeAt.lists (e := fun _ => true) hl hl2 hsz hu' (fun j h1 h2 => ?_) _ _ _ _ (by rw [hall]; exact ⟨.bl false, H, I, rfl, q⟩)
  obtain ⟨z, t, e1, e2⟩ := vals_str r j (by rw [List.size_toArray] at h1; exact h1)
  obtain ⟨z', t', e3, e4⟩ := vals_str r2 j (by rw [List.size_toArray] at h2; exact h2)
  rw [e1] at e3
  cases e3
  have q1 : its.toArray[j] = Value.str z t := e2
  have q2 : its2.toArray[j] = Value.str z t' := e4
  rw [q1, q2]
  have := PySem.SeqAt.EqAt.str_str (A := X.A.in1) (s := s) z t z t'
  rw [beq_self_eq_true] at this
  exact this
theorem pg_shw {x : List Sm} (h : PgV x) : ShwD (.tuple (Sm.ds x)) 20 1500000 := by
  have q := (Sm.vd.doks 4 x h.vd).tup.shw
  have := h.size
  exact ⟨q.1, Nat.le_trans q.2 (by omega), Nat.le_trans q.3 (by omega)⟩
theorem pg_wts {x : List Sm} (h : PgV x) : Sm.wts x ≤ 30 := by
  have q := Sm.wts_cnts 4 x h.vd
  have := h.weight
  omega
end Aw

/-! runs: the class where it stands -/
namespace Aw
open PySem PySem.Spec L2

theorem dfm_mk {K : PySem.W.Frag} {C f : Addr} {m q : Str} {st : Stmt} {ps : List Str}
    {oc kV doc pm cdv ct : Value} {od an : Option Addr} {osl : Array (Option Value)}
    (a : PySem.W.findIn K (.ref C) m = some (some (.ref f)))
    (l : K.lookup f = some ⟨oc, od, .func (PySem.W.fnOf m q (defArgs st) (defBody st) (defScope st) .none kV doc pm an cdv ct), osl⟩)
    (c : PySem.W.codeIn K cdv q = true) (k : PySem.W.keepIn K (.ref f) = true) (i : PySem.W.isFn K (.ref f) = true)
    (b : ∀ (kV doc pm : Value) (an : Option Addr) (cdv ct : Value) (us : List Value), us.length = ps.length →
      bindArgs (PySem.W.fnOf m q (defArgs st) (defBody st) (defScope st) .none kV doc pm an cdv ct) ⟨us, []⟩ = pure (ps.zip us)) :
    DfM K C m q st ps := by
  have F := fun_mk (st := st) l c k
  exact ⟨f, _, F, ⟨a, i, k⟩, F.binds b⟩
theorem na_mk {K : PySem.W.Frag} {C : Addr} {f : Str} (h : PySem.W.findIn K (.ref C) f = some none) : NoAttr K C f := h
theorem HasC.of {P : Program} {w : World} {K : PySem.W.Frag} {mg : Str → Option Value} {base : Heap} {CX : CXT} {x : Str} {C : Addr} {ps : List Str} {k : Nat} {sp : Sp} (h : HasM P w K mg base CX C "__init__" ps k sp)
    (m1 : PySem.W.makesIn K C = true) (kc : PySem.W.keepIn K (.ref C) = true) (m : mg x = some (.ref C)) : HasC P w K mg base CX x C ps k sp := by
  obtain ⟨f, fd, _, M, b, F⟩ := h
  exact ⟨f, fd, ⟨m1, M.at_, M.fn, kc⟩, m, b, F⟩
end Aw

/-! runs with readings -/
namespace Aw
open PySem PySem.Spec L2

/-- a loop over zip of two tuples, the shorter one ends it -/
theorem for_zipM {K : PySem.W.Frag} {a b : Addr} {xs ys : List V} {g : TG} {tb : TS} {D : Ends} {σ : L2.St} {H : Hp} (Pv : Nat → L2.St → Hp → Prop) (h0 : Pv 0 σ H) (hq : ∀ i σ H, Pv i σ H → SqT K H a xs ∧ SqT K H b ys)
    (hs : ∀ (i : Nat) (x y : V) (T : Addr) (σ : L2.St) (H : Hp), xs[i]? = some x → ys[i]? = some y → Pv i σ H → H T = none → g (.ref T) σ (upd H T (.tup [x, y])) fun σ2 H2 => tb { D with nx := Pv (i + 1), ct := Pv (i + 1), bk := D.nx } σ2 H2) (hd : ∀ σ H, Pv (min xs.length ys.length) σ H → D.nx σ H) :
    ∃ W : Nat → Nat → L2.St → Hp → Prop, (∃ m, W 0 m σ H) ∧ ∀ i m σ H, W i m σ H →
      ((RZ.ItzT K a b).stop i H ∧ D.nx σ H) ∨ ((RZ.ItzT K a b).go i H ∧ ∃ N : L2.St → Hp → Prop, (∀ σ' H', N σ' H' → ∃ m', m' < m ∧ W (i + 1) m' σ' H') ∧ ∀ v H', (RZ.ItzT K a b).yld i H v H' → g v σ H' fun σ2 H2 => tb { D with nx := N, ct := N, bk := D.nx } σ2 H2) := by
  refine ⟨fun i m σ H => m = min xs.length ys.length - i ∧ i ≤ min xs.length ys.length ∧ Pv i σ H, ⟨_, rfl, Nat.zero_le _, h0⟩, ?_⟩
  rintro i m σ H ⟨rfl, hi, p⟩
  obtain ⟨qx, qy⟩ := hq i σ H p
  by_cases hlt : i < min xs.length ys.length
  · have hl1 : i < xs.length := by omega
    have hl2 : i < ys.length := by omega
    refine .inr ⟨⟨xs, ys, _, _, qx, qy, List.getElem?_eq_getElem hl1, List.getElem?_eq_getElem hl2⟩, Pv (i + 1), fun σ' H' p' => ⟨min xs.length ys.length - (i + 1), by omega, rfl, hlt, p'⟩, fun v H' y => ?_⟩
    obtain ⟨T, x', y', rfl, hT, rfl, f1, f2⟩ := y
    exact hs i x' y' T σ H (f1 xs qx) (f2 ys qy) p hT
  · have e : i = min xs.length ys.length := by omega
    refine .inl ⟨⟨xs, ys, qx, qy, by omega⟩, ?_⟩
    rw [e] at p
    exact hd σ H p
def ZipQ (K : PySem.W.Frag) (g : TG) (tb : TS) (D : Ends) (σ : L2.St) : List V → Hp → Prop := fun vs H1 => ∃ (a b : Addr) (xs ys : List V), vs = [.ref a, .ref b] ∧ ((SqL K H1 a xs ∧ SqL K H1 b ys ∧ Turns (Itz K a b) g tb D σ H1) ∨ (SqT K H1 a xs ∧ SqT K H1 b ys ∧ Turns (RZ.ItzT K a b) g tb D σ H1))
theorem r_zip {K : PySem.W.Frag} {ta : TA} {g : TG} {tb : TS} {D : Ends} {σ : L2.St} {H : Hp} (h : ta σ H (ZipQ K g tb D σ)) : tFor (RZ.iZipA K ta) g tb D σ H := h
theorem r_ZipM {K : PySem.W.Frag} {a b : Addr} {xs ys : List V} {g : TG} {tb : TS} {D : Ends} {σ : L2.St} {H : Hp} (s1 : SqT K H a xs) (s2 : SqT K H b ys) (Pv : Nat → L2.St → Hp → Prop) (h0 : Pv 0 σ H) (hq : ∀ i σ H, Pv i σ H → SqT K H a xs ∧ SqT K H b ys)
    (hs : ∀ (i : Nat) (x y : V) (T : Addr) (σ : L2.St) (H : Hp), xs[i]? = some x → ys[i]? = some y → Pv i σ H → H T = none → g (.ref T) σ (upd H T (.tup [x, y])) fun σ2 H2 => tb { D with nx := Pv (i + 1), ct := Pv (i + 1), bk := D.nx } σ2 H2) (hd : ∀ σ H, Pv (min xs.length ys.length) σ H → D.nx σ H) :
    ZipQ K g tb D σ [.ref a, .ref b] H := ⟨a, b, xs, ys, rfl, .inr ⟨s1, s2, for_zipM Pv h0 hq hs hd⟩⟩
theorem toldI_take : ∀ (i : Nat) (n : Int) (ms rs : List Int) (m r : Int), ms[i]? = some m → rs[i]? = some r → toldI n (ms.take (i + 1)) (rs.take (i + 1)) = toldI n (ms.take i) (rs.take i) + m * r
  | 0, n, m' :: ms, r' :: rs, m, r, e1, e2 => by cases e1; cases e2; rfl
  | i + 1, n, m' :: ms, r' :: rs, m, r, e1, e2 => toldI_take i (n + m' * r') ms rs m r e1 e2
theorem toldI_min : ∀ (n : Int) (ms rs : List Int), toldI n (ms.take (min ms.length rs.length)) (rs.take (min ms.length rs.length)) = toldI n ms rs
  | n, [], rs => by cases rs <;> rfl
  | n, m :: ms, [] => rfl
  | n, m :: ms, r :: rs => by
    have := toldI_min (n + m * r) ms rs
    rw [List.length_cons, List.length_cons, Nat.succ_min_succ]
    exact this
def spTold (K : PySem.W.Frag) : Sp := fun vs H Q _ => ∃ (v : V) (b : Addr) (n : Int) (ms rs : List Int), vs = [v, .ref b] ∧ Dt K H v (.tuple [.int n, .tuple (ms.map PyData.int)]) ∧ SqT K H b (rs.map V.int) ∧
  (∀ m ∈ ms, m.natAbs < 2 ^ 600) ∧ (∀ r ∈ rs, r.natAbs < 2 ^ 600) ∧ ∀ H', Kp [] H H' → Q (.int (toldI n ms rs)) H'
def mulI (s : Sv) (m : Nat) : List Int := (List.range m).map fun (i : Nat) => getI s.m (i : Nat)
theorem mulI_D (s : Sv) (m : Nat) : mulD s m = (mulI s m).map PyData.int := by unfold mulD mulI; rw [List.map_map]; rfl
def toD (rs : List Int) (m : Nat) : Str ⊕ Sv → PyData
  | .inl w => .str w
  | .inr s => .int (toldI s.n (mulI s m) rs)
def rnD (fix : List Int) (n : Int) (bl : List Sm) (rs : List Int) : PyData :=
  .tuple [.tuple ((runR fix n bl).2.said.map (toD rs (runR fix n bl).2.made.length)), wdD (runR fix n bl).1, .int ((runR fix n bl).2.made.length : Nat)]
def spRunOf (K : PySem.W.Frag) : Sp := fun vs H Q _ => ∃ (v : V) (b a : Addr) (n : Int) (fix rs : List Int) (bl : List Sm), vs = [v, .int n, .ref b, .ref a] ∧ Dt K H v (.tuple (Sm.ds bl)) ∧ VdB 4 bl ∧ n.natAbs < 2 ^ 200 ∧ Sm.wts bl ≤ 30 ∧ Sm.sizes bl ≤ 10000 ∧
  SqT K H b (rs.map V.int) ∧ (∀ r ∈ rs, r.natAbs < 2 ^ 600) ∧ SqT K H a (fix.map V.int) ∧ ∀ (H' : Hp) (z : V), Kp [] H H' → Dt K H' z (rnD fix n bl rs) → Q z H'
def spRun (K : PySem.W.Frag) : Sp := fun vs H Q _ => ∃ (v : V) (b : Addr) (n : Int) (rs : List Int) (bl : List Sm), vs = [v, .int n, .ref b] ∧ Dt K H v (.tuple (Sm.ds bl)) ∧ VdB 4 bl ∧ n.natAbs < 2 ^ 200 ∧ Sm.wts bl ≤ 30 ∧ Sm.sizes bl ≤ 10000 ∧
  SqT K H b (rs.map V.int) ∧ (∀ r ∈ rs, r.natAbs < 2 ^ 600) ∧ ∀ (H' : Hp) (z : V), Kp [] H H' → Dt K H' z (rnD [] n bl rs) → Q z H'
def spRds (K : PySem.W.Frag) : Sp := fun vs H Q _ => ∃ (d c : Addr) (n : Int), vs = [.ref d] ∧ Deck H d c n ∧ n + 5000 < 10 ^ 12 ∧
  ∀ (H' : Hp) (b : Addr) (rs : List Int) (n' : Int), Deck H' d c n' → n ≤ n' → n' ≤ n + 100 → Kp [d, c] H H' → SqT K H' b (rs.map V.int) → (∀ r ∈ rs, r.natAbs < 2 ^ 600) → rs.length ≤ 40 → Q (.ref b) H'
end Aw

/-! runs with readings: the two ways of telling a sum -/
namespace Aw
open PySem PySem.Spec L2

/-- a reading by its number -/
def rdI (rs : List Int) (k : Int) : Int := if k < 0 then 0 else (rs[k.toNat]?).getD 0
/-- what the law adds, one after the other -/
def totI (rs : List Int) (n : Int) (m : Ml) : Int := m.foldl (fun t p => t + p.2 * rdI rs p.1) n
def sumR (f : Nat → Int) : Nat → Int
  | 0 => 0
  | k + 1 => sumR f k + f k
theorem sumR_add (f g : Nat → Int) : ∀ m, sumR (fun i => f i + g i) m = sumR f m + sumR g m
  | 0 => rfl
  | m + 1 => by rw [sumR, sumR, sumR, sumR_add f g m]; omega
theorem sumR_congr {f g : Nat → Int} : ∀ {m : Nat}, (∀ i, i < m → f i = g i) → sumR f m = sumR g m
  | 0, _ => rfl
  | m + 1, h => by rw [sumR, sumR, sumR_congr (m := m) fun i hi => h i (by omega), h m (by omega)]
theorem sumR_zero {f : Nat → Int} {m : Nat} (h : ∀ i, i < m → f i = 0) : sumR f m = 0 := by
  induction m with
  | zero => rfl
  | succ m ih => rw [sumR, ih fun i hi => h i (by omega), h m (by omega)]; rfl
theorem sumR_one {a : Int} {k : Nat} : ∀ {m : Nat}, k < m → sumR (fun i => if i = k then a else 0) m = a
  | 0, h => by omega
  | m + 1, h => by
    rw [sumR]
    by_cases e : m = k
    · subst e
      rw [if_pos rfl, sumR_zero fun i hi => if_neg (by omega)]
      omega
    · rw [if_neg e, sumR_one (m := m) (by omega)]
      omega
theorem totI_sum (rs : List Int) (m : Nat) : ∀ (l : Ml) (n : Int), (ksI l).Nodup → (∀ p ∈ l, 0 ≤ p.1 ∧ p.1 < m) → totI rs n l = n + sumR (fun i => getI l (i : Nat) * rdI rs (i : Nat)) m
  | [], n, _, _ => by
    rw [sumR_zero fun i _ => by rw [getI_nil, Int.zero_mul]]
    show n = n + 0
    omega
  | p :: r, n, hn, hk => by
    have hn' : p.1 ∉ ksI r ∧ (ksI r).Nodup := List.nodup_cons.mp hn
    obtain ⟨h0, h1⟩ := hk p (List.mem_cons_self ..)
    have ih := totI_sum rs m r (n + p.2 * rdI rs p.1) hn'.2 fun q hq => hk q (List.mem_cons_of_mem _ hq)
    have e : totI rs n (p :: r) = totI rs (n + p.2 * rdI rs p.1) r := rfl
    rw [e, ih]
    have e2 : sumR (fun i => getI (p :: r) (i : Nat) * rdI rs (i : Nat)) m = sumR (fun i => (if i = p.1.toNat then p.2 * rdI rs p.1 else 0) + getI r (i : Nat) * rdI rs (i : Nat)) m := by
      refine sumR_congr fun i hi => ?_
      by_cases q : i = p.1.toNat
      · have q1 : p.1 = (i : Nat) := by omega
        rw [if_pos q, getI_pos q1, ← q1, getI_out hn'.1]
        omega
      · rw [if_neg q, getI_neg (by omega)]
        omega
    rw [e2, sumR_add, sumR_one (by omega)]
    omega
theorem toldI_sum (g : Nat → Int) : ∀ (m : Nat) (n : Int) (rs : List Int), toldI n ((List.range m).map g) rs = n + sumR (fun i => g i * (rs[i]?).getD 0) m := by
  intro m
  induction m generalizing g with
  | zero => intro n rs; cases rs <;> (show n = n + 0; omega)
  | succ m ih =>
    intro n rs
    rw [List.range_succ_eq_map, List.map_cons, List.map_map]
    have sh : ∀ (f : Nat → Int) (k : Nat), sumR f (k + 1) = f 0 + sumR (fun i => f (i + 1)) k := by
      intro f k
      induction k with
      | zero => show 0 + f 0 = f 0 + 0; omega
      | succ k ihk => rw [sumR, ihk, sumR]; omega
    rw [sh]
    cases rs with
    | nil =>
      rw [sumR_zero fun i _ => by simp]
      show n = n + (g 0 * 0 + 0)
      omega
    | cons r rs =>
      show toldI (n + g 0 * r) _ rs = _
      have := ih (g ∘ Nat.succ) (n + g 0 * r) rs
      rw [this]
      show n + g 0 * r + sumR (fun i => g (i + 1) * (rs[i]?).getD 0) m = n + (g 0 * r + sumR (fun i => g (i + 1) * (rs[i]?).getD 0) m)
      omega
theorem told_tot {s : Sv} {b m : Nat} (h : s.ok b m) (rs : List Int) : totI rs s.n s.m = toldI s.n (mulI s m) rs := by
  unfold mulI
  rw [toldI_sum, totI_sum rs m s.m s.n h.nd h.k]
  refine congrArg (s.n + ·) (sumR_congr fun i _ => ?_)
  show _ * rdI rs _ = _
  unfold rdI
  rw [if_neg (by omega), Int.toNat_natCast]
end Aw

/-! runs with readings: what is told may be shown -/
namespace Aw
open PySem PySem.Spec L2

theorem toldI_abs {A B : Nat} : ∀ (ms rs : List Int) (n : Int), (∀ m ∈ ms, m.natAbs ≤ A) → (∀ r ∈ rs, r.natAbs ≤ B) → (toldI n ms rs).natAbs ≤ n.natAbs + rs.length * (A * B)
  | [], rs, n, _, _ => by cases rs <;> exact Nat.le_add_right _ _
  | m :: ms, [], n, _, _ => Nat.le_add_right _ _
  | m :: ms, r :: rs, n, hm, hr => by
    have ih := toldI_abs ms rs (n + m * r) (fun x hx => hm x (List.mem_cons_of_mem _ hx)) (fun x hx => hr x (List.mem_cons_of_mem _ hx))
    have h1 : (m * r).natAbs ≤ A * B := by
      rw [Int.natAbs_mul]
      exact Nat.mul_le_mul (hm m (List.mem_cons_self ..)) (hr r (List.mem_cons_self ..))
    have h2 := Int.natAbs_add_le n (m * r)
    rw [toldI, List.length_cons, Nat.succ_mul]
    omega
theorem Shw.huge {i : Int} {k : Nat} (h : i.natAbs < 2 ^ 1300) : Shw (.int i) k 1302 := by
  have h1 : i.natAbs.log2 < 1300 := by
    by_cases h0 : i.natAbs = 0
    · rw [h0]
      decide
    · exact (Nat.log2_lt h0).mpr h
  refine ⟨by rw [PyData.showable]; exact decide_eq_true (by omega), by rw [PyData.hasDict], by rw [PyData.depth]; exact Nat.zero_le _, ?_⟩
  rw [PyData.shown]
  have q := int_text_length_le (a := i) (k := 1300) (by decide) h1
  show (Str.ofString (toString i)).length ≤ 1302
  rw [ofString_length]
  omega
theorem rnD_shw {fix rs : List Int} {n : Int} {bl : List Sm} (hv : VdB 4 bl) (hn : n.natAbs < 2 ^ 200) (hw : Sm.wts bl ≤ 30) (br : ∀ r ∈ rs, r.natAbs < 2 ^ 600) (hl : rs.length ≤ 40) : Shw (rnD fix n bl rs) 10 1000000 := by
  have hf := runR_fine (fix := fix) hv hn
  have hok : (runR fix n bl).2.ok (200 + 12 * Sm.wts bl) (1 + Sm.wts bl) := Sm.goL_ok fix 4 bl 0 (st0 n) 200 1 hv (st0_ok hn) (by omega)
  unfold rnD
  generalize runR fix n bl = R at hf hok
  obtain ⟨o, st⟩ := R
  dsimp only at hf hok ⊢
  have hml := hok.ml
  have hsl := hok.sl
  have hb : ∀ {s : Sv}, s.ok (200 + 12 * Sm.wts bl) st.made.length → s.ok 560 st.made.length := fun h => h.mono (by omega) (Nat.le_refl _)
  have hit : ∀ d ∈ st.said.map (toD rs st.made.length), Shw d 3 1302 := by
    intro d hd
    obtain ⟨t, ht, rfl⟩ := List.mem_map.mp hd
    cases t with
    | inl w => exact (Shw.str ⟨(hf.1.1 w ht).1, (hf.1.1 w ht).2⟩).mono (Nat.le_refl _) (by omega)
    | inr s =>
      have hs := hb (hok.said s ht)
      refine Shw.huge ?_
      have q := toldI_abs (A := 2 ^ 560) (B := 2 ^ 600) (mulI s st.made.length) rs s.n (fun m hm => by
        unfold mulI at hm
        obtain ⟨j, _, rfl⟩ := List.mem_map.mp hm
        exact Nat.le_of_lt (hs.get _)) (fun r hr => Nat.le_of_lt (br r hr))
      have q2 : rs.length * (2 ^ 560 * 2 ^ 600) ≤ 40 * (2 ^ 560 * 2 ^ 600) := Nat.mul_le_mul_right _ hl
      have q3 : 2 ^ 560 + 40 * (2 ^ 560 * 2 ^ 600) < 2 ^ 1300 := by decide +kernel
      have q4 := hs.n
      exact Nat.lt_of_le_of_lt (Nat.le_trans q (Nat.add_le_add (Nat.le_of_lt q4) q2)) q3
  have h3 := (ShwL.all hit).tup
  rw [List.length_map] at h3
  have h4 : Shw (.tuple (st.said.map (toD rs st.made.length))) 4 50000 := h3.mono (Nat.le_refl _) (by omega)
  have h5 : Shw (.int (st.made.length : Nat)) 4 1302 := Shw.huge (Nat.lt_trans (show Int.natAbs (st.made.length : Nat) < 2 ^ 20 by omega) (Nat.pow_lt_pow_right (by decide) (by decide)))
  exact ((ShwL.cons h4 (ShwL.cons (Shw.wd hf.2) (ShwL.cons h5 ShwL.nil))).tup).mono (by omega) (by simp)
def bl0 : List Sm := [.pl (.unset "n"), .pl (.tell (.name "n"))]
theorem bl0_vd : VdB 4 bl0 := by
  intro s hs
  simp only [bl0, List.mem_cons, List.not_mem_nil, or_false] at hs
  rcases hs with rfl | rfl
  · show isNameS "n" = true
    decide +kernel
  · show isNameS "n" = true
    decide +kernel
theorem bl0_w : Sm.wts bl0 ≤ 30 ∧ Sm.sizes bl0 ≤ 10000 := by
  unfold bl0
  simp [Sm.wts, Sm.wt, Sm.sizes, Sm.size]
theorem bl0_run : rnD [] 5 bl0 [9] = .tuple [.tuple [.int 9], .none, .int 1] := by
  have e : runR [] 5 bl0 = (none, ⟨setE (st0 5).env "n" none, [.inr ⟨0, [(0, 1)]⟩], [1]⟩) := by
    unfold runR bl0
    simp [Sm.goL, Sm.go, Pl.go, Ex.ev, setE, rdS, st0, Sm.size]
  unfold rnD
  rw [e]
  rfl
theorem rds_shw {rs : List Int} (br : ∀ r ∈ rs, r.natAbs < 2 ^ 600) (hl : rs.length ≤ 40) : Shw (.tuple (rs.map PyData.int)) 4 60000 := by
  have hit : ∀ d ∈ rs.map PyData.int, Shw d 3 1302 := by
    intro d hd
    obtain ⟨t, ht, rfl⟩ := List.mem_map.mp hd
    exact Shw.huge (Nat.lt_trans (br t ht) (by decide +kernel))
  have h3 := Shw.tup hit
  rw [List.length_map] at h3
  exact h3.mono (Nat.le_refl _) (by omega)
end Aw

/-! runs with fixes: the law's places -/
namespace Aw
open PySem PySem.Spec L2

theorem Sm.head (c : Sm) : ∃ (h : Str) (ds : List PyData), c.d = .tuple (.str h :: ds) := by
  cases c with
  | pl t =>
    obtain ⟨hh, ds, hds, _⟩ := t.head2
    exact ⟨hh, ds, by rw [Sm.d]; exact hds⟩
  | ifs t y z => exact ⟨_, _, by rw [Sm.d]⟩
  | rep k b => exact ⟨_, _, by rw [Sm.d]⟩
theorem sum_nn : ∀ l : List Int, (∀ x ∈ l, 0 ≤ x) → 0 ≤ l.sum
  | [], _ => Int.le_refl _
  | x :: r, h => by
    have := sum_nn r fun y hy => h y (List.mem_cons_of_mem _ hy)
    have := h x (List.mem_cons_self ..)
    rw [List.sum_cons]
    omega
theorem VdB.mono {m n : Nat} {b : List Sm} (h : VdB m b) (l : m ≤ n) : VdB n b := by
  cases m with
  | zero =>
    cases n with
    | zero => exact h
    | succ n => rw [show b = [] from h]; exact fun s hs => nomatch hs
  | succ m =>
    cases n with
    | zero => omega
    | succ n => exact fun s hs => (h s hs).mono (by omega)
theorem ls1 {H : Hp} {a : Addr} {xs : List V} (h : H a = some (.lst xs)) : Ls [a] H := fun b m => ⟨xs, by rw [List.mem_singleton.mp m]; exact h⟩
def USUAL : List Str := ["turns", "items", "word", "number", "names", "place", "rows"]
theorem usual_ok : ∀ x ∈ USUAL, isNameS x = true := by decide +kernel
def spPlcL (K : PySem.W.Frag) (n : Nat) : Sp := fun vs H Q _ => ∃ (v : V) (p : Int) (b : List Sm), vs = [v, .int p] ∧ Dt K H v (.tuple (Sm.ds b)) ∧ VdB n b ∧ Sm.sizes b ≤ 10000 ∧
  ∀ (H' : Hp) (q : Addr) (ls : List Int), Kp [] H H' → H q = none → H' q = some (.lst (ls.map V.int)) → ls.length ≤ Sm.sizes b → Q (.ref q) H'
def spFixL (K : PySem.W.Frag) : Sp := fun vs H Q _ => ∃ (d c : Addr) (n : Int) (v : V) (b : List Sm), vs = [.ref d, v] ∧ Deck H d c n ∧ n + 5000 < 10 ^ 12 ∧ Dt K H v (.tuple (Sm.ds b)) ∧ VdB 4 b ∧ Sm.sizes b ≤ 24 ∧
  ∀ (H' : Hp) (a : Addr) (fix : List Int) (n' : Int), Deck H' d c n' → n ≤ n' → n' ≤ n + 24 → Kp [d, c] H H' → SqT K H' a (fix.map V.int) → fix.length ≤ 24 → Q (.ref a) H'
def spRunFx (K : PySem.W.Frag) : Sp := fun vs H Q _ => ∃ (v : V) (b a : Addr) (n : Int) (fix rs : List Int) (bl : List Sm), vs = [v, .ref a, .int n, .ref b] ∧ Dt K H v (.tuple (Sm.ds bl)) ∧ VdB 4 bl ∧ n.natAbs < 2 ^ 200 ∧ Sm.wts bl ≤ 30 ∧ Sm.sizes bl ≤ 10000 ∧
  SqT K H b (rs.map V.int) ∧ (∀ r ∈ rs, r.natAbs < 2 ^ 600) ∧ SqT K H a (fix.map V.int) ∧ ∀ (H' : Hp) (z : V), Kp [] H H' → Dt K H' z (rnD fix n bl rs) → Q z H'
end Aw

/-! runs: what a program has told stays told, whatever follows -/
namespace Aw
open PySem PySem.Spec L2

/-- more was said, more was read -/
structure Ext (st st' : Rs) : Prop where
  said : ∃ l, st'.said = st.said ++ l
  made : st.made.length ≤ st'.made.length
theorem Ext.refl (st : Rs) : Ext st st := ⟨⟨[], by simp⟩, Nat.le_refl _⟩
theorem Ext.trans {a b c : Rs} (h : Ext a b) (g : Ext b c) : Ext a c := by
  obtain ⟨l, e⟩ := h.said
  obtain ⟨m, e'⟩ := g.said
  exact ⟨⟨l ++ m, by rw [e', e, List.append_assoc]⟩, Nat.le_trans h.made g.made⟩
theorem rdS_ext (fix : List Int) (p : Int) (st : Rs) : Ext st (rdS fix p st).2 := by
  unfold rdS
  split
  · exact Ext.refl st
  · exact ⟨⟨[], by simp⟩, by simp⟩
theorem Ex.ev_ext (fix : List Int) (p : Int) : ∀ (e : Ex) (st : Rs), Ext st (e.ev fix p st).2
  | .int i, st => by rw [Ex.ev]; exact Ext.refl st
  | .name x, st => by
    rw [Ex.ev]
    split
    · exact Ext.refl st
    · exact rdS_ext fix p st
  | .bin o a b, st => by
    rw [Ex.ev]
    split
    · exact Ex.ev_ext fix p b st
    · exact (Ex.ev_ext fix p a st).trans (Ex.ev_ext fix p b _)
theorem Ts.tr_ext (fix : List Int) (p : Int) : ∀ (t : Ts) (st : Rs), Ext st (t.tr fix p st).2
  | .not t, st => by rw [Ts.tr]; exact Ts.tr_ext fix p t st
  | .given x, st => by rw [Ts.tr]; exact Ext.refl st
  | .rest e b r, st => by rw [Ts.tr]; exact Ex.ev_ext fix p e st
  | .less a b, st => by rw [Ts.tr]; exact (Ex.ev_ext fix p a st).trans (Ex.ev_ext fix p b _)
theorem Pl.go_ext (fix : List Int) (p : Int) (q : Pl) (st : Rs) : Ext st (q.go fix p st).2 := by
  cases q with
  | set x e =>
    have := Ex.ev_ext fix p e st
    exact ⟨this.said, this.made⟩
  | unset x => exact ⟨⟨[], by simp [Pl.go]⟩, Nat.le_refl _⟩
  | tell e =>
    have := Ex.ev_ext fix p e st
    obtain ⟨l, h⟩ := this.said
    exact ⟨⟨l ++ [.inr (e.ev fix p st).1], by rw [Pl.go]; dsimp only; rw [h, List.append_assoc]⟩, this.made⟩
  | say w => exact ⟨⟨[.inl w], rfl⟩, Nat.le_refl _⟩
  | stop w => exact Ext.refl st
theorem iterS_ext {f : Rs → Option Str × Rs} (h : ∀ st, Ext st (f st).2) : ∀ (n : Nat) (st : Rs), Ext st (iterS f n st).2
  | 0, st => Ext.refl st
  | n + 1, st => by
    rw [iterS]
    have q := h st
    cases e : f st with
    | mk o st' =>
      rw [e] at q
      cases o with
      | some w => exact q
      | none => exact q.trans (iterS_ext h n st')
theorem Sm.goL_ext (fix : List Int) : ∀ (n : Nat) (bl : List Sm) (p : Int) (st : Rs), VdB n bl → Ext st (Sm.goL fix p bl st).2 := by
  intro n
  induction n with
  | zero =>
    intro bl p st h
    have h : bl = [] := h
    subst h
    rw [Sm.goL]
    exact Ext.refl st
  | succ n ih =>
    intro bl
    induction bl with
    | nil =>
      intro p st h
      rw [Sm.goL]
      exact Ext.refl st
    | cons s r ihr =>
      intro p st h
      have hv := h s (List.mem_cons_self ..)
      have hp := hv.parts
      have h1 : Ext st (Sm.go fix p s st).2 := by
        cases s with
        | pl q =>
          rw [Sm.go]
          exact Pl.go_ext fix p q st
        | ifs t y z =>
          have m := Ts.tr_ext fix p t st
          rw [Sm.go]
          cases e : t.tr fix p st with
          | mk o st' =>
            rw [e] at m
            match o with
            | none => exact m
            | some true => exact m.trans (ih y (p + 1) st' (hp y (by simp [Sm.parts])))
            | some false => exact m.trans (ih z _ st' (hp z (by simp [Sm.parts])))
        | rep k bb =>
          rw [Sm.go]
          exact iterS_ext (fun st => ih bb (p + 1) st (hp bb (by simp [Sm.parts]))) k.toNat st
      rw [Sm.goL]
      cases e : Sm.go fix p s st with
      | mk o st' =>
        rw [e] at h1
        cases o with
        | some w => exact h1
        | none => exact h1.trans (ihr _ st' fun z hz => h z (List.mem_cons_of_mem _ hz))
theorem Sm.goL_app (fix : List Int) : ∀ (a b : List Sm) (p : Int) (st : Rs), Sm.goL fix p (a ++ b) st = match Sm.goL fix p a st with
    | (some w, st') => (some w, st')
    | (none, st') => Sm.goL fix (p + (Sm.sizes a : Nat)) b st'
  | [], b, p, st => by
    rw [List.nil_append, Sm.goL, Sm.sizes]
    show Sm.goL fix p b st = Sm.goL fix (p + (0 : Nat)) b st
    rw [show p + ((0 : Nat) : Int) = p by omega]
  | s :: r, b, p, st => by
    rw [List.cons_append, Sm.goL, Sm.goL]
    cases e : Sm.go fix p s st with
    | mk o st' =>
      cases o with
      | some w => rfl
      | none =>
        dsimp only
        rw [Sm.goL_app fix r b _ st', Sm.sizes, show p + (s.size : Nat) + (Sm.sizes r : Nat) = p + ((s.size + Sm.sizes r : Nat) : Int) by omega]
/-- the items of a run -/
def itsD (fix : List Int) (n : Int) (bl : List Sm) (rs : List Int) : List PyData := (runR fix n bl).2.said.map (toD rs (runR fix n bl).2.made.length)
theorem rnD_eq (fix : List Int) (n : Int) (bl : List Sm) (rs : List Int) : rnD fix n bl rs = .tuple [.tuple (itsD fix n bl rs), wdD (runR fix n bl).1, .int ((runR fix n bl).2.made.length : Nat)] := rfl
theorem runR_stop {fix : List Int} {n : Int} {a b : List Sm} {w : Str} (h : (runR fix n a).1 = some w) : runR fix n (a ++ b) = runR fix n a := by
  unfold runR at h ⊢
  rw [Sm.goL_app]
  cases e : Sm.goL fix 0 a (st0 n) with
  | mk o st =>
    rw [e] at h
    cases h
    rfl
theorem runR_ext {fix : List Int} {n : Int} {a b : List Sm} (hv : VdB 4 (a ++ b)) (h : (runR fix n a).1 = none) : Ext (runR fix n a).2 (runR fix n (a ++ b)).2 := by
  unfold runR at h ⊢
  rw [Sm.goL_app]
  cases e : Sm.goL fix 0 a (st0 n) with
  | mk o st =>
    rw [e] at h
    cases h
    exact Sm.goL_ext fix 4 b _ st fun s hs => hv s (List.mem_append_right _ hs)
theorem its_ext {fix rs : List Int} {n : Int} {a b : List Sm} (hv : VdB 4 (a ++ b)) (hn : n.natAbs < 2 ^ 200) (h : (runR fix n a).1 = none) :
    (itsD fix n (a ++ b) rs).take (itsD fix n a rs).length = itsD fix n a rs ∧ (itsD fix n a rs).length ≤ (itsD fix n (a ++ b) rs).length ∧ (runR fix n a).2.made.length ≤ (runR fix n (a ++ b)).2.made.length := by
  have x := runR_ext hv h
  have hva : VdB 4 a := fun s hs => hv s (List.mem_append_left _ hs)
  have hok : (runR fix n a).2.ok (200 + 12 * Sm.wts a) (1 + Sm.wts a) := Sm.goL_ok fix 4 a 0 (st0 n) 200 1 hva (st0_ok hn) (by omega)
  unfold itsD
  generalize runR fix n a = R at x hok ⊢
  generalize runR fix n (a ++ b) = R' at x ⊢
  obtain ⟨l, e⟩ := x.said
  have hm := x.made
  rw [e, List.map_append, List.length_map]
  refine ⟨?_, by simp, hm⟩
  rw [List.take_append_of_le_length (by simp), List.take_of_length_le (by simp)]
  refine List.map_congr_left fun t ht => ?_
  cases t with
  | inl w => rfl
  | inr s =>
    have hs := hok.said s ht
    show PyData.int _ = PyData.int _
    rw [← told_tot hs rs, ← told_tot (hs.mono (Nat.le_refl _) hm) rs]
theorem its_shw {fix rs : List Int} {n : Int} {bl : List Sm} (hv : VdB 4 bl) (hn : n.natAbs < 2 ^ 200) (hw : Sm.wts bl ≤ 30) (br : ∀ r ∈ rs, r.natAbs < 2 ^ 600) (hl : rs.length ≤ 40) : Shw (.tuple (itsD fix n bl rs)) 4 50000 := by
  have hf := runR_fine (fix := fix) hv hn
  have hok : (runR fix n bl).2.ok (200 + 12 * Sm.wts bl) (1 + Sm.wts bl) := Sm.goL_ok fix 4 bl 0 (st0 n) 200 1 hv (st0_ok hn) (by omega)
  unfold itsD
  generalize runR fix n bl = R at hf hok
  obtain ⟨o, st⟩ := R
  dsimp only at hf hok ⊢
  have hsl := hok.sl
  have hb : ∀ {s : Sv}, s.ok (200 + 12 * Sm.wts bl) st.made.length → s.ok 560 st.made.length := fun h => h.mono (by omega) (Nat.le_refl _)
  have hit : ∀ d ∈ st.said.map (toD rs st.made.length), Shw d 3 1302 := by
    intro d hd
    obtain ⟨t, ht, rfl⟩ := List.mem_map.mp hd
    cases t with
    | inl w => exact (Shw.str ⟨(hf.1.1 w ht).1, (hf.1.1 w ht).2⟩).mono (Nat.le_refl _) (by omega)
    | inr s =>
      have hs := hb (hok.said s ht)
      refine Shw.huge ?_
      have q := toldI_abs (A := 2 ^ 560) (B := 2 ^ 600) (mulI s st.made.length) rs s.n (fun m hm => by
        unfold mulI at hm
        obtain ⟨j, _, rfl⟩ := List.mem_map.mp hm
        exact Nat.le_of_lt (hs.get _)) (fun r hr => Nat.le_of_lt (br r hr))
      have q2 : rs.length * (2 ^ 560 * 2 ^ 600) ≤ 40 * (2 ^ 560 * 2 ^ 600) := Nat.mul_le_mul_right _ hl
      have q3 : 2 ^ 560 + 40 * (2 ^ 560 * 2 ^ 600) < 2 ^ 1300 := by decide +kernel
      have q4 := hs.n
      exact Nat.lt_of_le_of_lt (Nat.le_trans q (Nat.add_le_add (Nat.le_of_lt q4) q2)) q3
  have h3 := (ShwL.all hit).tup
  rw [List.length_map] at h3
  exact h3.mono (Nat.le_refl _) (by omega)
/-- a slice of a tuple of plain data -/
theorem DtL.cut {K : PySem.W.Frag} {H : Hp} {vs : List V} {ds : List PyData} (h : DtL K H vs ds) (lo hi : Option Int) : DtL K H (cutV vs lo hi) (cutD ds lo hi) := by
  unfold cutV cutD
  rw [h.len]
  refine ⟨by rw [List.length_take, List.length_take, List.length_drop, List.length_drop, h.len], fun i v d e e' => ?_⟩
  rw [List.getElem?_take] at e e'
  split at e
  · rename_i hi
    rw [if_pos hi] at e'
    rw [List.getElem?_drop] at e e'
    exact h.all _ v d e e'
  · cases e
theorem r_slD {K : PySem.W.Frag} {H : Hp} {Q : VK} {v : V} {ds : List PyData} {lo hi : Option Int} (h : Dt K H v (.tuple ds)) (k : ∀ H' w, Kp [] H H' → Dt K H' w (.tuple (cutD ds lo hi)) → Q w H') : rSlA K v lo hi H Q := by
  obtain ⟨a, xs, rfl, hT, hL⟩ := h.items
  refine ⟨a, xs, rfl, hT, fun hw => ?_, fun _ p hp => k _ _ (Kp.nil.new hp) (((hL.cut lo hi).kp (Kp.nil.new hp)).tup upd_same)⟩
  refine k _ _ Kp.nil ?_
  have e : cutD ds lo hi = ds := by
    unfold cutD
    rw [hL.len] at hw
    rw [hw.1, hw.2, List.drop_zero, Nat.sub_zero, List.take_length]
  rw [e]
  exact h
theorem cutD_last {α : Type} (xs : List α) : cutD xs none (some (-1)) = xs.take (xs.length - 1) := by
  unfold cutD
  rw [HT.sIx_none, List.drop_zero, Nat.sub_zero]
  congr 1
  show HT.sIx xs.length xs.length (some (-1)) = _
  unfold HT.sIx
  simp only [Option.map, Option.getD]
  rw [if_pos (by decide)]
  omega
/-- what a shape shows -/
def shI : Str ⊕ Sv → PyData
  | .inl w => .str w
  | .inr _ => .none
def shD (n : Int) (bl : List Sm) : PyData := .list [.list ((runR [] n bl).2.said.map shI), wdD (runR [] n bl).1, .int ((runR [] n bl).2.made.length : Nat)]
def spShape (K : PySem.W.Frag) : Sp := fun vs H Q _ => ∃ (v : V) (n : Int) (rs : List Int) (bl : List Sm), vs = [v] ∧ Dt K H v (rnD [] n bl rs) ∧ VdB 4 bl ∧ n.natAbs < 2 ^ 200 ∧ Sm.wts bl ≤ 30 ∧
  ∀ H', Kp [] H H' → Q (.str (shD n bl).shown) H'
def spGoes (K : PySem.W.Frag) : Sp := fun vs H Q _ => ∃ (v u : V) (b : Addr) (n : Int) (rs : List Int) (bl tl : List Sm), vs = [v, u, .int n, .ref b] ∧ Dt K H v (.tuple (Sm.ds bl)) ∧ Dt K H u (.tuple (Sm.ds (bl ++ tl))) ∧ VdB 4 (bl ++ tl) ∧ n.natAbs < 2 ^ 200 ∧ Sm.wts (bl ++ tl) ≤ 30 ∧ Sm.sizes (bl ++ tl) ≤ 10000 ∧
  SqT K H b (rs.map V.int) ∧ (∀ r ∈ rs, r.natAbs < 2 ^ 600) ∧ rs.length ≤ 40 ∧ ∀ H', Kp [] H H' → Q (.bl true) H'
theorem shD_shw {n : Int} {bl : List Sm} (hv : VdB 4 bl) (hn : n.natAbs < 2 ^ 200) (hw : Sm.wts bl ≤ 30) : Shw (shD n bl) 10 1000000 := by
  have hf := runR_fine (fix := []) hv hn
  have hok : (runR [] n bl).2.ok (200 + 12 * Sm.wts bl) (1 + Sm.wts bl) := Sm.goL_ok [] 4 bl 0 (st0 n) 200 1 hv (st0_ok hn) (by omega)
  unfold shD
  generalize runR [] n bl = R at hf hok
  obtain ⟨o, st⟩ := R
  dsimp only at hf hok ⊢
  have hml := hok.ml
  have hsl := hok.sl
  have hit : ∀ d ∈ st.said.map shI, Shw d 3 1302 := by
    intro d hd
    obtain ⟨t, ht, rfl⟩ := List.mem_map.mp hd
    cases t with
    | inl w => exact (Shw.str ⟨(hf.1.1 w ht).1, (hf.1.1 w ht).2⟩).mono (Nat.le_refl _) (by omega)
    | inr s => exact Shw.non.mono (Nat.le_refl _) (by omega)
  have h3 := Shw.list hit
  rw [List.length_map] at h3
  have h4 : Shw (.list (st.said.map shI)) 4 50000 := h3.mono (Nat.le_refl _) (by omega)
  have h5 : Shw (.int (st.made.length : Nat)) 4 1302 := Shw.huge (Nat.lt_trans (show Int.natAbs (st.made.length : Nat) < 2 ^ 20 by omega) (Nat.pow_lt_pow_right (by decide) (by decide)))
  have hall : ∀ d ∈ [PyData.list (st.said.map shI), wdD o, .int (st.made.length : Nat)], Shw d 5 50000 := by
    intro d hd
    simp only [List.mem_cons, List.not_mem_nil, or_false] at hd
    rcases hd with rfl | rfl | rfl
    · exact h4.mono (by omega) (Nat.le_refl _)
    · exact (Shw.wd (k := 5) hf.2).mono (Nat.le_refl _) (by omega)
    · exact h5.mono (by omega) (by omega)
  exact (Shw.list hall).mono (by omega) (by simp)
/-- a say and a tell behind a program -/
def tlx (x y : Str) : List Sm := [.pl (.say "go"), .pl (.tell (.bin "plus" (.name x) (.name y)))]
theorem tlx_vd {x y : Str} (hx : isNameS x = true) (hy : isNameS y = true) : ∀ s ∈ tlx x y, Sm.vd 3 s := by
  intro s hs
  simp only [tlx, List.mem_cons, List.not_mem_nil, or_false] at hs
  rcases hs with rfl | rfl
  · show isWordS "go" = true
    decide +kernel
  · exact ⟨hy, .inr ⟨.inl rfl, hx⟩⟩
theorem tlx_ds (x y : Str) : Sm.ds (tlx x y) = [.tuple [.str "say", .str "go"], .tuple [.str "tell", .tuple [.str "plus", .str x, .str y]]] := by
  simp [tlx, Sm.ds, Sm.d, Pl.d, Ex.d]
theorem tlx_size (x y : Str) : Sm.sizes (tlx x y) = 2 := by simp [tlx, Sm.sizes, Sm.size]
theorem lim_none {b : List Sm} (hv : VdB 4 b) (h : lim b = .none) : Sm.wts b ≤ 30 := by
  have q := Sm.wts_cnts 4 b hv
  unfold lim errD at h
  split at h
  · cases h
  split at h
  · cases h
  omega
theorem Sm.ds_len (x : List Sm) : (Sm.ds x).length = x.length := by rw [Sm.ds_map, List.length_map]
theorem Sm.ds_take (x : List Sm) (n : Nat) : (Sm.ds x).take n = Sm.ds (x.take n) := by rw [Sm.ds_map, Sm.ds_map, List.map_take]
end Aw

/-! runs: mirrored programs -/
namespace Aw
open PySem PySem.Spec L2

def Sv.neg (s : Sv) : Sv := ⟨0 - s.n, s.m⟩
def Ex.tn : Ex → Ex
  | .int i => .int (0 - i)
  | .name x => .name x
  | .bin o a b => if o = "times" then .bin o a b.tn else .bin o a.tn b.tn
def Ts.tn : Ts → Ts
  | .not t => .not t.tn
  | .given x => .given x
  | .rest e b r => .rest e.tn b ((0 - r) % b)
  | .less a b => .less (.bin "times" (.int (-1)) a.tn) (.bin "times" (.int (-1)) b.tn)
def Pl.tn : Pl → Pl
  | .set x e => .set x e.tn
  | .tell e => .tell e.tn
  | .unset x => .unset x
  | .say w => .say w
  | .stop w => .stop w
mutual
def Sm.mir : Sm → Sm
  | .pl p => .pl p.tn
  | .ifs t y z => .ifs t.tn (Sm.mirs y) (Sm.mirs z)
  | .rep k b => .rep k (Sm.mirs b)
def Sm.mirs : List Sm → List Sm
  | [] => []
  | s :: r => s.mir :: Sm.mirs r
end
theorem Sm.mirs_map : ∀ b : List Sm, Sm.mirs b = b.map Sm.mir
  | [] => by rw [Sm.mirs]; rfl
  | s :: r => by rw [Sm.mirs, Sm.mirs_map r]; rfl
theorem Ex.tn_times (a b : Ex) : (Ex.bin "times" a b).tn = .bin "times" a b.tn := by rw [Ex.tn, if_pos rfl]
theorem Ex.tn_bin {o : Str} (h : o ≠ "times") (a b : Ex) : (Ex.bin o a b).tn = .bin o a.tn b.tn := by rw [Ex.tn, if_neg h]
theorem Ex.tn_vd : ∀ {n : Nat} {e : Ex}, e.vd n → e.tn.vd n
  | 0, _, h => h.elim
  | n + 1, .int i, h => by
    have h1 : -99 ≤ i := h.1
    have h2 : i ≤ 99 := h.2
    exact ⟨by omega, by omega⟩
  | n + 1, .name x, h => h
  | n + 1, .bin o a b, h => by
    obtain ⟨hb, h⟩ := h
    rcases h with ⟨rfl, i, rfl, i1, i2⟩ | ⟨ho, ha⟩
    · rw [Ex.tn_times]
      exact ⟨Ex.tn_vd hb, .inl ⟨rfl, i, rfl, i1, i2⟩⟩
    · have hot : o ≠ "times" := by
        rcases ho with rfl | rfl <;> decide +kernel
      rw [Ex.tn_bin hot]
      exact ⟨Ex.tn_vd hb, .inr ⟨ho, Ex.tn_vd ha⟩⟩
theorem Ts.tn_vd : ∀ {n : Nat} {t : Ts}, t.vd n → t.lo → t.tn.vd n
  | n + 1, .not t, h, l => Ts.tn_vd (n := n) (t := t) h l
  | n, .given x, h, l => by cases n <;> exact h
  | n, .rest e b r, h, l => by
    have q : e.vd 3 ∧ 2 ≤ b ∧ b ≤ 6 ∧ 0 ≤ r ∧ r ≤ b - 1 := by cases n <;> exact h
    have m1 := Int.emod_nonneg (0 - r) (show b ≠ 0 by omega)
    have m2 := Int.emod_lt_of_pos (0 - r) (show 0 < b by omega)
    have z : e.tn.vd 3 ∧ 2 ≤ b ∧ b ≤ 6 ∧ 0 ≤ (0 - r) % b ∧ (0 - r) % b ≤ b - 1 := ⟨Ex.tn_vd q.1, q.2.1, q.2.2.1, m1, by omega⟩
    cases n <;> exact z
  | n, .less a b, h, l => by
    have z : (Ex.bin "times" (.int (-1)) a.tn).vd 3 ∧ (Ex.bin "times" (.int (-1)) b.tn).vd 3 := ⟨Ex.vd_times (by omega) (by omega) (Ex.tn_vd l.1), Ex.vd_times (by omega) (by omega) (Ex.tn_vd l.2)⟩
    cases n <;> exact z
theorem Pl.tn_vd {p : Pl} (h : p.vd) : p.tn.vd := by
  cases p with
  | set x e => exact ⟨h.1, Ex.tn_vd h.2⟩
  | tell e => exact Ex.tn_vd h
  | unset x => exact h
  | say w => exact h
  | stop w => exact h
theorem Sm.los_mem : ∀ {b : List Sm} {s : Sm}, Sm.los b → s ∈ b → s.lo
  | _ :: r, s, h, .head _ => by rw [Sm.los] at h; exact h.1
  | _ :: r, s, h, .tail _ m => by rw [Sm.los] at h; exact Sm.los_mem h.2 m
theorem Sm.mirs_vd : ∀ (n : Nat) (b : List Sm), VdB n b → Sm.los b → VdB n (Sm.mirs b) := by
  intro n
  induction n with
  | zero =>
    intro b h _
    have h : b = [] := h
    subst h
    rw [Sm.mirs]
    exact rfl
  | succ n ih =>
    intro b h l
    rw [Sm.mirs_map]
    intro s hs
    obtain ⟨c, hc, rfl⟩ := List.mem_map.mp hs
    have hv := h c hc
    have hp := hv.parts
    have hl := Sm.los_mem l hc
    cases c with
    | pl p =>
      rw [Sm.mir]
      have : p.vd := by cases n <;> exact hv
      cases n <;> exact Pl.tn_vd this
    | ifs t y z =>
      rw [Sm.lo] at hl
      have ht : t.vd 2 := by cases n <;> exact hv.1
      have hy := ih y (hp y (by simp [Sm.parts])) hl.2.1
      have hz := ih z (hp z (by simp [Sm.parts])) hl.2.2
      rw [Sm.mir]
      cases n with
      | zero => exact ⟨Ts.tn_vd ht hl.1, hy, hz⟩
      | succ n => exact ⟨Ts.tn_vd ht hl.1, hy, hz⟩
    | rep k bb =>
      rw [Sm.lo] at hl
      have hk : 0 ≤ k ∧ k ≤ 8 := by cases n <;> exact ⟨hv.1, hv.2.1⟩
      have hb := ih bb (hp bb (by simp [Sm.parts])) hl
      rw [Sm.mir]
      cases n with
      | zero => exact ⟨hk.1, hk.2, hb⟩
      | succ n => exact ⟨hk.1, hk.2, hb⟩
mutual
theorem Sm.mir_size : ∀ s : Sm, s.mir.size = s.size
  | .pl p => by rw [Sm.mir, Sm.size, Sm.size]
  | .ifs t y z => by rw [Sm.mir, Sm.size, Sm.size, Sm.mirs_sizes y, Sm.mirs_sizes z]
  | .rep k b => by rw [Sm.mir, Sm.size, Sm.size, Sm.mirs_sizes b]
theorem Sm.mirs_sizes : ∀ b : List Sm, Sm.sizes (Sm.mirs b) = Sm.sizes b
  | [] => by rw [Sm.mirs]
  | s :: r => by rw [Sm.mirs, Sm.sizes, Sm.sizes, Sm.mir_size s, Sm.mirs_sizes r]
end
mutual
theorem Sm.mir_wt : ∀ s : Sm, s.mir.wt = s.wt
  | .pl p => by rw [Sm.mir, Sm.wt, Sm.wt]
  | .ifs t y z => by rw [Sm.mir, Sm.wt, Sm.wt, Sm.mirs_wts y, Sm.mirs_wts z]
  | .rep k b => by rw [Sm.mir, Sm.wt, Sm.wt, Sm.mirs_wts b]
theorem Sm.mirs_wts : ∀ b : List Sm, Sm.wts (Sm.mirs b) = Sm.wts b
  | [] => by rw [Sm.mirs]
  | s :: r => by rw [Sm.mirs, Sm.wts, Sm.wts, Sm.mir_wt s, Sm.mirs_wts r]
end
/-! ### the runs -/
def negT : Str ⊕ Sv → Str ⊕ Sv
  | .inl w => .inl w
  | .inr s => .inr s.neg
structure Mir (st st' : Rs) : Prop where
  env : ∀ x, st'.env x = (st.env x).map Sv.neg
  said : st'.said = st.said.map negT
  made : st'.made = st.made
theorem both_neg (a b : Sv) (t : Int) : both a.neg b.neg t = (both a b t).neg := by
  unfold both Sv.neg
  dsimp only
  rw [Int.mul_sub, Int.mul_zero]
  congr 1
  omega
theorem zero_neg : Sv.neg ⟨0, []⟩ = ⟨0, []⟩ := rfl
theorem rdS_mir (fix : List Int) (p : Int) {st st' : Rs} (m : Mir st st') : (rdS fix p st').1 = (rdS fix p st).1.neg ∧ Mir (rdS fix p st).2 (rdS fix p st').2 := by
  unfold rdS
  rw [m.made]
  split
  · exact ⟨rfl, m⟩
  · exact ⟨rfl, m.env, m.said, rfl⟩
theorem Ex.ev_times (fix : List Int) (p : Int) (a b : Ex) (st : Rs) : (Ex.bin "times" a b).ev fix p st = (both ⟨0, []⟩ (b.ev fix p st).1 a.num, (b.ev fix p st).2) := by rw [Ex.ev, if_pos rfl]
theorem Ex.ev_bin (fix : List Int) (p : Int) {o : Str} (h : o ≠ "times") (a b : Ex) (st : Rs) : (Ex.bin o a b).ev fix p st =
    (both (a.ev fix p st).1 (b.ev fix p (a.ev fix p st).2).1 (if o = "plus" then 1 else -1), (b.ev fix p (a.ev fix p st).2).2) := by rw [Ex.ev, if_neg h]
theorem Ex.ev_mir (fix : List Int) (p : Int) : ∀ {n : Nat} {e : Ex} {st st' : Rs}, e.vd n → Mir st st' → (e.tn.ev fix p st').1 = (e.ev fix p st).1.neg ∧ Mir (e.ev fix p st).2 (e.tn.ev fix p st').2
  | 0, _, _, _, h, _ => h.elim
  | n + 1, .int i, st, st', h, m => ⟨rfl, m⟩
  | n + 1, .name x, st, st', h, m => by
    rw [Ex.tn, Ex.ev, Ex.ev, m.env x]
    cases st.env x with
    | some s => exact ⟨rfl, m⟩
    | none => exact rdS_mir fix p m
  | n + 1, .bin o a b, st, st', h, m => by
    obtain ⟨hb, h⟩ := h
    rcases h with ⟨rfl, i, rfl, i1, i2⟩ | ⟨ho, ha⟩
    · rw [Ex.tn_times, Ex.ev_times, Ex.ev_times]
      obtain ⟨q1, q2⟩ := Ex.ev_mir fix p hb m
      refine ⟨?_, q2⟩
      dsimp only
      rw [q1]
      exact both_neg ⟨0, []⟩ _ _
    · have hot : o ≠ "times" := by
        rcases ho with rfl | rfl <;> decide +kernel
      rw [Ex.tn_bin hot, Ex.ev_bin fix p hot, Ex.ev_bin fix p hot]
      obtain ⟨q1, q2⟩ := Ex.ev_mir fix p ha m
      obtain ⟨r1, r2⟩ := Ex.ev_mir fix p hb q2
      refine ⟨?_, r2⟩
      dsimp only
      rw [q1, r1, both_neg]
theorem non_zero {s : Sv} (h : (ksI s.m).Nodup) : s.non (fun x => !decide (x = 0)) = true ↔ ∀ k, getI s.m k = 0 := by
  unfold Sv.non
  rw [List.isEmpty_iff, List.filter_eq_nil_iff]
  constructor
  · intro q k
    by_cases hk : k ∈ ksI s.m
    · obtain ⟨p, hp, e⟩ := List.mem_map.mp hk
      rw [← e, getI_mem (v := p.2) h hp]
      have := q p.2 (List.mem_map.mpr ⟨p, hp, rfl⟩)
      simpa using this
    · exact getI_out hk
  · intro q x hx
    obtain ⟨p, hp, rfl⟩ := List.mem_map.mp hx
    have := q p.1
    rw [getI_mem (v := p.2) h hp] at this
    simp [this]
theorem rest_mir {n b r : Int} (hb : 2 ≤ b) (h0 : 0 ≤ r) (h1 : r ≤ b - 1) : decide ((0 - n) % b = (0 - r) % b) = decide (n % b = r) := by
  refine decide_eq_decide.mpr ?_
  have hr : r % b = r := Int.emod_eq_of_lt h0 (by omega)
  constructor
  · intro e
    have d : (0 - n - (0 - r)) % b = 0 := Int.emod_eq_emod_iff_emod_sub_eq_zero.mp e
    have d2 : b ∣ (0 - n - (0 - r)) := Int.dvd_of_emod_eq_zero d
    have d3 : b ∣ n - r := by
      have := Int.dvd_neg.mpr d2
      rwa [show -(0 - n - (0 - r)) = n - r by omega] at this
    have d4 : n % b = r % b := Int.emod_eq_emod_iff_emod_sub_eq_zero.mpr (Int.emod_eq_zero_of_dvd d3)
    rw [d4, hr]
  · intro e
    have e : n % b = r % b := by rw [hr]; exact e
    have d2 : b ∣ n - r := Int.dvd_of_emod_eq_zero (Int.emod_eq_emod_iff_emod_sub_eq_zero.mp e)
    have d3 : b ∣ 0 - n - (0 - r) := by
      have := Int.dvd_neg.mpr d2
      rwa [show -(n - r) = 0 - n - (0 - r) by omega] at this
    exact Int.emod_eq_emod_iff_emod_sub_eq_zero.mpr (Int.emod_eq_zero_of_dvd d3)
theorem Ts.tr_mir (fix : List Int) (p : Int) : ∀ {n : Nat} {t : Ts} {st st' : Rs} {b : Nat}, t.vd n → (∀ x s, st.env x = some s → s.ok b st.made.length) → 7 ≤ b → Mir st st' → (t.tn.tr fix p st').1 = (t.tr fix p st).1 ∧ Mir (t.tr fix p st).2 (t.tn.tr fix p st').2
  | n + 1, .not t, st, st', b, h, hs, hb, m => by
    obtain ⟨q1, q2⟩ := Ts.tr_mir fix p (n := n) (t := t) h hs hb m
    rw [Ts.tn, Ts.tr, Ts.tr]
    refine ⟨?_, q2⟩
    dsimp only
    rw [q1]
  | n, .given x, st, st', b, h, hs, hb, m => by
    rw [Ts.tn, Ts.tr, Ts.tr]
    refine ⟨?_, m⟩
    dsimp only
    rw [m.env x, Option.isSome_map]
  | n, .rest e c r, st, st', b, h, hs, hb, m => by
    have q : e.vd 3 ∧ 2 ≤ c ∧ c ≤ 6 ∧ 0 ≤ r ∧ r ≤ c - 1 := by cases n <;> exact h
    obtain ⟨q1, q2⟩ := Ex.ev_mir fix p q.1 m
    rw [Ts.tn, Ts.tr, Ts.tr]
    refine ⟨?_, q2⟩
    dsimp only
    rw [q1]
    unfold restV Sv.neg Sv.non
    dsimp only
    rw [rest_mir q.2.1 q.2.2.2.1 q.2.2.2.2]
  | n, .less x y, st, st', b, h, hs, hb, m => by
    have q : x.vd 3 ∧ y.vd 3 := by cases n <;> exact h
    obtain ⟨a1, a2⟩ := Ex.ev_mir fix p q.1 m
    obtain ⟨b1, b2⟩ := Ex.ev_mir fix p q.2 a2
    have o1 := Ex.ev_ok fix p q.1 hs hb
    have hs2 : ∀ z s, (x.ev fix p st).2.env z = some s → s.ok b (x.ev fix p st).2.made.length := fun z s e => by
      rw [o1.1.env] at e
      exact (hs z s e).mono (Nat.le_refl _) o1.1.ge
    have o2 := Ex.ev_ok fix p q.2 hs2 hb
    rw [Ts.tn, Ts.tr, Ts.tr, Ex.ev_times, Ex.ev_times]
    refine ⟨?_, b2⟩
    dsimp only
    rw [a1, b1]
    have n1 := o1.2.nd
    have n2 := o2.2.nd
    generalize (x.ev fix p st).1 = va at n1 ⊢
    generalize (y.ev fix p (x.ev fix p st).2).1 = vb at n2 ⊢
    show lessV (both (both ⟨0, []⟩ va.neg (-1)) (both ⟨0, []⟩ vb.neg (-1)) (-1)) = lessV (both va vb (-1))
    have m1 : (ksI (both ⟨0, []⟩ va.neg (-1)).m).Nodup := bothM_nodup List.nodup_nil
    have m2 : (ksI (both ⟨0, []⟩ vb.neg (-1)).m).Nodup := bothM_nodup List.nodup_nil
    have g1 : ∀ k, getI (both ⟨0, []⟩ va.neg (-1)).m k = 0 + -1 * getI va.m k := fun k => bothM_get (b := va.m) (a := []) n1
    have g2 : ∀ k, getI (both ⟨0, []⟩ vb.neg (-1)).m k = 0 + -1 * getI vb.m k := fun k => bothM_get (b := vb.m) (a := []) n2
    have e1 : (both (both ⟨0, []⟩ va.neg (-1)) (both ⟨0, []⟩ vb.neg (-1)) (-1)).n = (both va vb (-1)).n := by
      show 0 + -1 * (0 - va.n) + -1 * (0 + -1 * (0 - vb.n)) = va.n + -1 * vb.n
      omega
    have e2 : (both (both ⟨0, []⟩ va.neg (-1)) (both ⟨0, []⟩ vb.neg (-1)) (-1)).non (fun x => !decide (x = 0)) = (both va vb (-1)).non (fun x => !decide (x = 0)) := by
      rw [Bool.eq_iff_iff, non_zero (bothM_nodup m1), non_zero (bothM_nodup n1)]
      constructor
      · intro z k
        have z := z k
        have e : getI (both (both ⟨0, []⟩ va.neg (-1)) (both ⟨0, []⟩ vb.neg (-1)) (-1)).m k = getI (both ⟨0, []⟩ va.neg (-1)).m k + -1 * getI (both ⟨0, []⟩ vb.neg (-1)).m k := bothM_get m2
        have e' : getI (both va vb (-1)).m k = getI va.m k + -1 * getI vb.m k := bothM_get n2
        rw [e, g1, g2] at z
        rw [e']
        omega
      · intro z k
        have z := z k
        have e : getI (both (both ⟨0, []⟩ va.neg (-1)) (both ⟨0, []⟩ vb.neg (-1)) (-1)).m k = getI (both ⟨0, []⟩ va.neg (-1)).m k + -1 * getI (both ⟨0, []⟩ vb.neg (-1)).m k := bothM_get m2
        have e' : getI (both va vb (-1)).m k = getI va.m k + -1 * getI vb.m k := bothM_get n2
        rw [e'] at z
        rw [e, g1, g2]
        omega
    unfold lessV
    rw [e1, e2]
theorem Pl.go_mir (fix : List Int) (p : Int) {q : Pl} {st st' : Rs} (h : q.vd) (m : Mir st st') : (q.tn.go fix p st').1 = (q.go fix p st).1 ∧ Mir (q.go fix p st).2 (q.tn.go fix p st').2 := by
  cases q with
  | set x e =>
    obtain ⟨q1, q2⟩ := Ex.ev_mir fix p h.2 m
    refine ⟨rfl, ⟨fun y => ?_, q2.said, q2.made⟩⟩
    show setE (e.tn.ev fix p st').2.env x (some (e.tn.ev fix p st').1) y = (setE (e.ev fix p st).2.env x (some (e.ev fix p st).1) y).map Sv.neg
    unfold setE
    split
    · rw [q1]
      rfl
    · exact q2.env y
  | unset x =>
    refine ⟨rfl, ⟨fun y => ?_, m.said, m.made⟩⟩
    show setE st'.env x none y = (setE st.env x none y).map Sv.neg
    unfold setE
    split
    · rfl
    · exact m.env y
  | tell e =>
    obtain ⟨q1, q2⟩ := Ex.ev_mir fix p (n := 3) h m
    refine ⟨rfl, ⟨q2.env, ?_, q2.made⟩⟩
    show (e.tn.ev fix p st').2.said ++ [Sum.inr (e.tn.ev fix p st').1] = ((e.ev fix p st).2.said ++ [Sum.inr (e.ev fix p st).1]).map negT
    rw [q1, q2.said, List.map_append]
    rfl
  | say w =>
    refine ⟨rfl, ⟨m.env, ?_, m.made⟩⟩
    show st'.said ++ [Sum.inl w] = (st.said ++ [Sum.inl w]).map negT
    rw [m.said, List.map_append]
    rfl
  | stop w => exact ⟨rfl, m⟩
theorem iterS_mir {f f' : Rs → Option Str × Rs} {w : Nat} (hf : ∀ (st : Rs) (b L : Nat), st.ok b L → 7 ≤ b → (f st).2.ok (b + 12 * w) (L + w))
    (hm : ∀ (st st' : Rs) (b L : Nat), st.ok b L → 7 ≤ b → Mir st st' → (f' st').1 = (f st).1 ∧ Mir (f st).2 (f' st').2) :
    ∀ (k : Nat) (st st' : Rs) (b L : Nat), st.ok b L → 7 ≤ b → Mir st st' → (iterS f' k st').1 = (iterS f k st).1 ∧ Mir (iterS f k st).2 (iterS f' k st').2
  | 0, st, st', b, L, h, hb, m => ⟨rfl, m⟩
  | k + 1, st, st', b, L, h, hb, m => by
    have q := hf st b L h hb
    obtain ⟨z1, z2⟩ := hm st st' b L h hb m
    rw [iterS, iterS]
    cases e : f st with
    | mk o s1 =>
      cases e' : f' st' with
      | mk o' s1' =>
        rw [e, e'] at z1 z2
        rw [e] at q
        dsimp only at z1 z2
        subst z1
        cases o' with
        | some x => exact ⟨rfl, z2⟩
        | none => exact iterS_mir hf hm k s1 s1' _ _ q (by omega) z2
theorem Sm.goL_mir (fix : List Int) : ∀ (n : Nat) (bl : List Sm) (p : Int) (st st' : Rs) (b L : Nat), VdB n bl → st.ok b L → 7 ≤ b → Mir st st' →
    (Sm.goL fix p (Sm.mirs bl) st').1 = (Sm.goL fix p bl st).1 ∧ Mir (Sm.goL fix p bl st).2 (Sm.goL fix p (Sm.mirs bl) st').2 := by
  intro n
  induction n with
  | zero =>
    intro bl p st st' b L h hs hb m
    have h : bl = [] := h
    subst h
    rw [Sm.mirs, Sm.goL, Sm.goL]
    exact ⟨rfl, m⟩
  | succ n ih =>
    intro bl
    induction bl with
    | nil =>
      intro p st st' b L h hs hb m
      rw [Sm.mirs, Sm.goL, Sm.goL]
      exact ⟨rfl, m⟩
    | cons s r ihr =>
      intro p st st' b L h hs hb m
      have hv := h s (List.mem_cons_self ..)
      have hp := hv.parts
      have hok := Sm.go_ok fix p hv hs hb
      have h1 : (Sm.go fix p s.mir st').1 = (Sm.go fix p s st).1 ∧ Mir (Sm.go fix p s st).2 (Sm.go fix p s.mir st').2 := by
        cases s with
        | pl q =>
          have q' : q.vd := by cases n <;> exact hv
          rw [Sm.mir, Sm.go, Sm.go]
          exact Pl.go_mir fix p q' m
        | ifs t y z =>
          have ht : t.vd 2 := by cases n <;> exact hv.1
          have mo := Ts.tr_ok fix p ht hs.env hb
          have hs' := hs.more mo (Nat.le_refl _)
          obtain ⟨z1, z2⟩ := Ts.tr_mir fix p ht hs.env hb m
          rw [Sm.mir, Sm.go, Sm.go]
          cases e : t.tr fix p st with
          | mk o s1 =>
            cases e' : t.tn.tr fix p st' with
            | mk o' s1' =>
              rw [e, e'] at z1 z2
              rw [e] at hs'
              dsimp only at z1 z2
              subst z1
              match o' with
              | none => exact ⟨rfl, z2⟩
              | some true => exact ih y (p + 1) s1 s1' b (L + 1) (hp y (by simp [Sm.parts])) hs' hb z2
              | some false =>
                dsimp only
                rw [Sm.mirs_sizes]
                exact ih z _ s1 s1' b (L + 1) (hp z (by simp [Sm.parts])) hs' hb z2
        | rep k bb =>
          rw [Sm.mir, Sm.go, Sm.go]
          exact iterS_mir (fun st b L h hb => Sm.goL_ok fix n bb (p + 1) st b L (hp bb (by simp [Sm.parts])) h hb) (fun st st' b L h hb m => ih bb (p + 1) st st' b L (hp bb (by simp [Sm.parts])) h hb m) k.toNat st st' b L hs hb m
      rw [Sm.mirs, Sm.goL, Sm.goL]
      obtain ⟨z1, z2⟩ := h1
      cases e : Sm.go fix p s st with
      | mk o s1 =>
        cases e' : Sm.go fix p s.mir st' with
        | mk o' s1' =>
          rw [e, e'] at z1 z2
          rw [e] at hok
          dsimp only at z1 z2
          subst z1
          cases o' with
          | some w => exact ⟨rfl, z2⟩
          | none =>
            dsimp only
            rw [Sm.mir_size]
            exact ihr _ s1 s1' _ _ (fun z hz => h z (List.mem_cons_of_mem _ hz)) hok (by omega) z2
theorem runR_mir {fix : List Int} {n : Int} {bl : List Sm} (hv : VdB 4 bl) (hn : n.natAbs < 2 ^ 200) : (runR fix (0 - n) (Sm.mirs bl)).1 = (runR fix n bl).1 ∧ Mir (runR fix n bl).2 (runR fix (0 - n) (Sm.mirs bl)).2 := by
  refine Sm.goL_mir fix 4 bl 0 (st0 n) (st0 (0 - n)) 200 1 hv (st0_ok hn) (by omega) ⟨fun x => ?_, rfl, rfl⟩
  unfold st0
  dsimp only
  split <;> rfl
theorem toldI_neg : ∀ (ms rs : List Int) (n : Int), toldI (0 - n) ms (rs.map fun r => 0 - r) = 0 - toldI n ms rs
  | [], rs, n => by cases rs <;> rfl
  | m :: ms, [], n => rfl
  | m :: ms, r :: rs, n => by
    rw [List.map_cons, toldI, toldI, ← toldI_neg ms rs (n + m * r)]
    congr 1
    rw [Int.mul_sub, Int.mul_zero]
    omega
/-- what the law turns -/
def smT (n : Int) (bl : List Sm) : PyData :=
  .tuple [.tuple ((runR [] n bl).2.said.map fun t => itD (runR [] n bl).2.made.length (negT t)), wdD (runR [] n bl).1, .int ((runR [] n bl).2.made.length : Nat)]
theorem smT_eq {n : Int} {bl : List Sm} (hv : VdB 4 bl) (hn : n.natAbs < 2 ^ 200) : smD [] (0 - n) (Sm.mirs bl) = smT n bl := by
  obtain ⟨h1, h2⟩ := runR_mir (fix := []) hv hn
  unfold smD smT
  rw [h1, h2.said, h2.made, List.map_map]
  rfl
def ngD (rs : List Int) (m : Nat) : Str ⊕ Sv → PyData
  | .inl w => .str w
  | .inr s => .int (0 - toldI s.n (mulI s m) rs)
def rnT (n : Int) (bl : List Sm) (rs : List Int) : PyData :=
  .tuple [.tuple ((runR [] n bl).2.said.map (ngD rs (runR [] n bl).2.made.length)), wdD (runR [] n bl).1, .int ((runR [] n bl).2.made.length : Nat)]
theorem rnT_eq {n : Int} {bl : List Sm} {rs : List Int} (hv : VdB 4 bl) (hn : n.natAbs < 2 ^ 200) : rnD [] (0 - n) (Sm.mirs bl) (rs.map fun r => 0 - r) = rnT n bl rs := by
  obtain ⟨h1, h2⟩ := runR_mir (fix := []) hv hn
  unfold rnD rnT
  rw [h1, h2.said, h2.made, List.map_map]
  congr 3
  refine List.map_congr_left fun t _ => ?_
  cases t with
  | inl w => rfl
  | inr s =>
    show PyData.int (toldI (0 - s.n) (mulI s _) (rs.map fun r => 0 - r)) = _
    rw [toldI_neg]
    rfl
/-! ### promises -/
def spTn (K : PySem.W.Frag) (n : Nat) : Sp := fun vs H Q _ => ∃ (v : V) (e : Ex), vs = [v] ∧ Dt K H v e.d ∧ e.vd n ∧ ∀ (H' : Hp) (z : V), Kp [] H H' → Dt K H' z e.tn.d → Q z H'
def spTnT (K : PySem.W.Frag) (n : Nat) : Sp := fun vs H Q _ => ∃ (v : V) (t : Ts), vs = [v] ∧ Dt K H v t.d ∧ t.vd n ∧ ∀ (H' : Hp) (z : V), Kp [] H H' → Dt K H' z t.tn.d → Q z H'
def spMir (K : PySem.W.Frag) (n : Nat) : Sp := fun vs H Q _ => ∃ (v : V) (b : List Sm), vs = [v] ∧ Dt K H v (.tuple (Sm.ds b)) ∧ VdB n b ∧ Sm.sizes b ≤ 10000 ∧ ∀ (H' : Hp) (z : V), Kp [] H H' → Dt K H' z (.tuple (Sm.ds (Sm.mirs b))) → Q z H'
def spSumT (K : PySem.W.Frag) : Sp := fun vs H Q _ => ∃ (v : V) (n : Int) (bl : List Sm), vs = [v] ∧ Dt K H v (smD [] n bl) ∧ VdB 4 bl ∧ n.natAbs < 2 ^ 200 ∧ Sm.wts bl ≤ 30 ∧ ∀ (H' : Hp) (z : V), Kp [] H H' → Dt K H' z (smT n bl) → Q z H'
def spRunT (K : PySem.W.Frag) : Sp := fun vs H Q _ => ∃ (v : V) (n : Int) (rs : List Int) (bl : List Sm), vs = [v] ∧ Dt K H v (rnD [] n bl rs) ∧ VdB 4 bl ∧ n.natAbs < 2 ^ 200 ∧ Sm.wts bl ≤ 30 ∧ ∀ (H' : Hp) (z : V), Kp [] H H' → Dt K H' z (rnT n bl rs) → Q z H'
end Aw

/-! zip of four lists of one length; a chain of four comparings -/
namespace Aw
open PySem PySem.Spec PyProof.Rows L2

local macro_rules | `(tactic| walk_at "na") => `(tactic| first | omega | (show @Ne Nat _ _; omega))
/-- a tuple of four -/
abbrev Is4 (h : Heap) (T : Addr) (a b c d : Value) : Prop := h.get? T = some { cls := .type "tuple", data := .seq #[a, b, c, d] }
theorem z4_type (a b c d : Value) : checkTypeCall "zip" ⟨[a, b, c, d], []⟩ = pure () := by kernel_rfl
theorem z4_new (a b c d : Value) : checkBuiltinCall "zip.__new__" ⟨[.type "zip", a, b, c, d], []⟩ = pure () := by kernel_rfl
theorem z4_init (o a b c d : Value) : argsOk "object.__init__" ⟨[o, a, b, c, d], []⟩ := by
  unfold argsOk
  rw [signature?_of (id := "object.__init__") (n := ['_', '_', 't', 'i', 'n', 'i', '_', '_']) (o := ['t', 'c', 'e', 'j', 'b', 'o']) (by kernel_rfl) PySem.F.owner_object] <;> kernel_rfl
section
variable {prog : Program} {w : World} {A : Around} {E : Value → Shared → Prop} {s : Shared}
theorem up4 {T : Addr} {a b c d x : Value} {k : Nat} {Q : Unit → Shared → Prop} (hT : Is4 s.heap T a b c d)
    (h : ∀ h', h'.get? T = some { cls := .type "tuple", data := .seq ((#[a, b, c, d] : Array Value).setIfInBounds k x) } → Heap.SameBut T s.heap h' → Q () { s with heap := h' }) :
    wpAny (model prog w) A (updateSeq T (·.setIfInBounds k x)) Q E s := by
  refine wpAny_updateSeq hT rfl (h _ ?_ (Heap.SameBut.update ..))
  rw [Heap.get?_update_self _ hT rfl] <;> simp [Obj.mapSeq]
/-- what stands at a turn: the iterators at n .. n + 3, their tuple, the own tuple, the zip -/
structure Z4 (h : Heap) (n l1 l2 l3 l4 : Nat) (k : Nat) (f0 : Value) : Prop where
  z : IsZip h (n + 6) (n + 4) (n + 5) f0
  ti : Is4 h (n + 4) (.ref n) (.ref (n + 1)) (.ref (n + 2)) (.ref (n + 3))
  to : ∃ a b c d, Is4 h (n + 5) a b c d
  i1 : h.IsListIter n l1 k
  i2 : h.IsListIter (n + 1) l2 k
  i3 : h.IsListIter (n + 2) l3 k
  i4 : h.IsListIter (n + 3) l4 k
theorem z4_item {n l1 l2 l3 l4 : Nat} {k : Nat} {xs1 xs2 xs3 xs4 : Array Value} {y1 y2 y3 y4 : Value} {Q : Value → Shared → Prop} (D : Z4 s.heap n l1 l2 l3 l4 k .none) (b1 : l1 < n) (b2 : l2 < n) (b3 : l3 < n) (b4 : l4 < n)
    (q1 : s.heap.IsList l1 xs1) (q2 : s.heap.IsList l2 xs2) (q3 : s.heap.IsList l3 xs3) (q4 : s.heap.IsList l4 xs4) (e1 : xs1[k]? = some y1) (e2 : xs2[k]? = some y2) (e3 : xs3[k]? = some y3) (e4 : xs4[k]? = some y4)
    (hQ : ∀ h', Z4 h' n l1 l2 l3 l4 (k + 1) (rawInt s.heap.objs.size) → Is4 h' s.heap.objs.size y1 y2 y3 y4 → (∀ c o, (c < n ∨ n + 6 < c) → s.heap.get? c = some o → h'.get? c = some o) → Q (.ref s.heap.objs.size) { s with heap := h' }) :
    wpAny (model prog w) A (Builtin.«zip.__next__» ⟨[.ref (n + 6)], []⟩) (fun fin s' => ∃ v, fin = .done (.ret v) ∧ Q v s') E s := by
  obtain ⟨hz, hTI, ⟨a, b, c, d, hTO⟩, h1, h2, h3, h4⟩ := D
  show wpAny _ _ (field (.ref (n + 6)) 2 >>= _) _ _ _
  refine wpAny_bind (wpAny_field hz rfl (x := .bool false) rfl ?_) ; show wpAny _ _ (field (.ref (n + 6)) 3 >>= _) _ _ _
  refine wpAny_bind (wpAny_field hz rfl (x := .ref (n + 4)) rfl (wpAny_bind (wpAny_seqItems hTI rfl ?_)))
  show wpAny _ _ (Builtin.SmallTypes.ownedTupleIsFree (.ref (n + 6)) >>= _) _ _ _
  refine wpAny_bind ?_ ; unfold Builtin.SmallTypes.ownedTupleIsFree
  refine wpAny_bind (wpAny_field hz rfl (x := .none) rfl (wpAny_pure ?_)) ; simp only [if_true]
  refine wpAny_bind (wpAny_rule (wpAny_bind (wpAny_field hz rfl (x := .ref (n + 5)) rfl ?_)))
  refine wpAny_bind (wpAny_setField_rec hz (by simp) fun g0 hz0 s0 => ?_) ; replace hz0 : IsZip g0 (n + 6) (n + 4) (n + 5) .ellipsis := hz0
  refine wpAny_bind ?_ ; simp only [List.zipIdx_cons, List.zipIdx_nil, List.forIn_cons, List.forIn_nil]
  refine wpAny_bind (wpAny_bind (wpAny_onRaise ?_)) ; show wpAny _ _ (Builtin.SmallTypes.nextOf (.ref n) >>= _) _ _ _
  refine wpAny_bind (wpAny_nextOf_list_item (h1.extBut s0.extBut (by walk_at "na")) (q1.extBut s0.extBut (by walk_at "na")) e1 fun g1 j1 s1 => wpAny_pure ?_)
  have o1 : Is4 g1 (n + 5) a b c d := s1.extBut _ _ (by walk_at "na") (s0.extBut _ _ (by walk_at "na") hTO)
  refine wpAny_bind (wpAny_seqItems o1 rfl (wpAny_bind (up4 o1 fun g2 o2 s2 => ?_))) ; replace o2 : Is4 g2 (n + 5) y1 b c d := o2
  refine wpAny_bind (wpAny_letGo (wpAny_pure (wpAny_bind (wpAny_bind (wpAny_onRaise ?_))))) ; show wpAny _ _ (Builtin.SmallTypes.nextOf (.ref (n + 1)) >>= _) _ _ _
  refine wpAny_bind (wpAny_nextOf_list_item (((h2.extBut s0.extBut (by walk_at "na")).extBut s1.extBut (by walk_at "na")).extBut s2.extBut (by walk_at "na")) (((q2.extBut s0.extBut (by walk_at "na")).extBut s1.extBut (by walk_at "na")).extBut s2.extBut (by walk_at "na")) e2 fun g3 j2 s3 => wpAny_pure ?_)
  have o3 : Is4 g3 (n + 5) y1 b c d := s3.extBut _ _ (by walk_at "na") o2
  refine wpAny_bind (wpAny_seqItems o3 rfl (wpAny_bind (up4 o3 fun g4 o4 s4 => ?_))) ; replace o4 : Is4 g4 (n + 5) y1 y2 c d := o4
  refine wpAny_bind (wpAny_letGo (wpAny_pure (wpAny_bind (wpAny_bind (wpAny_onRaise ?_))))) ; show wpAny _ _ (Builtin.SmallTypes.nextOf (.ref (n + 2)) >>= _) _ _ _
  refine wpAny_bind (wpAny_nextOf_list_item (((((h3.extBut s0.extBut (by walk_at "na")).extBut s1.extBut (by walk_at "na")).extBut s2.extBut (by walk_at "na")).extBut s3.extBut (by walk_at "na")).extBut s4.extBut (by walk_at "na")) (((((q3.extBut s0.extBut (by walk_at "na")).extBut s1.extBut (by walk_at "na")).extBut s2.extBut (by walk_at "na")).extBut s3.extBut (by walk_at "na")).extBut s4.extBut (by walk_at "na")) e3 fun g5 j3 s5 => wpAny_pure ?_)
  have o5 : Is4 g5 (n + 5) y1 y2 c d := s5.extBut _ _ (by walk_at "na") o4
  refine wpAny_bind (wpAny_seqItems o5 rfl (wpAny_bind (up4 o5 fun g6 o6 s6 => ?_))) ; replace o6 : Is4 g6 (n + 5) y1 y2 y3 d := o6
  refine wpAny_bind (wpAny_letGo (wpAny_pure (wpAny_bind (wpAny_bind (wpAny_onRaise ?_))))) ; show wpAny _ _ (Builtin.SmallTypes.nextOf (.ref (n + 3)) >>= _) _ _ _
  refine wpAny_bind (wpAny_nextOf_list_item (((((((h4.extBut s0.extBut (by walk_at "na")).extBut s1.extBut (by walk_at "na")).extBut s2.extBut (by walk_at "na")).extBut s3.extBut (by walk_at "na")).extBut s4.extBut (by walk_at "na")).extBut s5.extBut (by walk_at "na")).extBut s6.extBut (by walk_at "na")) (((((((q4.extBut s0.extBut (by walk_at "na")).extBut s1.extBut (by walk_at "na")).extBut s2.extBut (by walk_at "na")).extBut s3.extBut (by walk_at "na")).extBut s4.extBut (by walk_at "na")).extBut s5.extBut (by walk_at "na")).extBut s6.extBut (by walk_at "na")) e4 fun g7 j4 s7 => wpAny_pure ?_)
  have o7 : Is4 g7 (n + 5) y1 y2 y3 d := s7.extBut _ _ (by walk_at "na") o6
  refine wpAny_bind (wpAny_seqItems o7 rfl (wpAny_bind (up4 o7 fun g8 o8 s8 => ?_))) ; replace o8 : Is4 g8 (n + 5) y1 y2 y3 y4 := o8
  refine wpAny_bind (wpAny_letGo (wpAny_pure (wpAny_pure (wpAny_bind (wpAny_seqItems o8 rfl (wpAny_bind (wpAny_newTuple ?_)))))))
  have sz : g8.objs.size = s.heap.objs.size := by rw [s8.1, s7.1, s6.1, s5.1, s4.1, s3.1, s2.1, s1.1, s0.1]
  have kp : ∀ c o, c ≠ n → c ≠ n + 1 → c ≠ n + 2 → c ≠ n + 3 → c ≠ n + 5 → g0.get? c = some o → g8.get? c = some o := fun c o n0 n1 n2 n3 n5 e =>
    s8.extBut _ _ n5 (s7.extBut _ _ n3 (s6.extBut _ _ n5 (s5.extBut _ _ n2 (s4.extBut _ _ n5 (s3.extBut _ _ n1 (s2.extBut _ _ n5 (s1.extBut _ _ n0 e)))))))
  have hz8 : IsZip g8 (n + 6) (n + 4) (n + 5) .ellipsis := kp _ _ (by walk_at "na") (by walk_at "na") (by walk_at "na") (by walk_at "na") (by walk_at "na") hz0
  have lz : n + 6 < g8.objs.size := Heap.lt_size hz8
  show wpAny _ _ (Builtin.SmallTypes.ownedTupleHandOut (.ref (n + 6)) (.ref g8.objs.size) >>= _) _ _ _
  refine wpAny_bind ?_ ; unfold Builtin.SmallTypes.ownedTupleHandOut
  have hz9 : IsZip (g8.push { cls := .type "tuple", data := .seq #[y1, y2, y3, y4] }) (n + 6) (n + 4) (n + 5) .ellipsis := Heap.get?_push_of_some _ hz8
  refine wpAny_bind (wpAny_setField_rec hz9 (by simp) fun ga hza sa => ?_) ; replace hza : IsZip ga (n + 6) (n + 4) (n + 5) (rawInt g8.objs.size) := hza
  refine wpAny_setField_rec hza (by simp) fun gb hzb sb => ?_ ; replace hzb : IsZip gb (n + 6) (n + 4) (n + 5) (rawInt g8.objs.size) := hzb
  have up : ∀ c o, c ≠ n + 6 → g8.get? c = some o → gb.get? c = some o := fun c o c1 e => sb.extBut _ _ c1 (sa.extBut _ _ c1 (Heap.get?_push_of_some _ e))
  have hT : Is4 gb g8.objs.size y1 y2 y3 y4 := sb.extBut _ _ (by walk_at "na") (sa.extBut _ _ (by walk_at "na") (Heap.get?_push_size _ rfl))
  rw [sz] at hzb hT
  refine wpAny_pure ⟨_, rfl, ?_⟩ ; show Q (.ref g8.objs.size) _
  rw [sz]
  refine hQ gb ⟨hzb, up _ _ (by walk_at "na") (kp _ _ (by walk_at "na") (by walk_at "na") (by walk_at "na") (by walk_at "na") (by walk_at "na") (s0.extBut _ _ (by walk_at "na") hTI)), ⟨_, _, _, _, up _ _ (by walk_at "na") o8⟩, ?_, ?_, ?_, ?_⟩ hT fun c o hc e => ?_
  · exact (((((((j1.extBut s2.extBut (by walk_at "na")).extBut s3.extBut (by walk_at "na")).extBut s4.extBut (by walk_at "na")).extBut s5.extBut (by walk_at "na")).extBut s6.extBut (by walk_at "na")).extBut s7.extBut (by walk_at "na")).extBut s8.extBut (by walk_at "na")).at fun o e => up _ o (by walk_at "na") e
  · exact (((((j2.extBut s4.extBut (by walk_at "na")).extBut s5.extBut (by walk_at "na")).extBut s6.extBut (by walk_at "na")).extBut s7.extBut (by walk_at "na")).extBut s8.extBut (by walk_at "na")).at fun o e => up _ o (by walk_at "na") e
  · exact (((j3.extBut s6.extBut (by walk_at "na")).extBut s7.extBut (by walk_at "na")).extBut s8.extBut (by walk_at "na")).at fun o e => up _ o (by walk_at "na") e
  · exact (j4.extBut s8.extBut (by walk_at "na")).at fun o e => up _ o (by walk_at "na") e
  · exact up c o (by walk_at "na") (kp c o (by walk_at "na") (by walk_at "na") (by walk_at "na") (by walk_at "na") (by walk_at "na") (s0.extBut _ _ (by walk_at "na") e))
/-- the first list ends the walk -/
theorem z4_end {n l1 l2 l3 l4 : Nat} {k : Nat} {xs1 : Array Value} {Q : Fin → Shared → Prop} (hh : A.handled = none) (D : Z4 s.heap n l1 l2 l3 l4 k .none) (b1 : l1 < n) (q1 : s.heap.IsList l1 xs1) (e1 : xs1[k]? = none)
    (hE : ∀ h' e, (∀ c o, (c < n ∨ n + 6 < c) → s.heap.get? c = some o → h'.get? c = some o) → (∃ o, h'.get? e = some o ∧ o.cls = .type "StopIteration") → E (.ref e) { s with heap := h' }) :
    wpAny (model prog w) A (Builtin.«zip.__next__» ⟨[.ref (n + 6)], []⟩) Q E s := by
  obtain ⟨hz, hTI, ⟨a, b, c, d, hTO⟩, h1, h2, h3, h4⟩ := D
  show wpAny _ _ (field (.ref (n + 6)) 2 >>= _) _ _ _
  refine wpAny_bind (wpAny_field hz rfl (x := .bool false) rfl ?_) ; show wpAny _ _ (field (.ref (n + 6)) 3 >>= _) _ _ _
  refine wpAny_bind (wpAny_field hz rfl (x := .ref (n + 4)) rfl (wpAny_bind (wpAny_seqItems hTI rfl ?_)))
  show wpAny _ _ (Builtin.SmallTypes.ownedTupleIsFree (.ref (n + 6)) >>= _) _ _ _
  refine wpAny_bind ?_ ; unfold Builtin.SmallTypes.ownedTupleIsFree
  refine wpAny_bind (wpAny_field hz rfl (x := .none) rfl (wpAny_pure ?_)) ; simp only [if_true]
  refine wpAny_bind (wpAny_rule (wpAny_bind (wpAny_field hz rfl (x := .ref (n + 5)) rfl ?_)))
  refine wpAny_bind (wpAny_setField_rec hz (by simp) fun g0 hz0 s0 => ?_) ; replace hz0 : IsZip g0 (n + 6) (n + 4) (n + 5) .ellipsis := hz0
  refine wpAny_bind ?_ ; simp only [List.zipIdx_cons, List.zipIdx_nil, List.forIn_cons, List.forIn_nil]
  refine wpAny_bind (wpAny_bind (wpAny_onRaise ?_)) ; show wpAny _ _ (Builtin.SmallTypes.nextOf (.ref n) >>= _) _ _ _
  refine wpAny_bind (wpAny_nextOf_list_end hh (h1.extBut s0.extBut (by walk_at "na")) (q1.extBut s0.extBut (by walk_at "na")) e1 fun g1 e s1 he => ?_)
  obtain ⟨oe, hoe, hce⟩ := he
  have hz1 : IsZip g1 (n + 6) (n + 4) (n + 5) .ellipsis := s1 _ _ (by walk_at "na") hz0
  have hez : e ≠ n + 6 := fun x => by subst x; rw [hz1] at hoe; cases hoe; simp at hce
  exact wpAny_setField_rec hz1 (by simp) fun g2 _ s2 => hE g2 e (fun c o hc x => s2.extBut _ _ (by walk_at "na") (s1 _ _ (by walk_at "na") (s0.extBut _ _ (by walk_at "na") x))) ⟨oe, s2.extBut _ _ hez hoe, hce⟩
theorem z4_next {n l1 l2 l3 l4 : Nat} {k : Nat} {xs1 xs2 xs3 xs4 : Array Value} {y1 y2 y3 y4 : Value} {Q : Option Value → Shared → Prop} (D : Z4 s.heap n l1 l2 l3 l4 k .none) (b1 : l1 < n) (b2 : l2 < n) (b3 : l3 < n) (b4 : l4 < n)
    (q1 : s.heap.IsList l1 xs1) (q2 : s.heap.IsList l2 xs2) (q3 : s.heap.IsList l3 xs3) (q4 : s.heap.IsList l4 xs4) (e1 : xs1[k]? = some y1) (e2 : xs2[k]? = some y2) (e3 : xs3[k]? = some y3) (e4 : xs4[k]? = some y4)
    (hQ : ∀ h', Z4 h' n l1 l2 l3 l4 (k + 1) (rawInt s.heap.objs.size) → Is4 h' s.heap.objs.size y1 y2 y3 y4 → (∀ c o, (c < n ∨ n + 6 < c) → s.heap.get? c = some o → h'.get? c = some o) → Q (some (.ref s.heap.objs.size)) { s with heap := h' }) :
    wpAny (model prog w) A (pyNext (.ref (n + 6))) Q E s := by
  have hT : s.TypeIs (.ref (n + 6)) "zip" := ⟨_, D.z, rfl⟩
  unfold pyNext
  exact wpAny_bind (wpAny_attempt (wpAny_callSpecial?_slot (name := Str.ofString "__next__") hT F.slot_zip_next (wpAny_call_entry F.slot_zip_next hT F.entry_zip_next
      (z4_item D b1 b2 b3 b4 q1 q2 q3 q4 e1 e2 e3 e4 fun h' a1 a2 a3 => wpAny_pure (hQ h' a1 a2 a3)) (F.args_zip_next_1 _))))
theorem z4_last {n l1 l2 l3 l4 : Nat} {k : Nat} {xs1 : Array Value} {Q : Option Value → Shared → Prop} (hh : A.handled = none) (D : Z4 s.heap n l1 l2 l3 l4 k .none) (b1 : l1 < n) (q1 : s.heap.IsList l1 xs1) (e1 : xs1[k]? = none)
    (hQ : ∀ h', (∀ c o, (c < n ∨ n + 6 < c) → s.heap.get? c = some o → h'.get? c = some o) → Q none { s with heap := h' }) : wpAny (model prog w) A (pyNext (.ref (n + 6))) Q E s := by
  have hT : s.TypeIs (.ref (n + 6)) "zip" := ⟨_, D.z, rfl⟩
  unfold pyNext
  refine wpAny_bind (wpAny_attempt (wpAny_callSpecial?_slot (name := Str.ofString "__next__") hT F.slot_zip_next (wpAny_call_entry F.slot_zip_next hT F.entry_zip_next (z4_end hh D b1 q1 e1 fun h' e hk he => ?_) (F.args_zip_next_1 _))))
  obtain ⟨o, ho, hc⟩ := he
  exact wpAny_bind (wpAny_isInstance (T := "StopIteration") (b := true) ⟨o, ho, hc⟩ isSubtype_stop (wpAny_pure (hQ _ hk)))
end
/-- zip(l1, l2, l3, l4): the new objects, one after the other -/
abbrev z4O (l : Nat) : Obj := { cls := .type "list_iterator", data := .fields #[.ref l, .int 0 0] }
abbrev zA (h : Heap) (l1 : Nat) : Heap := h.push (z4O l1)
abbrev zB (h : Heap) (l1 l2 : Nat) : Heap := (zA h l1).push (z4O l2)
abbrev zC (h : Heap) (l1 l2 l3 : Nat) : Heap := (zB h l1 l2).push (z4O l3)
abbrev zD (h : Heap) (l1 l2 l3 l4 : Nat) : Heap := (zC h l1 l2 l3).push (z4O l4)
abbrev zE (h : Heap) (l1 l2 l3 l4 : Nat) : Heap := (zD h l1 l2 l3 l4).push { cls := .type "tuple", data := .seq #[.ref h.objs.size, .ref (zA h l1).objs.size, .ref (zB h l1 l2).objs.size, .ref (zC h l1 l2 l3).objs.size] }
abbrev zF (h : Heap) (l1 l2 l3 l4 : Nat) : Heap := (zE h l1 l2 l3 l4).push { cls := .type "tuple", data := .seq #[.none, .none, .none, .none] }
abbrev z4H (h : Heap) (l1 l2 l3 l4 : Nat) : Heap := (zF h l1 l2 l3 l4).push { cls := .type "zip", data := .fields #[.none, .bool false, .bool false, .ref (zD h l1 l2 l3 l4).objs.size, .ref (zE h l1 l2 l3 l4).objs.size] }
theorem z4_meets (l1 l2 l3 l4 : Nat) (xs1 xs2 xs3 xs4 : Array Value) :
    Meets (Builtin.«zip.__new__» ⟨[.type "zip", .ref l1, .ref l2, .ref l3, .ref l4], []⟩) (fun _ R s => s.heap.IsList l1 xs1 ∧ s.heap.IsList l2 xs2 ∧ s.heap.IsList l3 xs3 ∧ s.heap.IsList l4 xs4 ∧
      R (.ok (.ret (.ref (zF s.heap l1 l2 l3 l4).objs.size))) { s with heap := z4H s.heap l1 l2 l3 l4 }) :=
  .of_wp fun prog w A R s h => by
    obtain ⟨hp, g, d, tk, os⟩ := s
    obtain ⟨k1, k2, k3, k4, h⟩ := h
    have hsub := sub_zip
    have e1 : Heap.IsList (Shared.heap ⟨hp, g, d, tk, os⟩) l1 xs1 := k1
    have e2 : Heap.IsList (Shared.heap ⟨hp.push (z4O l1), g, d, tk, os⟩) l2 xs2 := Heap.IsList.push k2 _
    have e3 : Heap.IsList (Shared.heap ⟨(hp.push (z4O l1)).push (z4O l2), g, d, tk, os⟩) l3 xs3 := Heap.IsList.push (Heap.IsList.push k3 _) _
    have e4 : Heap.IsList (Shared.heap ⟨((hp.push (z4O l1)).push (z4O l2)).push (z4O l3), g, d, tk, os⟩) l4 xs4 := Heap.IsList.push (Heap.IsList.push (Heap.IsList.push k4 _) _) _
    wp_walk using wpAny_pyIter_list e1, wpAny_pyIter_list e2, wpAny_pyIter_list e3, wpAny_pyIter_list e4
    exact ⟨_, rfl, h⟩
section
variable {prog : Program} {w : World} {A : Around} {E : Value → Shared → Prop} {s : Shared}
theorem z4_call {l1 l2 l3 l4 : Nat} {xs1 xs2 xs3 xs4 : Array Value} {Q : Value → Shared → Prop} (q1 : s.heap.IsList l1 xs1) (q2 : s.heap.IsList l2 xs2) (q3 : s.heap.IsList l3 xs3) (q4 : s.heap.IsList l4 xs4)
    (h : ∀ h', Z4 h' s.heap.objs.size l1 l2 l3 l4 0 .none → (∀ c o, s.heap.get? c = some o → h'.get? c = some o) → Q (.ref (s.heap.objs.size + 6)) { s with heap := h' }) :
    wpAny (model prog w) A (call (.type "zip") [.ref l1, .ref l2, .ref l3, .ref l4]) Q E s := by
  refine callType_new F.called_zip (by decide) (z4_type _ _ _ _) (z4_new _ _ _ _) (fun obj => z4_init obj _ _ _ _) F.entry_zip_new (z4_meets l1 l2 l3 l4 xs1 xs2 xs3 xs4) ⟨q1, q2, q3, q4, ?_⟩
  have za : (zA s.heap l1).objs.size = s.heap.objs.size + 1 := Heap.size_push ..
  have zb : (zB s.heap l1 l2).objs.size = s.heap.objs.size + 2 := by rw [Heap.size_push, za]
  have zc : (zC s.heap l1 l2 l3).objs.size = s.heap.objs.size + 3 := by rw [Heap.size_push, zb]
  have zd : (zD s.heap l1 l2 l3 l4).objs.size = s.heap.objs.size + 4 := by rw [Heap.size_push, zc]
  have ze : (zE s.heap l1 l2 l3 l4).objs.size = s.heap.objs.size + 5 := by rw [Heap.size_push, zd]
  have zf : (zF s.heap l1 l2 l3 l4).objs.size = s.heap.objs.size + 6 := by rw [Heap.size_push, ze]
  have P : ∀ {h : Heap} {c : Addr} {o o' : Obj}, h.get? c = some o → (h.push o').get? c = some o := fun e => Heap.get?_push_of_some _ e
  have g7 : (z4H s.heap l1 l2 l3 l4).get? (zF s.heap l1 l2 l3 l4).objs.size = some _ := Heap.get?_push_size _ rfl
  have g6 : (z4H s.heap l1 l2 l3 l4).get? (zE s.heap l1 l2 l3 l4).objs.size = some _ := P (Heap.get?_push_size _ rfl)
  have g5 : (z4H s.heap l1 l2 l3 l4).get? (zD s.heap l1 l2 l3 l4).objs.size = some _ := P (P (Heap.get?_push_size _ rfl))
  have g4 : (z4H s.heap l1 l2 l3 l4).get? (zC s.heap l1 l2 l3).objs.size = some _ := P (P (P (Heap.get?_push_size _ rfl)))
  have g3 : (z4H s.heap l1 l2 l3 l4).get? (zB s.heap l1 l2).objs.size = some _ := P (P (P (P (Heap.get?_push_size _ rfl))))
  have g2 : (z4H s.heap l1 l2 l3 l4).get? (zA s.heap l1).objs.size = some _ := P (P (P (P (P (Heap.get?_push_size _ rfl)))))
  have g1 : (z4H s.heap l1 l2 l3 l4).get? s.heap.objs.size = some _ := P (P (P (P (P (P (Heap.get?_push_size _ rfl))))))
  show _ ∧ _
  rw [zf, zd, ze] at g7
  rw [ze] at g6
  rw [zd, za, zb, zc] at g5
  rw [zc] at g4
  rw [zb] at g3
  rw [za] at g2
  rw [zf]
  exact ⟨⟨_, g7, rfl⟩, h _ ⟨g7, g5, ⟨_, _, _, _, g6⟩, ⟨_, g1, rfl, rfl⟩, ⟨_, g2, rfl, rfl⟩, ⟨_, g3, rfl, rfl⟩, ⟨_, g4, rfl, rfl⟩⟩ fun c o x => P (P (P (P (P (P (P x))))))⟩
end
end Aw

/-! zip of four lists as a walk -/
namespace Aw
open PySem PySem.Spec PyProof.Rows L2

theorem out7 {c n : Nat} (h : ¬ (c = n ∨ c = n + 1 ∨ c = n + 2 ∨ c = n + 3 ∨ c = n + 4 ∨ c = n + 5 ∨ c = n + 6)) : c < n ∨ n + 6 < c := by omega
theorem in7 {c n : Nat} (h : c = n ∨ c = n + 1 ∨ c = n + 2 ∨ c = n + 3 ∨ c = n + 4 ∨ c = n + 5 ∨ c = n + 6) : n ≤ c ∧ c ≤ n + 6 := by omega
/-- four lists as they stand at each turn; the first one ends the walk -/
def It4 (K : PySem.W.Frag) (l1 l2 l3 l4 : Addr) : It :=
  ⟨fun i H => ∃ (a b c d : List V) (x y z u : V), SqL K H l1 a ∧ SqL K H l2 b ∧ SqL K H l3 c ∧ SqL K H l4 d ∧ a[i]? = some x ∧ b[i]? = some y ∧ c[i]? = some z ∧ d[i]? = some u,
    fun i H v H' => ∃ T x y z u, v = .ref T ∧ H T = none ∧ H' = upd H T (.tup [x, y, z, u]) ∧ (∀ a, SqL K H l1 a → a[i]? = some x) ∧ (∀ a, SqL K H l2 a → a[i]? = some y) ∧ (∀ a, SqL K H l3 a → a[i]? = some z) ∧ ∀ a, SqL K H l4 a → a[i]? = some u,
    fun i H => ∃ a : List V, SqL K H l1 a ∧ a.length ≤ i⟩
theorem turn4 {P : Program} {w : World} {K : PySem.W.Frag} {elts : List Expr} {kk : Nat} {tpos : Pos} {n l1 l2 l3 l4 : Nat} (b1 : l1 < n) (b2 : l2 < n) (b3 : l3 < n) (b4 : l4 < n) :
    Turn P w K (.Tuple elts kk tpos) (It4 K l1 l2 l3 l4) [n, n + 1, n + 2, n + 3, n + 4, n + 5, n + 6] (n + 6) (fun i h => Z4 h n l1 l2 l3 l4 i .none) where
  mem := by simp
  obj := fun i h D c hc => by
    obtain ⟨hz, hTI, ⟨p, q, r, s, hTO⟩, ⟨o1, e1, _, d1⟩, ⟨o2, e2, _, d2⟩, ⟨o3, e3, _, d3⟩, ⟨o4, e4, _, d4⟩⟩ := D
    simp only [List.mem_cons, List.not_mem_nil, or_false] at hc
    rcases hc with rfl | rfl | rfl | rfl | rfl | rfl | rfl
    · exact ⟨o1, e1, fun v q => by rw [d1] at q; cases q⟩
    · exact ⟨o2, e2, fun v q => by rw [d2] at q; cases q⟩
    · exact ⟨o3, e3, fun v q => by rw [d3] at q; cases q⟩
    · exact ⟨o4, e4, fun v q => by rw [d4] at q; cases q⟩
    · exact ⟨_, hTI, fun v q => nomatch q⟩
    · exact ⟨_, hTO, fun v q => nomatch q⟩
    · exact ⟨_, hz, fun v q => nomatch q⟩
  keep := fun i h h' D k => by
    obtain ⟨hz, hTI, ⟨p, q, r, s, hTO⟩, h1, h2, h3, h4⟩ := D
    exact ⟨k _ (by simp) _ hz, k _ (by simp) _ hTI, ⟨p, q, r, s, k _ (by simp) _ hTO⟩, h1.at fun o q => k _ (by simp) o q, h2.at fun o q => k _ (by simp) o q, h3.at fun o q => k _ (by simp) o q, h4.at fun o q => k _ (by simp) o q⟩
  item := by
    intro X hP hw hK hc i pins s σ H E I hf D hg
    subst hP hw hK
    obtain ⟨a, b, c, d, x, y, z, u, qa, qb, qc, qd, ex, ey, ez, eu⟩ := hg
    obtain ⟨ia, ra, pa, _⟩ := I.list qa
    obtain ⟨ib, rb, pb, _⟩ := I.list qb
    obtain ⟨ic, rc, pc, _⟩ := I.list qc
    obtain ⟨id_, rd, pd, _⟩ := I.list qd
    obtain ⟨vx, hx, rx⟩ := ra.get ex
    obtain ⟨vy, hy, ry⟩ := rb.get ey
    obtain ⟨vz, hz, rz⟩ := rc.get ez
    obtain ⟨vu, hu, ru⟩ := rd.get eu
    have lz : n + 6 < s.heap.objs.size := Heap.lt_size D.z
    refine z4_next D b1 b2 b3 b4 pa.isList pb.isList pc.isList pd.isList (by simpa using hx) (by simpa using hy) (by simpa using hz) (by simpa using hu) fun h' D' hT hk => ?_
    refine ⟨_, rfl, wpAny_letOwnedTupleGo_zip (s := { s with heap := h' }) D'.z fun h2 z2 sb => ?_⟩
    have hT2 : Is4 h2 s.heap.objs.size vx vy vz vu := (sb.2 _ (Nat.ne_of_gt lz)).trans hT
    have new : ObjOk X.prog X.w (upd H s.heap.objs.size (.tup [x, y, z, u])) h2 s.heap.objs.size (.tup [x, y, z, u]) :=
      ⟨by show 4 ≤ sizeLine; decide, [vx, vy, vz, vu], .cons rx (.cons ry (.cons rz (.cons ru .nil))), ⟨_, hT2, rfl, _, rfl⟩⟩
    have I1 : Inv X pins σ (upd H s.heap.objs.size (.tup [x, y, z, u])) { s with heap := h2 } :=
      I.turnedNew (t' := s.toks) (ch := [n, n + 1, n + 2, n + 3, n + 4, n + 5, n + 6]) (fun c o hb q => by
        simp only [List.mem_cons, List.not_mem_nil, or_false] at hb
        have hb' : c < n ∨ n + 6 < c := out7 hb
        have h6 : c ≠ n + 6 := fun z => hb (.inr (.inr (.inr (.inr (.inr (.inr z))))))
        exact (sb.2 c h6).trans (hk c o hb' q)) hf (Nat.le_refl _) new
    refine ⟨.ref s.heap.objs.size, _, I1, rfl, ⟨_, x, y, z, u, rfl, I.hok.fresh (Nat.le_refl _), rfl, fun l hl => by rw [I.list_inj hl qa]; exact ex, fun l hl => by rw [I.list_inj hl qb]; exact ey, fun l hl => by rw [I.list_inj hl qc]; exact ez, fun l hl => by rw [I.list_inj hl qd]; exact eu⟩, ?_, fun c hcm => ?_⟩
    · obtain ⟨_, t1, ⟨p, q, r, s', t2⟩, j1, j2, j3, j4⟩ := D'
      have ne : ∀ m, m < 6 → n + m ≠ n + 6 := fun m hm => by omega
      exact ⟨z2, (sb.2 _ (ne 4 (by omega))).trans t1, ⟨p, q, r, s', (sb.2 _ (ne 5 (by omega))).trans t2⟩, j1.at fun o e => (sb.2 _ (ne 0 (by omega))).trans e, j2.at fun o e => (sb.2 _ (ne 1 (by omega))).trans e, j3.at fun o e => (sb.2 _ (ne 2 (by omega))).trans e, j4.at fun o e => (sb.2 _ (ne 3 (by omega))).trans e⟩
    · have hlt : c < s.heap.objs.size := by
        simp only [List.mem_cons, List.not_mem_nil, or_false] at hcm
        exact Nat.lt_of_le_of_lt (in7 hcm).2 lz
      rw [upd_ne (Nat.ne_of_lt hlt)]
      exact (hf c hcm).1
  done := by
    intro X hP hw hK hc i pins s σ H E I hf D hg
    subst hP hw hK
    obtain ⟨a, qa, hend⟩ := hg
    obtain ⟨ia, ra, pa, _⟩ := I.list qa
    have l1' := ra.length
    refine z4_last (I.ok.hd hc) D b1 pa.isList (by simp; omega) fun h' hk => ⟨rfl, I.turnedL (t' := s.toks) (ch := [n, n + 1, n + 2, n + 3, n + 4, n + 5, n + 6]) (fun c o hb q => hk c o ?_ q) hf⟩
    simp only [List.mem_cons, List.not_mem_nil, or_false] at hb
    exact out7 hb
  self := fun A i s Q E D h => wpAny_pyIter_zip D.z h
def iZip4 (K : PySem.W.Frag) (ta : TA) : TI := fun σ H R => ta σ H fun vs H1 => ∃ (l1 l2 l3 l4 : Addr) (a b c d : List V), vs = [.ref l1, .ref l2, .ref l3, .ref l4] ∧ SqL K H1 l1 a ∧ SqL K H1 l2 b ∧ SqL K H1 l3 c ∧ SqL K H1 l4 d ∧ R (It4 K l1 l2 l3 l4) H1
theorem pi_zip4 {X : Cx} {e e2 e3 e4 : Expr} {ta : TA} {p pos tpos : Pos} {elts : List Expr} {kk : Nat} (hg : Gl X "zip") (hm : X.mg "zip" = none) (ha : PA X [e, e2, e3, e4] ta)
    (hs : starEach [e, e2, e3, e4] X.env = (false, eval e X.env) :: starEach [e2, e3, e4] X.env := by rfl) (hpl : (backTo pos (starEach [e2, e3, e4] X.env)).any (·.1) = false := by rfl) :
    PI X (.Tuple elts kk tpos) (.Call (.Name "zip" p) [e, e2, e3, e4] [] pos) (iZip4 X.K ta) := by
  refine ⟨fun pins s σ H R I h => ?_⟩
  refine Call_ (ld_blt I hg hm PyProof.Rows.boot_zip (PyProof.Rows.callWith_type1 (thn (ha.run pos pins s σ H _ I h) fun us s1 ⟨vs, H1, I1, r1, q1⟩ => ?_) hs hpl))
  obtain ⟨l1, l2, l3, l4, a, b, c, d, ex, qa, qb, qc, qd, q⟩ := q1
  subst ex
  cases r1 with
  | cons r rr => cases rr with
    | cons r' rr => cases rr with
      | cons r2 rr => cases rr with
        | cons r3 rr =>
          cases rr
          cases r
          cases r'
          cases r2
          cases r3
          obtain ⟨ia, ra, pa, _⟩ := I1.list qa
          obtain ⟨ib, rb, pb, _⟩ := I1.list qb
          obtain ⟨ic, rc, pc, _⟩ := I1.list qc
          obtain ⟨id_, rd, pd, _⟩ := I1.list qd
          refine z4_call pa.isList pb.isList pc.isList pd.isList fun h' D hk => wpAny_pyIter_zip D.z ?_
          have I2 : Inv X pins σ H1 { s1 with heap := h' } := I1.kept (t' := s1.toks) hk
          refine ⟨s1.heap.objs.size + 6, [s1.heap.objs.size, s1.heap.objs.size + 1, s1.heap.objs.size + 2, s1.heap.objs.size + 3, s1.heap.objs.size + 4, s1.heap.objs.size + 5, s1.heap.objs.size + 6], _, _, H1, rfl, I2, turn4 pa.lt pb.lt pc.lt pd.lt, D, fun c hcm => ?_, q⟩
          have hle : s1.heap.objs.size ≤ c := by
            simp only [List.mem_cons, List.not_mem_nil, or_false] at hcm
            exact (in7 hcm).1
          exact I1.fpOk hle (I1.hok.fresh hle)
def ZipQ4 (K : PySem.W.Frag) (g : TG) (tb : TS) (D : Ends) (σ : L2.St) : List V → Hp → Prop := fun vs H1 => ∃ (l1 l2 l3 l4 : Addr) (a b c d : List V), vs = [.ref l1, .ref l2, .ref l3, .ref l4] ∧ SqL K H1 l1 a ∧ SqL K H1 l2 b ∧ SqL K H1 l3 c ∧ SqL K H1 l4 d ∧ Turns (It4 K l1 l2 l3 l4) g tb D σ H1
theorem r_zip4 {K : PySem.W.Frag} {ta : TA} {g : TG} {tb : TS} {D : Ends} {σ : L2.St} {H : Hp} (h : ta σ H (ZipQ4 K g tb D σ)) : tFor (iZip4 K ta) g tb D σ H := by
  unfold tFor iZip4
  exact h
theorem r_Zip4 {K : PySem.W.Frag} {l1 l2 l3 l4 : Addr} {a b c d : List V} {g : TG} {tb : TS} {D : Ends} {σ : L2.St} {H : Hp} (h1 : SqL K H l1 a) (h2 : SqL K H l2 b) (h3 : SqL K H l3 c) (h4 : SqL K H l4 d) (e2 : b.length = a.length) (e3 : c.length = a.length) (e4 : d.length = a.length)
    (Pv : Nat → L2.St → Hp → Prop) (h0 : Pv 0 σ H) (hq : ∀ i σ H, Pv i σ H → SqL K H l1 a ∧ SqL K H l2 b ∧ SqL K H l3 c ∧ SqL K H l4 d)
    (hs : ∀ (i : Nat) (x y z u : V) (T : Addr) (σ : L2.St) (H : Hp), a[i]? = some x → b[i]? = some y → c[i]? = some z → d[i]? = some u → Pv i σ H → H T = none → g (.ref T) σ (upd H T (.tup [x, y, z, u])) fun σ2 H2 => tb { D with nx := Pv (i + 1), ct := Pv (i + 1), bk := D.nx } σ2 H2)
    (hd : ∀ σ H, Pv a.length σ H → D.nx σ H) : ZipQ4 K g tb D σ [.ref l1, .ref l2, .ref l3, .ref l4] H := by
  refine ⟨l1, l2, l3, l4, a, b, c, d, rfl, h1, h2, h3, h4, fun i m σ H => m = a.length - i ∧ i ≤ a.length ∧ Pv i σ H, ⟨_, rfl, Nat.zero_le _, h0⟩, ?_⟩
  rintro i m σ H ⟨rfl, hi, p⟩
  obtain ⟨q1, q2, q3, q4⟩ := hq i σ H p
  by_cases hlt : i < a.length
  · refine .inr ⟨⟨a, b, c, d, _, _, _, _, q1, q2, q3, q4, List.getElem?_eq_getElem hlt, List.getElem?_eq_getElem (by omega), List.getElem?_eq_getElem (by omega), List.getElem?_eq_getElem (by omega)⟩, Pv (i + 1), fun σ' H' p' => ⟨a.length - (i + 1), by omega, rfl, hlt, p'⟩, fun v H' y => ?_⟩
    obtain ⟨T, x', y', z', u', rfl, hT, rfl, f1, f2, f3, f4⟩ := y
    exact hs i x' y' z' u' T σ H (f1 a q1) (f2 b q2) (f3 c q3) (f4 d q4) p hT
  · obtain rfl : i = a.length := by omega
    exact .inl ⟨⟨a, q1, Nat.le_refl _⟩, hd σ H p⟩
/-! ### a == b == c == d -/
def tChain4 (r r' r2 : R2) (ta tb tc td : TE) : TE := fun σ H Q => ta σ H fun x H1 => tb σ H1 fun y H2 => r x y H2 fun k1 H3 => ∃ k, k1 = .bl k ∧
  (if k = true then tc σ H3 fun z H4 => r' y z H4 fun k2 H5 => ∃ k', k2 = .bl k' ∧ (if k' = true then td σ H5 fun u H6 => r2 z u H6 Q else Q (.bl false) H5) else Q (.bl false) H3)
theorem pe_chain4 {X : Cx} {a b c d : Expr} {pos : Pos} {ta tb tc td : TE} {op op' op2 : CmpOp} {r r' r2 : R2} (ho : OpR X (compareOp op) r) (ho' : OpR X (compareOp op') r') (ho2 : OpR X (compareOp op2) r2) (ha : PE X a ta) (hb : PE X b tb) (hc : PE X c tc) (hd : PE X d td)
    (hm : lastMarks [op, op', op2] [b, c, d] = false := by with_unfolding_all rfl) : PE X (.Compare a [op, op', op2] [b, c, d] pos) (tChain4 r r' r2 ta tb tc td) := by
  refine ⟨fun pins s σ H Q I h => ?_⟩
  refine Compare_chain (thn (ha.run pins s σ H _ I h) fun v s1 ⟨x, H1, I1, r1, q1⟩ => chain_link (thn (hb.run pins s1 σ H1 _ I1 q1) fun u s2 ⟨y, H2, I2, ry, q2⟩ =>
    thn (ho pins s2 σ H2 x y v u _ I2 r1 ry q2) fun d' s3 ⟨z, H3, I3, r3, k, e, q3⟩ => ?_)) hm
  subst e
  cases r3
  refine wpAny_truthy_bool ?_
  cases k with
  | false => exact ite_ff ⟨.bl false, H3, I3, rfl, q3⟩
  | true =>
    refine ite_tt (chain_link (thn (hc.run pins s3 σ H3 _ I3 q3) fun w' s4 ⟨z', H4, I4, r4, q4⟩ => thn (ho' pins s4 σ H4 y z' u w' _ I4 ry r4 q4) fun d2 s5 ⟨z2, H5, I5, r5, k', e', q5⟩ => ?_))
    subst e'
    cases r5
    refine wpAny_truthy_bool ?_
    cases k' with
    | false => exact ite_ff ⟨.bl false, H5, I5, rfl, q5⟩
    | true => exact ite_tt (chain_last (thn (hd.run pins s5 σ H5 _ I5 q5) fun w2 s6 ⟨z3, H6, I6, r6, q6⟩ => ho2 pins s6 σ H6 z' z3 w' w2 Q I6 r4 r6 q6))
end Aw

/-! runs by sums -/
namespace Aw
open PySem PySem.Spec L2

theorem pg_tupK {X : Cx} {K : PySem.W.Frag} {es : List Expr} {k : Nat} {t : TGs} {n : Nat} {pos : Pos} (h : X.K = K) (hc : X.calm = true) (hp : PGs X es t)
    (hn : (assignEach es X.env).length = n := by rfl) (hst : (assignEach es X.env).findIdx? (·.1) = none := by rfl) : PG X (.Tuple es k pos) (gTup K n t) := by
  subst h
  exact pg_tup hc hp hn hst
def LcZipQ (K : PySem.W.Frag) (g : TG) (tt : TT) (te : TE) (vs : List Nat) (σ : L2.St) (Q : VK) : List V → Hp → Prop := fun us H1 => ∃ (a b : Addr) (xs ys : List V), us = [.ref a, .ref b] ∧
  ((SqL K H1 a xs ∧ SqL K H1 b ys ∧ LcTurns (Itz K a b) g tt te vs σ Q H1) ∨ (SqT K H1 a xs ∧ SqT K H1 b ys ∧ LcTurns (RZ.ItzT K a b) g tt te vs σ Q H1))
theorem r_lcZip {K : PySem.W.Frag} {ts : TA} {g : TG} {tt : TT} {te : TE} {vs : List Nat} {σ : L2.St} {Q : VK} {H : Hp} (h : ts σ H (LcZipQ K g tt te vs σ Q)) : tLc (RZ.iZipA K ts) g tt te vs σ H Q := h
theorem r_LcZipM {K : PySem.W.Frag} {g : TG} {tt : TT} {te : TE} {vs : List Nat} {σ : L2.St} {Q : VK} {H : Hp} {a b : Addr} {xs ys : List V} (s1 : SqT K H a xs) (s2 : SqT K H b ys)
    (h : ∀ p, H p = none → ∃ R : Nat → Hp → Prop, R 0 (upd H p (.lst [])) ∧ (∀ i H, R i H → SqT K H a xs ∧ SqT K H b ys) ∧
      (∀ (i : Nat) (x y : V) (T : Addr) (H : Hp), xs[i]? = some x → ys[i]? = some y → R i H → H T = none → g (.ref T) (wipe σ vs) (upd H T (.tup [x, y])) (LcTurn tt te vs σ p (R (i + 1)))) ∧ ∀ H, R (min xs.length ys.length) H → Q (.ref p) H) :
    LcZipQ K g tt te vs σ Q [.ref a, .ref b] H := by
  refine ⟨a, b, xs, ys, rfl, .inr ⟨s1, s2, fun p hp => ?_⟩⟩
  obtain ⟨R, h0, hl, hs, hd⟩ := h p hp
  refine ⟨fun i m H => m = min xs.length ys.length - i ∧ i ≤ min xs.length ys.length ∧ R i H, ⟨_, rfl, Nat.zero_le _, h0⟩, ?_⟩
  rintro i m H ⟨rfl, hi, p'⟩
  obtain ⟨qx, qy⟩ := hl i H p'
  by_cases hlt : i < min xs.length ys.length
  · have hl1 : i < xs.length := by omega
    have hl2 : i < ys.length := by omega
    refine .inr ⟨⟨xs, ys, _, _, qx, qy, List.getElem?_eq_getElem hl1, List.getElem?_eq_getElem hl2⟩, R (i + 1), fun H' q => ⟨min xs.length ys.length - (i + 1), by omega, rfl, hlt, q⟩, fun v H' y => ?_⟩
    obtain ⟨T, x', y', rfl, hT, rfl, f1, f2⟩ := y
    exact hs i x' y' T H (f1 xs qx) (f2 ys qy) p' hT
  · obtain rfl : i = min xs.length ys.length := by omega
    exact .inl ⟨⟨xs, ys, qx, qy, by omega⟩, hd H p'⟩
/-! ### the plain law -/
theorem toldI_eq (s : Sv) (m : Nat) (rs : List Int) : toldI s.n (mulI s m) rs = s.n + sumR (fun i => getI s.m (i : Nat) * (rs[i]?).getD 0) m := by
  unfold mulI
  exact toldI_sum (fun i => getI s.m (i : Nat)) m s.n rs
theorem rnD_congr {fix rs rs' : List Int} {n : Int} {bl : List Sm} (h : ∀ i, i < (runR fix n bl).2.made.length → (rs'[i]?).getD 0 = (rs[i]?).getD 0) : rnD fix n bl rs' = rnD fix n bl rs := by
  unfold rnD
  congr 3
  refine List.map_congr_left fun t _ => ?_
  cases t with
  | inl w => rfl
  | inr s =>
    show PyData.int _ = PyData.int _
    rw [toldI_eq, toldI_eq]
    congr 2
    exact sumR_congr fun i hi => by rw [h i hi]
theorem getD_app (rs ts : List Int) (i : Nat) : ((rs ++ ts)[i]?).getD 0 = if i < rs.length then (rs[i]?).getD 0 else (ts[i - rs.length]?).getD 0 := by
  split
  · rename_i h
    rw [List.getElem?_append_left h]
  · rename_i h
    rw [List.getElem?_append_right (by omega)]
theorem getD_out {rs : List Int} {i : Nat} (h : rs.length ≤ i) : (rs[i]?).getD 0 = 0 := by rw [List.getElem?_eq_none h]; rfl
theorem getD_take (rs : List Int) (m i : Nat) : ((rs.take m)[i]?).getD 0 = if i < m then (rs[i]?).getD 0 else 0 := by
  rw [List.getElem?_take]
  split <;> rfl
def zipM (ms rs : List Int) : List Int := List.zipWith (· * ·) ms rs
theorem toldI_zip : ∀ (ms rs : List Int) (n : Int), n + (zipM ms rs).sum = toldI n ms rs
  | [], rs, n => by cases rs <;> (show n + 0 = n; omega)
  | m :: ms, [], n => by show n + 0 = n; omega
  | m :: ms, r :: rs, n => by
    rw [toldI, ← toldI_zip ms rs (n + m * r)]
    show n + (m * r :: zipM ms rs).sum = _
    rw [List.sum_cons]
    omega
/-- the sums that were told -/
def svsOf (l : List (Str ⊕ Sv)) : List Sv := l.filterMap fun t => match t with
  | .inl _ => none
  | .inr s => some s
def numsI (n : Int) (bl : List Sm) (rs : List Int) : List Int := (svsOf (runR [] n bl).2.said).map fun s => toldI s.n (mulI s (runR [] n bl).2.made.length) rs
theorem numsI_len (n : Int) (bl : List Sm) (rs : List Int) : (numsI n bl rs).length = (svsOf (runR [] n bl).2.said).length := by unfold numsI; rw [List.length_map]
theorem sumR_add4 {f g h : Nat → Int} {m : Nat} (e : ∀ i, i < m → f i + g i = h i) : sumR f m + sumR g m = sumR h m := by
  rw [← sumR_add]
  exact sumR_congr e
theorem numsI_add {n : Int} {bl : List Sm} {one other : List Int} {i : Nat} {x y z u : Int} (h1 : (numsI n bl (one.take (min one.length other.length)))[i]? = some x) (h2 : (numsI n bl (other.take (min one.length other.length)))[i]? = some y)
    (h3 : (numsI n bl (List.zipWith (· + ·) one other))[i]? = some z) (h4 : (numsI n bl [])[i]? = some u) : x + y = z + u := by
  unfold numsI at h1 h2 h3 h4
  rw [List.getElem?_map] at h1 h2 h3 h4
  obtain ⟨s, hs, rfl⟩ := Option.map_eq_some_iff.mp h1
  rw [hs] at h2 h3 h4
  cases h2
  cases h3
  cases h4
  dsimp only
  rw [toldI_eq, toldI_eq, toldI_eq, toldI_eq]
  have z0 : sumR (fun i => getI s.m (i : Nat) * (([] : List Int)[i]?).getD 0) (runR [] n bl).2.made.length = 0 := sumR_zero fun i _ => by simp
  rw [z0]
  have e := sumR_add4 (f := fun i => getI s.m (i : Nat) * ((one.take (min one.length other.length))[i]?).getD 0) (g := fun i => getI s.m (i : Nat) * ((other.take (min one.length other.length))[i]?).getD 0)
    (h := fun i => getI s.m (i : Nat) * ((List.zipWith (· + ·) one other)[i]?).getD 0) (m := (runR [] n bl).2.made.length) fun i _ => by
      rw [← Int.mul_add]
      congr 1
      rw [getD_take, getD_take]
      by_cases hi : i < min one.length other.length
      · rw [if_pos hi, if_pos hi, List.getElem?_zipWith, List.getElem?_eq_getElem (show i < one.length by omega), List.getElem?_eq_getElem (show i < other.length by omega)]
        rfl
      · rw [if_neg hi, if_neg hi, getD_out (by rw [List.length_zipWith]; omega)]
        rfl
  omega
theorem ints_of {K : PySem.W.Frag} {H : Hp} : ∀ {xs : List V} {l : List Int}, DtL K H xs (l.map PyData.int) → xs = l.map V.int
  | [], [], _ => rfl
  | [], _ :: _, h => by have := h.len; simp at this
  | _ :: _, [], h => by have := h.len; simp at this
  | x :: xs, i :: l, h => by
    have h0 := (h.all 0 x (.int i) rfl rfl).isInt
    have h1 : DtL K H xs (l.map PyData.int) := ⟨by have := h.len; simpa using this, fun j v d e e' => h.all (j + 1) v d (by simpa using e) (by simpa using e')⟩
    rw [h0, ints_of h1]
    rfl
theorem r_chain4 {r r' r2 : R2} {ta tb tc td : TE} {σ : L2.St} {H : Hp} {Q : VK} (h : ta σ H fun x H1 => tb σ H1 fun y H2 => r x y H2 (Bl fun k H3 => if k = true then tc σ H3 fun z H4 => r' y z H4 (Bl fun k' H5 => if k' = true then td σ H5 fun u H6 => r2 z u H6 Q else Q (.bl false) H5) else Q (.bl false) H3)) :
    tChain4 r r' r2 ta tb tc td σ H Q := h
/-! ### promises -/
def spRdsS (K : PySem.W.Frag) : Sp := fun vs H Q _ => ∃ (d c : Addr) (n : Int), vs = [.ref d] ∧ Deck H d c n ∧ n + 5000 < 10 ^ 12 ∧
  ∀ (H' : Hp) (b : Addr) (rs : List Int) (n' : Int), Deck H' d c n' → n ≤ n' → n' ≤ n + 100 → Kp [d, c] H H' → SqT K H' b (rs.map V.int) → (∀ r ∈ rs, r.natAbs < 2 ^ 599) → rs.length ≤ 40 → Q (.ref b) H'
def spBySum (K : PySem.W.Frag) : Sp := fun vs H Q _ => ∃ (v : V) (b : Addr) (n : Int) (rs : List Int) (bl : List Sm), vs = [v, .ref b] ∧ Dt K H v (smD [] n bl) ∧ VdB 4 bl ∧ n.natAbs < 2 ^ 200 ∧ Sm.wts bl ≤ 30 ∧
  SqT K H b (rs.map V.int) ∧ (∀ r ∈ rs, r.natAbs < 2 ^ 600) ∧ rs.length ≤ 40 ∧ ∀ (H' : Hp) (z : V), Kp [] H H' → Dt K H' z (rnD [] n bl rs) → Q z H'
def spCut (K : PySem.W.Frag) : Sp := fun vs H Q _ => ∃ (b : Addr) (rs : List Int), vs = [.ref b] ∧ SqT K H b (rs.map V.int) ∧ rs.length ≤ 40 ∧
  ∀ (H' : Hp) (p : Addr) (m : Nat), Kp [] H H' → SqT K H' p ((rs.take m).map V.int) → (∀ i, m ≤ i → (rs[i]?).getD 0 = 0) → Q (.ref p) H'
def spNums (K : PySem.W.Frag) : Sp := fun vs H Q _ => ∃ (v : V) (n : Int) (rs : List Int) (bl : List Sm), vs = [v] ∧ Dt K H v (rnD [] n bl rs) ∧ VdB 4 bl ∧ n.natAbs < 2 ^ 200 ∧ Sm.wts bl ≤ 30 ∧
  ∀ (H' : Hp) (q : Addr), Kp [] H H' → H q = none → H' q = some (.lst ((numsI n bl rs).map V.int)) → Q (.ref q) H'
def spAddd (K : PySem.W.Frag) : Sp := fun vs H Q _ => ∃ (v : V) (a b : Addr) (n : Int) (one other : List Int) (bl : List Sm), vs = [v, .int n, .ref a, .ref b] ∧ Dt K H v (.tuple (Sm.ds bl)) ∧ VdB 4 bl ∧ n.natAbs < 2 ^ 200 ∧ Sm.wts bl ≤ 30 ∧ Sm.sizes bl ≤ 10000 ∧
  SqT K H a (one.map V.int) ∧ (∀ r ∈ one, r.natAbs < 2 ^ 599) ∧ one.length ≤ 40 ∧ SqT K H b (other.map V.int) ∧ (∀ r ∈ other, r.natAbs < 2 ^ 599) ∧ other.length ≤ 40 ∧ ∀ H', Kp [] H H' → Q (.bl true) H'
/-- readings with which a run is the same -/
def Gd (K : PySem.W.Frag) (n : Int) (bl : List Sm) (rs : List Int) (H : Hp) (v : V) : Prop := ∃ rs' : List Int, Dt K H v (.tuple (rs'.map PyData.int)) ∧ (∀ r ∈ rs', r.natAbs < 2 ^ 600) ∧ rnD [] n bl rs' = rnD [] n bl rs
theorem Gd.kp {K : PySem.W.Frag} {n : Int} {bl : List Sm} {rs : List Int} {H H1 : Hp} {v : V} {M : List Addr} (h : Gd K n bl rs H v) (k : Kp M H H1) : Gd K n bl rs H1 v := by
  obtain ⟨rs', h1, h2, h3⟩ := h
  exact ⟨rs', h1.kp k, h2, h3⟩
theorem Gd.app {K : PySem.W.Frag} {n : Int} {bl : List Sm} {rs ts : List Int} {H : Hp} {v : V} (h : Dt K H v (.tuple (rs.map PyData.int ++ ts.map PyData.int))) (br : ∀ r ∈ rs, r.natAbs < 2 ^ 600) (bt : ∀ r ∈ ts, r.natAbs < 2 ^ 600)
    (e : (∀ r ∈ ts, r = 0) ∨ (runR [] n bl).2.made.length ≤ rs.length) : Gd K n bl rs H v := by
  refine ⟨rs ++ ts, by rw [List.map_append]; exact h, fun r hr => ?_, rnD_congr fun i hi => ?_⟩
  · rcases List.mem_append.mp hr with m | m
    · exact br r m
    · exact bt r m
  · rw [getD_app]
    split
    · rfl
    · rename_i hn
      rcases e with e | e
      · rw [getD_out (rs := rs) (by omega)]
        cases q : ts[i - rs.length]? with
        | none => rfl
        | some z => exact e z (List.mem_of_getElem? q)
      · omega
theorem Gd.take {K : PySem.W.Frag} {n : Int} {bl : List Sm} {rs : List Int} {H : Hp} {v : V} {m : Nat} (h : Dt K H v (.tuple ((rs.take m).map PyData.int))) (br : ∀ r ∈ rs, r.natAbs < 2 ^ 600)
    (e : (∀ i, m ≤ i → (rs[i]?).getD 0 = 0) ∨ (runR [] n bl).2.made.length ≤ m) : Gd K n bl rs H v := by
  refine ⟨rs.take m, h, fun r hr => br r (List.mem_of_mem_take hr), rnD_congr fun i hi => ?_⟩
  rw [getD_take]
  split
  · rfl
  · rename_i hn
    rcases e with e | e
    · rw [e i (by omega)]
    · omega
end Aw

namespace Aw
open PySem L2
def topS (i : Nat) : Stmt := PySem.Challenge.pw_anewread_k34_whole_runs_by_sums.main.body.getD i (.Pass ⟨0, 0, 0, 0⟩)
local macro_rules | `(tactic| walk_at "isa") => `(tactic| first | assumption | (focus (simp [isaD, tyD]; done)))
local macro_rules | `(tactic| walk_at "hd") => `(tactic| first
  | exact Dp.int _ | exact Dp.str _ | exact Dp.bl _ | exact Dp.non
  | exact Dt.dp (by assumption) | assumption)
local macro_rules | `(tactic| walk_at "ne") => `(tactic| first
  | assumption
  | exact Ne.symm (by assumption)
  | exact ne_of_none (by assumption) (by assumption)
  | exact Ne.symm (ne_of_none (by assumption) (by assumption)))
local macro_rules | `(tactic| walk_at "hp") => `(tactic| first
  | assumption
  | exact upd_same
  | ((refine Eq.trans (upd_ne ?_) ?_); (walk_at "ne"); (walk_at "hp")))
local macro_rules | `(tactic| walk_at "hs") => `(tactic| first
  | assumption
  | ((with_reducible apply SqL.of); (walk_at "hp"))
  | ((with_reducible apply SqT.of); (walk_at "hp")))
local macro_rules | `(tactic| walk_at "hw") => `(tactic| first | assumption | exact Dw.int _ | exact Dw.str _ | exact Dw.bl _ | exact Dw.non)
local macro_rules | `(tactic| walk_at "cd") => `(tactic| repeat (first | with_reducible exact cd_str | with_reducible exact cd_int | with_reducible exact cd_non | with_reducible exact cds_nil | with_reducible refine cds_cons ?_ ?_ | with_reducible refine cd_tup ?_ (by simp) | ((with_reducible apply cd_var); (exact rfl); assumption)))
local macro_rules | `(tactic| walk_at "cw") => `(tactic| repeat (first | with_reducible exact cw_str | with_reducible exact cw_int | with_reducible exact cw_bl | with_reducible exact cw_non | with_reducible exact cw_neg | with_reducible exact cws_nil | with_reducible exact cw_pow (c_pow (by decide) (by decide) (by decide)) | with_reducible exact cw_d0 (by assumption) | with_reducible exact cw_d1 (by assumption) | with_reducible refine cws_cons ?_ ?_ | with_reducible refine cw_tup ?_ (by simp) | with_reducible refine cw_lst (by assumption) ?_ (by simp) | ((with_reducible apply cw_var); (exact rfl); assumption)))
local macro_rules | `(tactic| walk_at "rd1") => `(tactic| first
  | with_reducible refine r_next ?_ | with_reducible refine r_asg ?_
  | with_reducible refine r_name ?_ | with_reducible refine r_sub ?_ | with_reducible refine r_ifS ?_
  | with_reducible refine r_ret ?_ | with_reducible refine r_retN ?_ | with_reducible refine r_drop ?_
  | (with_reducible refine r_par ?_) | (with_reducible refine r_two ?_) | (with_reducible refine r_par3 ?_) | (with_reducible refine r_three ?_)
  | ((with_reducible apply r_var); exact rfl)
  | ((with_reducible apply r_aug); exact rfl)
  | with_reducible refine r_addS ?_ ?_
  | with_reducible refine r_C ?_ | with_reducible refine r_op ?_ | with_reducible refine r_un ?_
  | with_reducible refine r_I0 ?_ | with_reducible refine r_I ?_ ?_ | with_reducible refine r_U ?_ | with_reducible refine r_ipI ?_
  | (with_reducible refine r_tup ?_) | (with_reducible refine r_lst ?_)
  | with_reducible refine r_nil ?_ | with_reducible refine r_cons ?_
  | with_reducible refine r_call ?_ | with_reducible refine r_CB ?_
  | with_reducible refine r_BM ?_ | with_reducible refine r_BM0 ?_ | with_reducible refine r_M1 ?_ | with_reducible refine r_isS ?_
  | with_reducible refine r_bl ?_ | with_reducible refine r_test ?_ | with_reducible refine r_B ?_
  | ((with_reducible apply r_orP); (focus (intro _ hR_; (walk_at "rd"); exact hR_)); (focus (intro _ hR_; (walk_at "rd"); exact hR_)))
  | ((with_reducible apply r_andP); (focus (intro _ hR_; (walk_at "rd"); exact hR_)); (focus (intro _ hR_; (walk_at "rd"); exact hR_)))
  | with_reducible refine r_and ?_ | with_reducible refine r_or ?_ | with_reducible refine r_not ?_
  | with_reducible refine r_andV ?_ | with_reducible refine r_orV ?_ | with_reducible refine r_notV ?_ | with_reducible refine r_chain ?_
  | ((with_reducible apply r_eqT); (with_reducible rfl); exact rfl) | ((with_reducible apply r_eqF); (decide +kernel); exact rfl)
  | ((with_reducible apply r_neF); (with_reducible rfl); exact rfl) | ((with_reducible apply r_neT); (decide +kernel); exact rfl)
  | ((with_reducible apply r_eq); exact rfl) | ((with_reducible apply r_ne); exact rfl)
  | with_reducible refine r_gcons ?_ | with_reducible refine r_gnil ?_
  | ((with_reducible apply r_gtup); (walk_at "hs"); exact rfl)
  | with_reducible refine r_abs ?_ | with_reducible refine r_int ?_ | with_reducible refine r_intB ?_
  | with_reducible refine r_strI ?_ ?_ | with_reducible refine r_strS ?_ | with_reducible refine r_lenS ?_ ?_
  | ((with_reducible apply r_lenL); (walk_at "hs")) | ((with_reducible apply r_lenT); (walk_at "hs"))
  | ((with_reducible apply r_ixL); (walk_at "hs"); (first | exact rfl | assumption))
  | ((with_reducible apply r_ixT); (walk_at "hs"); (first | exact rfl | assumption))
  | ((with_reducible apply r_ixD); assumption)
  | ((with_reducible apply r_isT); (walk_at "hd"); (walk_at "isa"); decide) | ((with_reducible apply r_isF); (walk_at "hd"); (walk_at "isa"); decide)
  | ((with_reducible apply r_is2T); (walk_at "hw"); (walk_at "isa"); decide) | ((with_reducible apply r_is2F); (walk_at "hw"); (walk_at "isa"); decide)
  | ((with_reducible apply r_setL); (walk_at "hp"); (first | exact rfl | assumption))
  | ((with_reducible apply r_tyL); (walk_at "hp"))
  | ((with_reducible apply r_append); (walk_at "hp"))
  | ((with_reducible apply r_extend); (walk_at "hp"); (walk_at "hp"))
  | with_reducible refine r_forT ?_ | with_reducible refine r_forL ?_ | with_reducible refine r_forR ?_ | with_reducible refine r_forR2 ?_
  | with_reducible refine r_lcT ?_ | with_reducible refine r_lcL ?_ | with_reducible refine r_lcR ?_ | with_reducible refine r_yes ?_
  | (with_reducible refine r_LcTurn rfl ?_)
  | with_reducible refine r_dget2 ?_ | ((with_reducible apply r_DG2a); (walk_at "hp")) | ((with_reducible apply r_DG2); (walk_at "hp"))
  | with_reducible refine r_lcR2 ?_ | with_reducible refine r_forE ?_
  | with_reducible refine r_lcS ?_ | with_reducible refine r_revL ?_ | with_reducible refine r_inC ?_ | with_reducible refine r_notinC ?_
  | ((with_reducible apply r_eqNL); (walk_at "hs"); (walk_at "hs")) | ((with_reducible apply r_eqNT); (walk_at "hs"); (walk_at "hs"))
  | ((with_reducible apply r_neNL); (walk_at "hs"); (walk_at "hs")) | ((with_reducible apply r_neNT); (walk_at "hs"); (walk_at "hs"))
  | with_reducible refine r_sl ?_ | with_reducible refine r_noPart ?_ | with_reducible refine r_part ?_ | with_reducible refine r_partI ?_
  | with_reducible refine r_pcons ?_ | with_reducible refine r_pnil ?_ | with_reducible refine r_dget ?_
  | with_reducible refine r_dput ?_ | with_reducible refine r_din ?_ | with_reducible refine r_dget1 ?_ | with_reducible refine r_dpop1 ?_
  | with_reducible refine r_fld ?_ | with_reducible refine r_sfld ?_ | with_reducible refine r_meth ?_
  | with_reducible refine r_forK ?_ | with_reducible refine r_lcV ?_ | with_reducible refine r_listVals ?_ | with_reducible refine r_listItems ?_
  | ((with_reducible apply r_Fld); assumption; assumption; assumption; exact rfl)
  | ((with_reducible apply r_Meth); assumption; exact rfl)
  | ((with_reducible apply r_DIn); assumption) | ((with_reducible apply r_DG1a); assumption) | ((with_reducible apply r_DG1); assumption) | ((with_reducible apply r_DG2i); assumption)
  | ((with_reducible apply r_wN); assumption) | ((with_reducible apply r_wS); assumption) | ((with_reducible apply r_wR); assumption) | ((with_reducible apply r_wF); assumption)
  | with_reducible refine ifT ?_ | with_reducible refine ifF ?_ | with_reducible refine ifnT ?_ | with_reducible refine ifnF ?_)
local macro_rules | `(tactic| walk_at "rds") => `(tactic| repeat (walk_at "rd1"))
local macro_rules | `(tactic| walk_at "rdj") => `(tactic| repeat (first | with_reducible refine r_seq ?_ | walk_at "rd1"))
local macro_rules | `(tactic| walk_at "rd") => `(tactic| repeat (first | with_reducible refine r_seq ?_ | walk_at "rd1" | with_reducible refine r_if ?_))
local macro_rules | `(tactic| walk_at "sc") => `(tactic| first
  | omega | decide
  | exact c_pow (by first | decide | omega) (by decide) (by decide)
  | exact c_div (by omega) (by omega)
  | exact c_mulL (by first | decide | omega) (by first | decide | omega)
  | exact c_mulR (by first | decide | omega) (by first | decide | omega))
local macro_rules | `(tactic| walk_at "sl") => `(tactic| ((try simp only [Str.length_append]); rw [sizeLine_eq]; omega))
local macro_rules | `(tactic| walk_at "sz") => `(tactic| ((try simp only [sizeLine_eq, List.length_append, List.length_map, List.length_cons, List.length_nil, Str.length_append]); omega))
section
variable {P : Program} {w : World} {K : PySem.W.Frag} {mg : Str → Option Value} {base : Heap}
abbrev sblocks_of : Stmt := topS 2
abbrev Nblocks_of : List Str := ["statement"]
abbrev Pblocks_of : List Str := ["statement"]
theorem scblocks_of : FnScope Nblocks_of Pblocks_of (defScope sblocks_of) :=
  ⟨rfl, rfl, rfl, by decide +kernel, rfl, by decide +kernel, by decide +kernel⟩
theorem ok_blocks_of (D : Df K mg "blocks_of" sblocks_of Pblocks_of) (B : Blt mg) : Has P w K mg base CX0 "blocks_of" Pblocks_of 1 (spBlocks K) := by
  refine D.has scblocks_of (fun vs H Q E h => ?_) (fun f cdv A outer s H vs Q E hr h => ?_)
  · obtain ⟨M, v, d, rfl, _⟩ := h
    rfl
  obtain ⟨M, v, d, rfl, hd, hs, k⟩ := h
  refine ⟨_, (pss_cons (ps_if (pt_cmpR op_eq (pe_ix ix_tup (pv 0) pe_int (fun _ _ => rfl)) pe_str (nomark _)) (pss_one (ps_ret (pe_lst (pa_cons (pe_ix ix_tup (pv 0) pe_int (fun _ _ => rfl)) (pa_cons (pe_ix ix_tup (pv 0) pe_int (fun _ _ => rfl)) pa_nil)))))
        pss_nil)
      (pss_one (ps_ret (pe_ifExp (pt_cmpR op_eq (pe_ix ix_tup (pv 0) pe_int (fun _ _ => rfl)) pe_str (nomark _)) (pe_lst (pa_cons (pe_ix ix_tup (pv 0) pe_int (fun _ _ => rfl)) pa_nil)) (pe_lst pa_nil))))), ?_⟩
  rcases stmt_view hs with ⟨p, rfl, hp, hb⟩ | ⟨t, y, z, rfl, ht, hb⟩ | ⟨n, b, rfl, k1, k2, hb⟩
  · obtain ⟨u, r, e, n1, n2⟩ := Pl.hd p
    rw [hb] at k
    rw [e] at hd
    obtain ⟨a, xs, rfl, hT, hL⟩ := hd.items
    obtain ⟨x, ys, rfl, h0, hR⟩ := hL.inv
    obtain rfl := h0.isStr
    have hx0 : atI (V.str u :: ys) 0 = some (V.str u) := at_nn (Int.le_refl 0) rfl
    walk_at "rd"
    refine ifd (fun c => absurd (V.str.inj c) n1) fun _ => ?_
    walk_at "rd"
    refine ifd (fun c => absurd (V.str.inj c) n2) fun _ => ?_
    walk_at "rd"
    exact ⟨by decide, fun p hp => k _ p [] hp (Kp.nil.new hp) upd_same DwL.nil⟩
  · rw [hb] at k
    obtain ⟨a, xs, rfl, hT, hL⟩ := hd.items
    obtain ⟨x0, x1, x2, x3, d0, d1, d2, d3, rfl, e, h0, h1, h2, h3⟩ := hL.is4 hL.len
    cases e
    obtain rfl := h0.isStr
    walk_at "rd"
    refine ⟨by walk_at "sz", fun p hp => ?_⟩
    have k1 : Kp [] H (upd H p (.lst [x2, x3])) := Kp.nil.new hp
    exact k _ p [x2, x3] hp k1 upd_same (DwL.cons (h2.kp0 k1) (DwL.cons (h3.kp0 k1) DwL.nil))
  · rw [hb] at k
    obtain ⟨a, xs, rfl, hT, hL⟩ := hd.items
    obtain ⟨x0, x1, x2, d0, d1, d2, rfl, e, h0, h1, h2⟩ := hL.is3 hL.len
    cases e
    obtain rfl := h0.isStr
    walk_at "rd"
    refine ⟨by walk_at "sz", fun p hp => ?_⟩
    have k1 : Kp [] H (upd H p (.lst [x2])) := Kp.nil.new hp
    exact k _ p [x2] hp k1 upd_same (DwL.cons (h2.kp0 k1) DwL.nil)
abbrev sadded : Stmt := topS 6
abbrev Nadded : List Str := ["one", "other", "times", "found", "number"]
abbrev Padded : List Str := ["one", "other", "times"]
theorem scadded : FnScope Nadded Padded (defScope sadded) :=
  ⟨rfl, rfl, rfl, by decide +kernel, rfl, by decide +kernel, by decide +kernel⟩
theorem ok_added (D : Df K mg "added" sadded Padded) (B : Blt mg) : Has P w K mg base CX0 "added" Padded 1 (spAdded K) := by
  refine D.has scadded (fun vs H Q E h => ?_) (fun f cdv A outer s H vs Q E hr h => ?_)
  · obtain ⟨M, v, u, s, r, t, b, m, rfl, _⟩ := h
    rfl
  obtain ⟨M, v, u, s, r, t, b, m, rfl, oc, hv, hu, ok1, ok2, hm, t1, t2, k⟩ := h
  obtain ⟨a1, d1, rfl, hT1, hD1, _⟩ := hv
  obtain ⟨a2, d2, rfl, hT2, hD2, _⟩ := hu
  have l1 := ok1.len
  have l2 := ok2.len
  refine ⟨_, (pss_cons (ps_set (i := 3) scadded.nd rfl (Or.inl rfl) (pe_callTy c_dict (by rfl) B.dict (by decide +kernel) (pa_cons (pe_ix ix_tup (pv 0) pe_int (fun _ _ => rfl)) pa_nil)))
      (pss_cons (ps_lock (ps_for PassesOwn.never rfl (pi_keys (pe_ix ix_tup (pv 1) pe_int (fun _ _ => rfl))) (pg_name (i := 4) scadded.nd rfl (Or.inl rfl))
        (pss_one (ps_dput hr.hu (pv 3) (pv 4) (pe_op op_add (pe_dget2 hr.hu (pv 3) (pv 4) pe_int ⟨by rfl, by rfl, by rfl, by rfl⟩) (pe_op op_mul (pv 2) (pe_dget hr.hu (pe_ix ix_tup (pv 1) pe_int (fun _ _ => rfl)) (pv 4) (fun _ _ => rfl)))) rfl))))
      (pss_one (ps_ret (pe_tup (pa_cons (pe_op op_add (pe_ix ix_tup (pv 0) pe_int (fun _ _ => rfl)) (pe_op op_mul (pv 2) (pe_ix ix_tup (pv 1) pe_int (fun _ _ => rfl)))) (pa_cons (pv 3) pa_nil))))))), ?_⟩
  walk_at "rd"
  refine r_dict hD1 fun p hp => ?_
  have k1 : Kp [] H (upd H p (.dK (kvI s.m))) := Kp.nil.new hp
  have h1 : upd H p (.dK (kvI s.m)) p = some (.dK (kvI s.m)) := upd_same
  have hT1' := sqT_kp k1 hT1
  have hT2' := sqT_kp k1 hT2
  have hD2' := k1.get hD2 (by simp)
  have hpd : p ≠ d2 := Ne.symm (ne_of_none hD2 hp)
  have hpM : p ∉ M := oc.new Kp.nil hp
  generalize upd H p (.dK (kvI s.m)) = H1 at k1 h1 hT1' hT2' hD2' ⊢
  walk_at "rdj"
  refine r_lock hD2' trivial fun od => ?_
  have hdn : ∀ H2 : Hp, upd H2 d2 (.frz od (.dK (kvI r.m))) d2 = some (.frz od (.dK (kvI r.m))) := fun H2 => upd_same
  have hpL : upd H1 d2 (.frz od (.dK (kvI r.m))) p = some (.dK (kvI s.m)) := by rw [upd_ne hpd]; exact h1
  have sq : ∀ {a : Addr} {xs : List V}, SqT K H1 a xs → SqT K (upd H1 d2 (.frz od (.dK (kvI r.m)))) a xs := fun {a xs} h => by
    rcases h with (h | ⟨o, h⟩) | h
    · exact .inl (.inl (by rw [upd_ne (fun z => by rw [z, hD2'] at h; cases h)]; exact h))
    · exact .inl (.inr ⟨o, by rw [upd_ne (fun z => by rw [z, hD2'] at h; cases h)]; exact h⟩)
    · exact .inr h
  have hT1L := sq hT1'
  have hT2L := sq hT2'
  generalize hHL : upd H1 d2 (.frz od (.dK (kvI r.m))) = HL at hpL hT1L hT2L ⊢
  have hdL : HL d2 = some (.frz od (.dK (kvI r.m))) := by rw [← hHL]; exact upd_same
  with_reducible refine r_forK ?_
  walk_at "rd"
  refine r_ForK hdL (fun i σ H' => ∃ (nx : Option V), σ = [some (.ref a1), some (.ref a2), some (.int t), some (.ref p), nx] ∧ Kp [p] HL H' ∧ H' p = some (.dK (kvI (bothM s.m (r.m.take i) t))))
    ⟨none, rfl, Kp.reflM (Ms.cons hpL trivial Ms.nil), by rw [List.take_zero]; exact hpL⟩ (fun i σ H' ⟨_, _, q, _⟩ => q.get hdL (by simp [Ne.symm hpd])) ?_ ?_
  · rintro i kk vv σ H3 hk ⟨nx, rfl, k3, h3⟩
    unfold kvI at hk
    rw [List.getElem?_map] at hk
    obtain ⟨pr, hpr, e⟩ := Option.map_eq_some_iff.mp hk
    cases e
    have hmem : pr ∈ r.m := List.mem_of_getElem? hpr
    have hd3 := k3.get hdL (by simp [Ne.symm hpd])
    have hT3 := sqT_kp k3 hT2L
    have hil : i < r.m.length := (List.getElem?_eq_some_iff.mp hpr).1
    have hlen : (bothM s.m (r.m.take i) t).length ≤ 20000 := by
      have q := (ok1.both (u := ⟨0, r.m.take i⟩) (t := t) ⟨Nat.lt_of_lt_of_le Nat.zero_lt_one Nat.one_le_two_pow, fun p hp => ok2.v p (List.mem_of_mem_take hp), fun p hp => ok2.k p (List.mem_of_mem_take hp), List.Sublist.nodup (List.Sublist.map _ (List.take_sublist i r.m)) ok2.nd⟩ t1 t2).len
      exact Nat.le_trans q (by omega)
    show gName 4 (V.int pr.1) _ _ _
    walk_at "rd"
    rw [kvI_get]
    walk_at "rd"
    refine ⟨d2, .int pr.2, rfl, .inl ⟨_, Sum.inl pr.1, .inr ⟨od, hd3⟩, rfl, (kvI_some ok2.nd hmem).symm⟩, ?_⟩
    walk_at "rd"
    · refine ⟨p, _, rfl, DPut.k (k := Sum.inl pr.1) h3 (by rw [kvI_len, sizeLine_eq]; omega), ?_⟩
      refine ⟨_, rfl, k3.write (by simp), ?_⟩
      rw [upd_same, kvI_put]
      have htk : r.m.take (i + 1) = r.m.take i ++ [pr] := by rw [List.take_add_one, hpr]; rfl
      rw [htk, bothM_snoc]
    · walk_at "sc"
  · rintro σ H3 ⟨nx, rfl, k3, h3⟩
    have e : (kvI r.m).length = r.m.length := kvI_len _
    rw [e, List.take_length] at h3
    have hd3 := k3.get hdL (by simp [Ne.symm hpd])
    refine ⟨hd3, ?_⟩
    have k4 : Kp [p] H1 (upd H3 d2 (.dK (kvI r.m))) := Kp.unlock (by rw [hHL]; exact k3) hD2' (by simp [Ne.symm hpd])
    have h4 : upd H3 d2 (.dK (kvI r.m)) p = some (.dK (kvI (bothM s.m r.m t))) := by rw [upd_ne hpd]; exact h3
    have hT14 := sqT_kp k4 hT1'
    have hT24 := sqT_kp k4 hT2'
    have k5 : Kp [] H (upd H3 d2 (.dK (kvI r.m))) := k1.own1 hp k4
    generalize upd H3 d2 (.dK (kvI r.m)) = H4 at k4 h4 hT14 hT24 k5 ⊢
    walk_at "rd"
    · refine ⟨by simp [sizeLine_eq], fun q hq => k _ _ (k5.new hq) ⟨q, p, rfl, SqT.of upd_same, (Kp.nil.new hq).get h4 (by simp), hpM⟩⟩
    · walk_at "sc"
abbrev swhole_sum : Stmt := topS 8
abbrev Nwhole_sum : List Str := ["number"]
abbrev Pwhole_sum : List Str := ["number"]
theorem scwhole_sum : FnScope Nwhole_sum Pwhole_sum (defScope swhole_sum) :=
  ⟨rfl, rfl, rfl, by decide +kernel, rfl, by decide +kernel, by decide +kernel⟩
theorem ok_whole_sum (D : Df K mg "whole_sum" swhole_sum Pwhole_sum) (B : Blt mg) : Has P w K mg base CX0 "whole_sum" Pwhole_sum 1 (spWholeS K) := by
  refine D.has scwhole_sum (fun vs H Q E h => ?_) (fun f cdv A outer s H vs Q E hr h => ?_)
  · obtain ⟨M, i, rfl, _⟩ := h
    rfl
  obtain ⟨M, i, rfl, oc, k⟩ := h
  refine ⟨_, (pss_one (ps_ret (pe_tup (pa_cons (pv 0) (pa_cons pe_dnewK pa_nil))))), ?_⟩
  walk_at "rd"
  refine fun p hp => ?_
  have k1 : Kp [] H (upd H p (.dK [])) := Kp.nil.new hp
  have h1 : upd H p (.dK []) p = some (.dK []) := upd_same
  generalize upd H p (.dK []) = H1 at k1 h1 ⊢
  walk_at "rd"
  refine ⟨by simp [sizeLine_eq], fun q hq => k _ _ (k1.new hq) ⟨q, p, rfl, SqT.of upd_same, (Kp.nil.new hq).get h1 (by simp), oc.new Kp.nil hp⟩⟩
abbrev splaces_in : Stmt := topS 3
abbrev Nplaces_in : List Str := ["statement", "block", "item"]
abbrev Pplaces_in : List Str := ["statement"]
theorem scplaces_in : FnScope Nplaces_in Pplaces_in (defScope splaces_in) :=
  ⟨rfl, rfl, rfl, by decide +kernel, rfl, by decide +kernel, by decide +kernel⟩
theorem ok_places_in1 (D : Df K mg "places_in" splaces_in Pplaces_in) (B : Blt mg) {n lv : Nat} {sp2 : Sp} (hlv : 1 ≤ lv) (Gblocks_of : Has P w K mg base CX0 "blocks_of" ["statement"] 1 (spBlocks K))
    (Gplaces_in : Has P w K mg base CX0 "places_in" Pplaces_in lv sp2) (hs : ∀ m, n = m + 1 → sp2 = spPlaces K m) :
    Has P w K mg base CX0 "places_in" Pplaces_in (lv + 1) (spPlaces K n) := by
  refine D.has scplaces_in (fun vs H Q E h => ?_) (fun f cdv A outer s H vs Q E hr h => ?_)
  · obtain ⟨v, sm, rfl, _⟩ := h
    rfl
  obtain ⟨v, sm, rfl, hd, hv, hz, k⟩ := h
  have hst := hv.is.1
  have hpz : ∀ bl ∈ sm.parts, Sm.sizes bl ≤ 10000 := by
    intro bl hbl
    cases sm with
    | pl p => cases hbl
    | ifs t y z =>
      rw [Sm.size] at hz
      simp only [Sm.parts, List.mem_cons, List.not_mem_nil, or_false] at hbl
      rcases hbl with rfl | rfl <;> omega
    | rep kk bb =>
      rw [Sm.size] at hz
      simp only [Sm.parts, List.mem_cons, List.not_mem_nil, or_false] at hbl
      subst hbl
      omega
  refine ⟨_, (pss_one (ps_ret (pe_op op_add pe_int (pe_callB (cr_sum (by rfl)) (by rfl) B.sum (by decide +kernel) (pa_cons (pe_lc (own := [("block", 1)]) (g := gName 1) (by rfl) scplaces_in.nd (pi_list (pe_f Gblocks_of (hr.mono (by omega)) (by rfl) pass0 (pa_cons (pv 0) pa_nil))) (blkOk_by (own := [("block", 1)]) (N := Nplaces_in) (sc := defScope splaces_in) (by decide +kernel)) (fun _ _ _ _ _ => (pg_name (i := 1) scplaces_in.nd rfl (Or.inl rfl))) (fun _ _ _ _ _ => pts_nil) (fun _ _ _ _ _ => (pe_callB (cr_sumK (K := K) rfl rfl) (by rfl) B.sum (by decide +kernel) (pa_cons (pe_lc (own := [("item", 2)]) (g := gName 2) (by rfl) scplaces_in.nd (pi_tupK (K := K) rfl (pv 1)) (blkOk_by (own := [("item", 2)]) (N := Nplaces_in) (sc := _) (by rfl)) (fun _ _ _ _ _ => (pg_name (i := 2) scplaces_in.nd rfl (Or.inl rfl))) (fun _ _ _ _ _ => pts_nil) (fun _ _ _ _ _ => (pe_f Gplaces_in (hr.mono (by omega)) (by rfl) pass0 (pa_cons (pv 2) pa_nil)))) pa_nil)))) pa_nil))))), ?_⟩
  walk_at "rd"
  refine ⟨[], v, sm.d, rfl, hd, hst, fun H2 p ys hp k2 hp2 hY => ?_⟩
  rw [Sm.blks, List.map_map] at hY
  refine r_LcL (SqL.of hp2) fun q hq => ⟨fun j H' => Kp [] H2 H' ∧ H' q = some (.lst ((sm.parts.take j).map fun c => V.int (Sm.sizes c : Nat))), ⟨Kp.nil.new hq, upd_same⟩, fun j H' ⟨q1, _⟩ => SqL.of (q1.get hp2 (by simp)), ?_, ?_⟩
  · rintro j u H3 hu ⟨k3, hq3⟩
    obtain ⟨du, hdu, hud⟩ := hY.get hu
    rw [List.getElem?_map] at hdu
    obtain ⟨pt, hpt, rfl⟩ := Option.map_eq_some_iff.mp hdu
    have hpm : pt ∈ sm.parts := List.mem_of_getElem? hpt
    have hpz1 := hpz pt hpm
    have hud3 := hud.kp0 k3
    obtain ⟨ua, us, rfl, hT3, hL3⟩ := hud3.items
    have hlen : us.length = pt.length := by rw [hL3.len, Sm.ds_map, List.length_map]
    walk_at "rd"
    refine r_LcT hT3 fun q2 hq2 => ⟨fun i H' => Kp [] H3 H' ∧ H' q2 = some (.lst ((pt.take i).map fun c => V.int (c.size : Nat))), ⟨Kp.nil.new hq2, upd_same⟩, fun i H' ⟨q1, _⟩ => sqT_kp q1 hT3, ?_, ?_⟩
    · rintro i x H4 hx ⟨k4, hq4⟩
      obtain ⟨dx, hdx, hxd⟩ := hL3.get hx
      rw [Sm.ds_map, List.getElem?_map] at hdx
      obtain ⟨c, hc, rfl⟩ := Option.map_eq_some_iff.mp hdx
      have hcm : c ∈ pt := List.mem_of_getElem? hc
      obtain ⟨m, rfl⟩ : ∃ m, n = m + 1 := by
        cases n with
        | zero =>
          have := hv.parts pt hpm
          rw [show pt = [] from this] at hcm
          cases hcm
        | succ m => exact ⟨m, rfl⟩
      obtain rfl := hs m rfl
      have hcv : Sm.vd m c := hv.parts pt hpm c hcm
      have hcz : c.size ≤ 10000 := by
        have : c.size ≤ Sm.sizes pt := Sm.size_mem hcm
        omega
      have hxt : Dw [] K H4 x c.d := hxd.kp0 k4
      walk_at "rd"
      refine ⟨x, c, rfl, hxt, hcv, hcz, fun H5 k5 => ?_⟩
      have hq5 := k5.get hq4 (by simp)
      have hil : i < pt.length := (List.getElem?_eq_some_iff.mp hc).1
      have hls := Sm.len_sizes pt
      refine r_LcEnd hq5 (by rw [List.length_map, List.length_take, sizeLine_eq]; omega) ⟨(k4.trans k5).own hq2, ?_⟩
      rw [upd_same, List.take_add_one, hc, List.map_append]
      rfl
    · rintro H4 ⟨k4, hq4⟩
      rw [hlen, List.take_length] at hq4
      have hq34 := k4.get hq3 (by simp)
      walk_at "rd"
      refine ⟨q2, pt.map fun c => ((c.size : Nat) : Int), rfl, SqL.of (by rw [hq4, List.map_map]; rfl), ?_⟩
      rw [Sm.sizes_sum]
      have hjl : j < sm.parts.length := (List.getElem?_eq_some_iff.mp hpt).1
      have hpl : sm.parts.length ≤ 2 := by cases sm <;> simp [Sm.parts]
      refine r_LcEnd hq34 (by rw [List.length_map, List.length_take, sizeLine_eq]; omega) ⟨(k3.trans k4).own hq, ?_⟩
      rw [upd_same, List.take_add_one, hpt, List.map_append]
      rfl
  · rintro H3 ⟨k3, hq3⟩
    have hyl := hY.len
    rw [List.length_map] at hyl
    rw [hyl, List.take_length] at hq3
    walk_at "rd"
    refine ⟨q, sm.parts.map fun c => ((Sm.sizes c : Nat) : Int), rfl, SqL.of (by rw [hq3, List.map_map]; rfl), ?_⟩
    have e : 1 + (sm.parts.map fun c => ((Sm.sizes c : Nat) : Int)).sum = ((sm.size : Nat) : Int) := (Sm.size_sum sm).symm
    walk_at "rd"
    rw [e]
    exact k _ (k2.trans k3)
abbrev sCourse___init__ : Stmt := inClass (topS 9) 0
abbrev NCourse___init__ : List Str := ["self", "number", "fix"]
abbrev PCourse___init__ : List Str := ["self", "number", "fix"]
theorem scCourse___init__ : FnScope NCourse___init__ PCourse___init__ (defScope sCourse___init__) :=
  ⟨rfl, rfl, rfl, by decide +kernel, rfl, by decide +kernel, by decide +kernel⟩
theorem ok_Course_init {C : Addr} (D : DfM K C "__init__" "Course.__init__" sCourse___init__ PCourse___init__) (B : Blt mg) (T : CT K C) {t1 : Tok} (g_INPUT : mg "INPUT" = some (.str "n" t1))
    (Gwhole_sum : Has P w K mg base CX0 "whole_sum" ["number"] 1 (spWholeS K)) : HasM P w K mg base CX0 C "__init__" PCourse___init__ 2 (spInit K C) := by
  refine D.has scCourse___init__ (fun vs H Q E h => ?_) (fun f cdv A outer s H vs Q E hr h => ?_)
  · obtain ⟨sf, dx, a, n, fix, rfl, _⟩ := h
    rfl
  obtain ⟨sf, dx, a, n, fix, rfl, hI, hF, k⟩ := h
  have cC := T.cl
  refine ⟨_, (pss_cons (ps_fld (pv 0) (pe_disp (pps_cons (pe_gstr (by rfl) g_INPUT) (pe_f Gwhole_sum (hr.mono (by omega)) (by rfl) pass0 (pa_cons (pv 1) pa_nil)) pps_nil) (by rfl) (by rfl) (fun z => by cases z) (by decide)) rfl)
      (pss_cons (ps_fld (pv 0) (pe_lst pa_nil) rfl)
      (pss_cons (ps_fld (pv 0) (pe_lst pa_nil) rfl)
      (pss_one (ps_fld (pv 0) (pv 2) rfl))))), ?_⟩
  with_reducible refine r_seq ?_
  with_reducible refine r_sfld ?_
  refine r_disp1 fun nd hnd => ?_
  have k1 : Kp [] H (upd H nd (.dK [])) := Kp.nil.new hnd
  have h1 : upd H nd (.dK []) nd = some (.dK []) := upd_same
  generalize upd H nd (.dK []) = H1 at k1 h1 ⊢
  walk_at "rd"
  refine ⟨[nd], n, rfl, (fun e m => by cases List.mem_singleton.mp m; exact ⟨_, h1⟩), fun H2 z k2 hz => ?_⟩
  have h2 := k2.get h1 (by simp)
  refine ⟨h2, Sum.inr "n", rfl, ?_⟩
  have k12 := k1.trans k2
  have kw := kpW2 (o := .dK [(Sum.inr "n", z)]) h2 trivial
  have hI2 := k12.get hI (by simp)
  have fnd : sf ≠ nd := ne_of_none hI hnd
  have hI3 := kw.get hI2 (by simp [fnd])
  have h3 : upd H2 nd (.dK [(Sum.inr "n", z)]) nd = some (.dK [(Sum.inr "n", z)]) := upd_same
  have hz3 := (hz.kp kw (fun b m => m))
  have k13 : Kp [] H (upd H2 nd (.dK [(Sum.inr "n", z)])) := k12.own hnd
  generalize upd H2 nd (.dK [(Sum.inr "n", z)]) = H3 at kw hI3 h3 hz3 k13 ⊢
  walk_at "rd"
  refine r_SFld hI3 cC T.nN (by simp) ?_
  show tSeq _ _ _ _ (upd H3 sf (.ins C dx [("names", .ref nd)]))
  have ki : Kp [sf] H3 (upd H3 sf (.ins C dx [("names", .ref nd)])) := kpW2 hI3 trivial
  have hI4 : upd H3 sf (.ins C dx [("names", .ref nd)]) sf = some (.ins C dx [("names", .ref nd)]) := upd_same
  have h4 := ki.get h3 (by simp [Ne.symm fnd])
  have z4 : SvT [] K (upd H3 sf (.ins C dx [("names", .ref nd)])) z ⟨n, []⟩ := by
    obtain ⟨a1, d1, e1, e2, e3, e4⟩ := hz3
    exact ⟨a1, d1, e1, sqT_kp ki e2, ki.get e3 (by intro m; rw [List.mem_singleton.mp m, hI3] at e3; cases e3), by simp⟩
  have k4 : Kp [sf] H (upd H3 sf (.ins C dx [("names", .ref nd)])) := (k13.subM (Ms.cons hI trivial Ms.nil) (by simp)).trans ki
  have n4 := hz3
  have z4d : SvT [nd] K (upd H3 sf (.ins C dx [("names", .ref nd)])) z ⟨n, []⟩ := by
    obtain ⟨a1, d1, e1, e2, e3, e4⟩ := hz3
    exact ⟨a1, d1, e1, sqT_kp ki e2, ki.get e3 (by intro m; rw [List.mem_singleton.mp m, hI3] at e3; cases e3), e4⟩
  generalize upd H3 sf (.ins C dx [("names", .ref nd)]) = H4 at ki hI4 h4 z4d k4 ⊢
  clear z4 hz3 hz h3 h2 h1 kw k13 k12 k1 k2 hI3 hI2 ki n4
  walk_at "rd"
  refine ⟨by decide, fun sd hsd => ?_⟩
  have k5 : Kp [] H4 (upd H4 sd (.lst [])) := Kp.nil.new hsd
  have hI5 := k5.get hI4 (by simp)
  have h5 := k5.get h4 (by simp)
  have s5 : upd H4 sd (.lst []) sd = some (.lst []) := upd_same
  have z5 := (z4d.fresh hsd).kp0 k5
  have hsd0 : H sd = none := k4.freeM (Ms.cons hI4 trivial Ms.nil) hsd
  have fsd : sf ≠ sd := ne_of_none hI4 hsd
  have fnsd : nd ≠ sd := ne_of_none h4 hsd
  have k45 := k4.new (o := .lst []) hsd
  generalize upd H4 sd (.lst []) = H5 at k5 hI5 h5 s5 z5 k45 ⊢
  walk_at "rd"
  refine r_SFld hI5 cC T.nS (by simp) ?_
  show tSeq _ _ _ _ (upd H5 sf (.ins C dx [("names", .ref nd), ("said", .ref sd)]))
  have ki : Kp [sf] H5 (upd H5 sf (.ins C dx [("names", .ref nd), ("said", .ref sd)])) := kpW2 hI5 trivial
  have hI6 : upd H5 sf (.ins C dx [("names", .ref nd), ("said", .ref sd)]) sf = some (.ins C dx [("names", .ref nd), ("said", .ref sd)]) := upd_same
  have h6 := ki.get h5 (by simp [Ne.symm fnd])
  have s6 := ki.get s5 (by simp [Ne.symm fsd])
  have k46 := k45.trans ki
  have z6 : SvT [sd, nd] K (upd H5 sf (.ins C dx [("names", .ref nd), ("said", .ref sd)])) z ⟨n, []⟩ := by
    obtain ⟨a1, d1, e1, e2, e3, e4⟩ := z5
    exact ⟨a1, d1, e1, sqT_kp ki e2, ki.get e3 (by intro m; rw [List.mem_singleton.mp m, hI5] at e3; cases e3), e4⟩
  generalize upd H5 sf (.ins C dx [("names", .ref nd), ("said", .ref sd)]) = H6 at ki hI6 h6 s6 z6 k46 ⊢
  walk_at "rd"
  refine ⟨by decide, fun rd hrd => ?_⟩
  have k7 : Kp [] H6 (upd H6 rd (.lst [])) := Kp.nil.new hrd
  have hI7 := k7.get hI6 (by simp)
  have h7 := k7.get h6 (by simp)
  have s7 := k7.get s6 (by simp)
  have r7 : upd H6 rd (.lst []) rd = some (.lst []) := upd_same
  have z7 := (z6.fresh hrd).kp0 k7
  have hrd0 : H rd = none := k46.freeM (Ms.cons hI6 trivial Ms.nil) hrd
  have frd : sf ≠ rd := ne_of_none hI6 hrd
  have fsr : sd ≠ rd := ne_of_none s6 hrd
  have k47 := k46.new (o := .lst []) hrd
  generalize upd H6 rd (.lst []) = H7 at k7 hI7 h7 s7 r7 z7 k47 ⊢
  walk_at "rd"
  refine r_SFld hI7 cC T.nR (by simp) ?_
  show tSeq _ _ _ _ (upd H7 sf (.ins C dx [("names", .ref nd), ("said", .ref sd), ("readings", .ref rd)]))
  have ki : Kp [sf] H7 (upd H7 sf (.ins C dx [("names", .ref nd), ("said", .ref sd), ("readings", .ref rd)])) := kpW2 hI7 trivial
  have hI8 : upd H7 sf (.ins C dx [("names", .ref nd), ("said", .ref sd), ("readings", .ref rd)]) sf = some (.ins C dx [("names", .ref nd), ("said", .ref sd), ("readings", .ref rd)]) := upd_same
  have h8 := ki.get h7 (by simp [Ne.symm fnd])
  have s8 := ki.get s7 (by simp [Ne.symm fsd])
  have r8 := ki.get r7 (by simp [Ne.symm frd])
  have k48 := k47.trans ki
  have z8 : SvT [rd, sd, nd] K (upd H7 sf (.ins C dx [("names", .ref nd), ("said", .ref sd), ("readings", .ref rd)])) z ⟨n, []⟩ := by
    obtain ⟨a1, d1, e1, e2, e3, e4⟩ := z7
    exact ⟨a1, d1, e1, sqT_kp ki e2, ki.get e3 (by intro m; rw [List.mem_singleton.mp m, hI7] at e3; cases e3), e4⟩
  generalize upd H7 sf (.ins C dx [("names", .ref nd), ("said", .ref sd), ("readings", .ref rd)]) = H8 at ki hI8 h8 s8 r8 z8 k48 ⊢
  walk_at "rd"
  refine r_SFld hI8 cC T.nF (by simp) ?_
  show Q .non (upd H8 sf (.ins C dx [("names", .ref nd), ("said", .ref sd), ("readings", .ref rd), ("fix", .ref a)]))
  have ki : Kp [sf] H8 (upd H8 sf (.ins C dx [("names", .ref nd), ("said", .ref sd), ("readings", .ref rd), ("fix", .ref a)])) := kpW2 hI8 trivial
  have k49 := k48.trans ki
  have z9 : SvT [nd, sd, rd] K (upd H8 sf (.ins C dx [("names", .ref nd), ("said", .ref sd), ("readings", .ref rd), ("fix", .ref a)])) z ⟨n, []⟩ := by
    obtain ⟨a1, d1, e1, e2, e3, e4⟩ := z8
    exact ⟨a1, d1, e1, sqT_kp ki e2, ki.get e3 (by intro m; rw [List.mem_singleton.mp m, hI8] at e3; cases e3), by simp only [List.mem_cons, List.not_mem_nil, or_false, not_or] at e4 ⊢; exact ⟨e4.2.2, e4.2.1, e4.1⟩⟩
  refine k _ nd sd rd hnd hsd0 hrd0 k49 ⟨⟨dx, upd_same⟩, ⟨_, ki.get h8 (by simp [Ne.symm fnd]), fun x => ?_, by simp⟩, ⟨[], ki.get s8 (by simp [Ne.symm fsd]), ⟨rfl, fun i v t e => by simp at e⟩⟩, ki.get r8 (by simp [Ne.symm frd]), ⟨a, rfl, sqT_kp k49 hF⟩, fsr⟩
  show (valV [((Sum.inr "n" : Key), z)] (Sum.inr x) = none ∧ (if x = "n" then some (⟨n, []⟩ : Sv) else none) = none) ∨ ∃ v s, valV [((Sum.inr "n" : Key), z)] (Sum.inr x) = some v ∧ (if x = "n" then some (⟨n, []⟩ : Sv) else none) = some s ∧ SvT [nd, sd, rd] K _ v s
  by_cases e : x = "n"
  · subst e
    exact .inr ⟨z, _, valV_pos rfl, if_pos rfl, z9⟩
  · rw [valV_neg (fun q => e (by injection q with q; exact q.symm)), if_neg e]
    exact .inl ⟨rfl, rfl⟩
abbrev sCourse_reading : Stmt := inClass (topS 9) 1
abbrev NCourse_reading : List Str := ["self", "place"]
abbrev PCourse_reading : List Str := ["self", "place"]
theorem scCourse_reading : FnScope NCourse_reading PCourse_reading (defScope sCourse_reading) :=
  ⟨rfl, rfl, rfl, by decide +kernel, rfl, by decide +kernel, by decide +kernel⟩
theorem ok_Course_reading {C : Addr} (D : DfM K C "reading" "Course.reading" sCourse_reading PCourse_reading) (B : Blt mg) (T : CT K C) {t1 : Tok} (g_NOTHING : mg "NOTHING" = some (.int 0 t1))
    (Gwhole_sum : Has P w K mg base CX0 "whole_sum" ["number"] 1 (spWholeS K)) : HasM P w K mg base CX0 C "reading" PCourse_reading 2 (spRead K C) := by
  refine D.has scCourse_reading (fun vs H Q E h => ?_) (fun f cdv A outer s H vs Q E hr h => ?_)
  · obtain ⟨sf, nd, sd, rd, fv, fix, st, L, p, rfl, _⟩ := h
    rfl
  obtain ⟨sf, nd, sd, rd, fv, fix, st, L, p, rfl, Cr, hm, k⟩ := h
  have cC := T.cl
  have nF := T.nF
  have nR := T.nR
  obtain ⟨dx, hI⟩ := Cr.obj
  obtain ⟨fa, rfl, hfx⟩ := Cr.fixed
  have hrd := Cr.made
  obtain ⟨n1, n2, n3, n4, n5⟩ := Cr.nds
  refine ⟨_, (pss_cons (ps_if (pt_cmpR op_in_seq (pv 1) (pe_fld (pv 0) rfl) (by rfl)) (pss_one (ps_ret (pe_f Gwhole_sum (hr.mono (by omega)) (by rfl) pass0 (pa_cons (pe_gint (by rfl) g_NOTHING) pa_nil))))
        pss_nil)
      (pss_cons (ps_expr (pe_bm PySem.F.plainAttrs_list PySem.F.slot_list_append PySem.F.type_list_append mt_append (pe_fld (pv 0) rfl) (pa_cons (pv 1) pa_nil)))
      (pss_one (ps_ret (pe_tup (pa_cons (pe_gint (by rfl) g_NOTHING) (pa_cons (pe_disp (pps_cons (pe_op op_sub (pe_callB c_len (by rfl) B.len (by decide +kernel) (pa_cons (pe_fld (pv 0) rfl) pa_nil)) pe_int) pe_int pps_nil) (by rfl) (by rfl) (fun z => by cases z) (by decide)) pa_nil))))))), ?_⟩
  walk_at "rd"
  refine r_in (.inr hfx) rfl (flat_ints fix) ?_
  rw [inV_ints]
  unfold rdS at k
  by_cases hp : p ∈ fix
  · rw [if_pos hp] at k
    rw [decide_eq_true hp]
    walk_at "rd"
    exact ⟨[nd, sd, rd], 0, rfl, Cr.ms.oc, fun H1 z k1 hz => k _ z (k1.subM Cr.ms (by simp)) (Cr.kp0 k1) hz⟩
  · rw [if_neg hp] at k
    rw [decide_eq_false hp]
    walk_at "rd"
    rotate_left
    · rw [List.length_map, sizeLine_eq]
      omega
    have Cr1 := Cr.read (q := p)
    have k1 := Cr.kpr (q := p)
    have hI1 : upd H rd (.lst (st.made.map V.int ++ [.int p])) sf = some (.ins C dx [("names", .ref nd), ("said", .ref sd), ("readings", .ref rd), ("fix", .ref fa)]) := by rw [upd_ne n5]; exact hI
    have hr1 : upd H rd (.lst (st.made.map V.int ++ [.int p])) rd = some (.lst (st.made.map V.int ++ [.int p])) := upd_same
    generalize upd H rd (.lst (st.made.map V.int ++ [.int p])) = H1 at Cr1 k1 hI1 hr1 ⊢
    refine r_disp1 fun q hq => ?_
    have k2 : Kp [] H1 (upd H1 q (.dK [])) := Kp.nil.new hq
    have hI2 := k2.get hI1 (by simp)
    have hr2 := k2.get hr1 (by simp)
    have h2 : upd H1 q (.dK []) q = some (.dK []) := upd_same
    generalize upd H1 q (.dK []) = H2 at k2 hI2 hr2 h2 ⊢
    walk_at "rd"
    have e : (((st.made.map V.int ++ [V.int p]).length : Nat) : Int) - 1 = ((st.made.length : Nat) : Int) := by
      rw [List.length_append, List.length_map, List.length_singleton]
      omega
    rw [e]
    refine ⟨h2, Sum.inl ((st.made.length : Nat) : Int), rfl, ?_⟩
    have k3 := kpW2 (o := .dK [((Sum.inl ((st.made.length : Nat) : Int) : Key), .int 1)]) h2 trivial
    have h3 : upd H2 q (.dK [((Sum.inl ((st.made.length : Nat) : Int) : Key), .int 1)]) q = some (.dK [((Sum.inl ((st.made.length : Nat) : Int) : Key), .int 1)]) := upd_same
    have k13 : Kp [] H1 (upd H2 q (.dK [((Sum.inl ((st.made.length : Nat) : Int) : Key), .int 1)])) := k2.own hq
    have hqM : q ∉ [nd, sd, rd] := Cr1.ms.oc.new Kp.nil hq
    generalize upd H2 q (.dK [((Sum.inl ((st.made.length : Nat) : Int) : Key), .int 1)]) = H3 at k3 h3 k13 ⊢
    walk_at "rd"
    refine ⟨by simp [sizeLine_eq], fun t ht => ?_⟩
    have k4 : Kp [] H1 (upd H3 t (.tup [.int 0, .ref q])) := k13.new ht
    exact k _ _ (k1.trans (k4.subM Cr1.ms (by simp))) (Cr1.kp0 k4) ⟨t, q, rfl, SqT.of upd_same, (Kp.nil.new ht).get h3 (by simp), hqM⟩
abbrev sCourse_worth : Stmt := inClass (topS 9) 2
abbrev NCourse_worth : List Str := ["self", "expression", "place", "sort", "first", "second", "one"]
abbrev PCourse_worth : List Str := ["self", "expression", "place"]
theorem scCourse_worth : FnScope NCourse_worth PCourse_worth (defScope sCourse_worth) :=
  ⟨rfl, rfl, rfl, by decide +kernel, rfl, by decide +kernel, by decide +kernel⟩
theorem ok_Course_worth1 {C : Addr} (D : DfM K C "worth" "Course.worth" sCourse_worth PCourse_worth) (B : Blt mg) (T : CT K C) {n lv : Nat} {sp2 : Sp} (hlv : 2 ≤ lv) {t1 : Tok} (g_NOTHING : mg "NOTHING" = some (.int 0 t1))
    (Gwhole_sum : Has P w K mg base CX0 "whole_sum" ["number"] 1 (spWholeS K)) (Gadded : Has P w K mg base CX0 "added" ["one", "other", "times"] 1 (spAdded K))
    (GCourse_reading : HasM P w K mg base CX0 C "reading" ["self", "place"] 2 (spRead K C)) (GCourse_worth : HasM P w K mg base CX0 C "worth" PCourse_worth lv sp2) (hs : ∀ m, n = m + 1 → sp2 = spWorth K C m) :
    HasM P w K mg base CX0 C "worth" PCourse_worth (lv + 1) (spWorth K C n) := by
  refine D.has scCourse_worth (fun vs H Q E h => ?_) (fun f cdv A outer s H vs Q E hr h => ?_)
  · obtain ⟨sf, nd, sd, rd, fv, v, fix, st, L, b, p, e, rfl, _⟩ := h
    rfl
  obtain ⟨sf, nd, sd, rd, fv, v, fix, st, L, b, p, e, rfl, Cr, hd, hv, hok, hb, hm, k⟩ := h
  have cC := T.cl
  have nN := T.nN
  obtain ⟨dx, hI⟩ := Cr.obj
  refine ⟨_, (pss_cons (ps_if (pt_val (pe_callB c_is2 (by rfl) B.isinstance (by decide +kernel) (pa_cons (pv 1) (pa_cons (pe_ty (T := "int") (by rfl) B.int (by decide +kernel)) pa_nil)))) (pss_one (ps_ret (pe_f Gwhole_sum (hr.mono (by omega)) (by rfl) pass0 (pa_cons (pv 1) pa_nil))))
        pss_nil)
      (pss_cons (ps_if (pt_val (pe_callB c_is2 (by rfl) B.isinstance (by decide +kernel) (pa_cons (pv 1) (pa_cons (pe_ty (T := "str") (by rfl) B.str (by decide +kernel)) pa_nil)))) (pss_one (ps_ret (pe_ifExp (pt_cmp (pc_din hr.hu (pv 1) (pe_fld (pv 0) rfl))) (pe_dget hr.hu (pe_fld (pv 0) rfl) (pv 1) (fun _ _ => rfl)) (pe_m GCourse_reading cC (hr.mono (by omega)) pass0 (pv 0) (pa_cons (pv 2) pa_nil)))))
        pss_nil)
      (pss_cons (ps_asg (pv 1) (pg_tup rfl (pgs_cons (pg_name (i := 3) scCourse_worth.nd rfl (Or.inl rfl)) (pgs_cons (pg_name (i := 4) scCourse_worth.nd rfl (Or.inl rfl)) (pgs_cons (pg_name (i := 5) scCourse_worth.nd rfl (Or.inl rfl)) pgs_nil)))))
      (pss_cons (ps_if (pt_cmpR op_eq (pv 3) pe_str (nomark _)) (pss_one (ps_ret (pe_f Gadded (hr.mono (by omega)) (by rfl) pass0 (pa_cons (pe_f Gwhole_sum (hr.mono (by omega)) (by rfl) pass0 (pa_cons (pe_gint (by rfl) g_NOTHING) pa_nil)) (pa_cons (pe_m GCourse_worth cC (hr.mono (by omega)) pass0 (pv 0) (pa_cons (pv 5) (pa_cons (pv 2) pa_nil))) (pa_cons (pv 4) pa_nil))))))
        pss_nil)
      (pss_cons (ps_set (i := 6) scCourse_worth.nd rfl (Or.inl rfl) (pe_m GCourse_worth cC (hr.mono (by omega)) pass0 (pv 0) (pa_cons (pv 4) (pa_cons (pv 2) pa_nil))))
      (pss_one (ps_ret (pe_f Gadded (hr.mono (by omega)) (by rfl) pass0 (pa_cons (pv 6) (pa_cons (pe_m GCourse_worth cC (hr.mono (by omega)) pass0 (pv 0) (pa_cons (pv 5) (pa_cons (pv 2) pa_nil))) (pa_cons (pe_ifExp (pt_cmpR op_eq (pv 3) pe_str (nomark _)) pe_int (pe_un un_neg pe_int)) pa_nil))))))))))), ?_⟩
  cases n with
  | zero => exact hv.elim
  | succ n =>
  obtain rfl := hs n rfl
  have hp2 : 2 ^ (n + 1) = 2 ^ n + 2 ^ n := by rw [Nat.pow_succ]; omega
  have hp1 := Nat.one_le_two_pow (n := n)
  cases e with
  | int i =>
    obtain rfl := hd.isInt
    have hw : Dw [] K H (.int i) (.int i) := .int i
    walk_at "rd"
    exact ⟨[nd, sd, rd], i, rfl, Cr.ms.oc, fun H1 z k1 hz => k _ z (k1.subM Cr.ms (by simp)) (Cr.kp0 k1) hz⟩
  | name x =>
    obtain rfl := hd.isStr
    have hw : Dw [] K H (.str x) (.str x) := .str x
    obtain ⟨kvs, hN, hE, hL⟩ := Cr.names
    walk_at "rd"
    rw [Ex.ev] at k
    rcases hE x with ⟨e1, e2⟩ | ⟨vx, sx, e1, e2, e3⟩
    · rw [e2] at k
      rw [e1, Option.isSome_none]
      walk_at "rd"
      exact ⟨sf, nd, sd, rd, fv, fix, st, L, p, rfl, Cr, by omega, k⟩
    · rw [e2] at k
      rw [e1, Option.isSome_some]
      walk_at "rd"
      refine ⟨nd, vx, rfl, dget_k hN e1, ?_⟩
      exact k _ _ (Kp.reflM Cr.ms) Cr e3
  | bin o x y =>
    obtain ⟨hy, hx⟩ := hv
    have hdw : Dw [] K H v (.tuple [.str o, x.d, y.d]) := Dt.dw (show Dt K H v (.tuple [.str o, x.d, y.d]) from hd)
    obtain ⟨a, v0, v1, v2, rfl, hT, h0, h1, h2⟩ := Dt.is3 hd
    obtain rfl := h0.isStr
    have hw : Dw [] K H (.ref a) (.tuple [.str o, x.d, y.d]) := hdw
    rw [Ex.ev] at k
    walk_at "rd"
    refine ifd (fun c1 => ?_) (fun c1 => ?_)
    · have ho : o = "times" := by injection c1
      subst ho
      rw [if_pos rfl] at k
      rcases hx with ⟨_, i, rfl, i1, i2⟩ | ⟨ho, _⟩
      · obtain rfl := h1.isInt
        walk_at "rd"
        refine ⟨[nd, sd, rd], 0, rfl, Cr.ms.oc, fun H1 z1 k1 hz1 => ?_⟩
        have Cr1 := Cr.kp0 k1
        have hI1 := k1.get hI (by simp)
        walk_at "rd"
        refine ⟨sf, nd, sd, rd, fv, _, fix, st, L, b, p, y, rfl, Cr1, h2.kp k1, hy, hok, hb, by omega, fun H2 z2 k2 Cr2 hz2 => ?_⟩
        have ev := Ex.ev_ok fix p hy hok hb
        walk_at "rd"
        refine ⟨[nd, sd, rd], _, _, ⟨0, []⟩, _, i, b + 4 * n, _, rfl, Cr2.ms.oc, hz1.kp k2 (fun b m => m), hz2, ⟨Nat.lt_of_lt_of_le Nat.zero_lt_one Nat.one_le_two_pow, (fun p hp => nomatch hp), (fun p hp => nomatch hp), List.nodup_nil⟩, ev.2, by have := ev.1.le; omega, i1, i2, fun H3 z3 k3 hz3 => ?_⟩
        exact k _ _ (((k1.subM Cr.ms (by simp)).trans k2).trans (k3.subM Cr2.ms (by simp))) (Cr2.kp0 k3) hz3
      · rcases ho with ho | ho
        · exact absurd ho (by decide +kernel)
        · exact absurd ho (by decide +kernel)
    · have ho : o ≠ "times" := fun z => c1 (by rw [z])
      rw [if_neg ho] at k
      rcases hx with ⟨z, _⟩ | ⟨ho2, hxv⟩
      · exact absurd z ho
      walk_at "rd"
      refine ⟨sf, nd, sd, rd, fv, _, fix, st, L, b, p, x, rfl, Cr, h1, hxv, hok, hb, by omega, fun H1 z1 k1 Cr1 hz1 => ?_⟩
      have ev1 := Ex.ev_ok fix p hxv hok hb
      have hok1 : ∀ z s, (x.ev fix p st).2.env z = some s → s.ok b (x.ev fix p st).2.made.length := fun z s e => by
        rw [ev1.1.env] at e
        exact (hok z s e).mono (Nat.le_refl _) ev1.1.ge
      obtain ⟨dx1, hI1⟩ := Cr1.obj
      have hl1 := ev1.1.le
      walk_at "rd"
      refine ⟨sf, nd, sd, rd, fv, _, fix, _, L, b, p, y, rfl, Cr1, h2.kp k1, hy, hok1, hb, by omega, fun H2 z2 k2 Cr2 hz2 => ?_⟩
      have ev2 := Ex.ev_ok fix p hy hok1 hb
      have hl2 := ev2.1.le
      walk_at "rdj"
      refine r_ifJ (fun v H' => v = .int (if o = "plus" then 1 else -1) ∧ H' = H2) (fun Q' kQ => ?_) ?_
      · walk_at "rd"
        refine ifd (fun c2 => ?_) (fun c2 => ?_)
        · walk_at "rd"
          refine kQ _ _ ⟨?_, rfl⟩
          rw [if_pos (by injection c2)]
        · walk_at "rd"
          refine kQ _ _ ⟨?_, rfl⟩
          rw [if_neg (fun z => c2 (by rw [z]))]
      rintro v H' ⟨rfl, rfl⟩
      have t9 : -9 ≤ (if o = "plus" then (1 : Int) else -1) ∧ (if o = "plus" then (1 : Int) else -1) ≤ 9 := by split <;> omega
      walk_at "rd"
      refine ⟨[nd, sd, rd], _, _, _, _, _, b + 4 * n, _, rfl, Cr2.ms.oc, hz1.kp k2 (fun b m => m), hz2, ev1.2.mono (Nat.le_refl _) ev2.1.ge, ev2.2, by omega, t9.1, t9.2, fun H3 z3 k3 hz3 => ?_⟩
      exact k _ _ ((k1.trans k2).trans (k3.subM Cr2.ms (by simp))) (Cr2.kp0 k3) hz3
abbrev sCourse_truth : Stmt := inClass (topS 9) 3
abbrev NCourse_truth : List Str := ["self", "test", "place", "found", "value", "many", "by"]
abbrev PCourse_truth : List Str := ["self", "test", "place"]
theorem scCourse_truth : FnScope NCourse_truth PCourse_truth (defScope sCourse_truth) :=
  ⟨rfl, rfl, rfl, by decide +kernel, rfl, by decide +kernel, by decide +kernel⟩
theorem ok_Course_truth1 {C : Addr} (D : DfM K C "truth" "Course.truth" sCourse_truth PCourse_truth) (B : Blt mg) (T : CT K C) {n lv : Nat} {sp2 : Sp} (hlv : 5 ≤ lv)
    (Gadded : Has P w K mg base CX0 "added" ["one", "other", "times"] 1 (spAdded K))
    (GCourse_worth : HasM P w K mg base CX0 C "worth" ["self", "expression", "place"] 5 (spWorth K C 3)) (GCourse_truth : HasM P w K mg base CX0 C "truth" PCourse_truth lv sp2) (hs : ∀ m, n = m + 1 → sp2 = spTruth K C m) :
    HasM P w K mg base CX0 C "truth" PCourse_truth (lv + 1) (spTruth K C n) := by
  refine D.has scCourse_truth (fun vs H Q E h => ?_) (fun f cdv A outer s H vs Q E hr h => ?_)
  · obtain ⟨sf, nd, sd, rd, fv, v, fix, st, L, b, p, t, rfl, _⟩ := h
    rfl
  obtain ⟨sf, nd, sd, rd, fv, v, fix, st, L, b, p, t, rfl, Cr, hd, hv, hok, hb, hm, k⟩ := h
  have cC := T.cl
  have nN := T.nN
  obtain ⟨dx, hI⟩ := Cr.obj
  have h8 : 2 ^ 3 = 8 := rfl
  refine ⟨_, (pss_cons (ps_if (pt_cmpR op_eq (pe_ix ix_tup (pv 1) pe_int (fun _ _ => rfl)) pe_str (nomark _)) (pss_cons (ps_set (i := 3) scCourse_truth.nd rfl (Or.inl rfl) (pe_m GCourse_truth cC (hr.mono (by omega)) pass0 (pv 0) (pa_cons (pe_ix ix_tup (pv 1) pe_int (fun _ _ => rfl)) (pa_cons (pv 2) pa_nil))))
      (pss_one (ps_ret (pe_ifExp (pt_cmpR op_isN (pv 3) pe_non (nomark _)) pe_non (pe_not (pv 3))))))
        pss_nil)
      (pss_cons (ps_if (pt_cmpR op_eq (pe_ix ix_tup (pv 1) pe_int (fun _ _ => rfl)) pe_str (nomark _)) (pss_one (ps_ret (pe_cmp (pc_din hr.hu (pe_ix ix_tup (pv 1) pe_int (fun _ _ => rfl)) (pe_fld (pv 0) rfl)))))
        pss_nil)
      (pss_cons (ps_set (i := 4) scCourse_truth.nd rfl (Or.inl rfl) (pe_m GCourse_worth cC (hr.mono (by omega)) pass0 (pv 0) (pa_cons (pe_ix ix_tup (pv 1) pe_int (fun _ _ => rfl)) (pa_cons (pv 2) pa_nil))))
      (pss_cons (ps_if (pt_cmpR op_eq (pe_ix ix_tup (pv 1) pe_int (fun _ _ => rfl)) pe_str (nomark _)) (pss_cons (ps_set (i := 4) scCourse_truth.nd rfl (Or.inl rfl) (pe_f Gadded (hr.mono (by omega)) (by rfl) pass0 (pa_cons (pv 4) (pa_cons (pe_m GCourse_worth cC (hr.mono (by omega)) pass0 (pv 0) (pa_cons (pe_ix ix_tup (pv 1) pe_int (fun _ _ => rfl)) (pa_cons (pv 2) pa_nil))) (pa_cons (pe_un un_neg pe_int) pa_nil)))))
      (pss_one (ps_ret (pe_ifExp (pt_cmpR (op_eqNil hr.h64) (pe_lock (pe_lc (own := [("many", 5)]) (g := gName 5) (by rfl) scCourse_truth.nd (pi_values (pe_ix ix_tup (pv 4) pe_int (fun _ _ => rfl))) (blkOk_by (own := [("many", 5)]) (N := NCourse_truth) (sc := defScope sCourse_truth) (by decide +kernel)) (fun _ _ _ _ _ => (pg_name (i := 5) scCourse_truth.nd rfl (Or.inl rfl))) (fun _ _ _ _ _ => (pts_one (pt_cmpR op_ne (pv 5) pe_int (nomark _)))) (fun _ _ _ _ _ => (pv 5)))) (pe_lst pa_nil) (nomark _)) (pe_cmpR op_lt (pe_ix ix_tup (pv 4) pe_int (fun _ _ => rfl)) pe_int (nomark _)) pe_non))))
        pss_nil)
      (pss_cons (ps_set (i := 6) scCourse_truth.nd rfl (Or.inr rfl) (pe_ix ix_tup (pv 1) pe_int (fun _ _ => rfl)))
      (pss_one (ps_ret (pe_ifExp (pt_cmpR (op_eqNil hr.h64) (pe_lock (pe_lc (own := [("many", 5)]) (g := gName 5) (by rfl) scCourse_truth.nd (pi_values (pe_ix ix_tup (pv 4) pe_int (fun _ _ => rfl))) (blkOk_by (own := [("many", 5)]) (N := NCourse_truth) (sc := defScope sCourse_truth) (by decide +kernel)) (fun _ _ _ _ _ => (pg_name (i := 5) scCourse_truth.nd rfl (Or.inl rfl))) (fun _ _ _ _ _ => (pts_one (pt_cmpR op_ne (pe_op op_mod (pv 5) (pv 6)) pe_int (nomark _)))) (fun _ _ _ _ _ => (pv 5)))) (pe_lst pa_nil) (nomark _)) (pe_cmpR op_eq (pe_op op_mod (pe_ix ix_tup (pv 4) pe_int (fun _ _ => rfl)) (pv 6)) (pe_ix ix_tup (pv 1) pe_int (fun _ _ => rfl)) (nomark _)) pe_non)))))))), ?_⟩
  cases t with
  | not t =>
    cases n with
    | zero => exact hv.elim
    | succ n =>
    obtain rfl := hs n rfl
    obtain ⟨a, v0, v1, rfl, hT, h0, h1⟩ := Dt.is2 hd
    obtain rfl := h0.isStr
    walk_at "rd"
    refine ⟨sf, nd, sd, rd, fv, _, fix, st, L, b, p, t, rfl, Cr, h1, hv, hok, hb, hm, fun H1 k1 Cr1 => ?_⟩
    have fin : Q (trV ((t.tr fix p st).1.map (! ·))) H1 := k H1 k1 Cr1
    cases hr : (t.tr fix p st).1 with
    | none =>
      rw [hr] at fin
      walk_at "rd"
      refine ⟨rfl, ?_⟩
      walk_at "rd"
      refine ifd (fun _ => ?_) (fun z => absurd rfl z)
      walk_at "rd"
      exact fin
    | some bb =>
      rw [hr] at fin
      have hne : ¬ V.bl bb = V.non := fun z => by cases z
      show gName _ (V.bl bb) _ _ _
      walk_at "rd"
      refine ⟨rfl, ?_⟩
      walk_at "rd"
      refine ifd (fun z => absurd z hne) (fun _ => ?_)
      walk_at "rd"
      exact fin
  | given x =>
    obtain ⟨a, v0, v1, rfl, hT, h0, h1⟩ := Dt.is2 hd
    obtain rfl := h0.isStr
    obtain rfl := h1.isStr
    obtain ⟨kvs, hN, hE, hL⟩ := Cr.names
    have fin : Q (.bl (st.env x).isSome) H := k H (Kp.reflM Cr.ms) Cr
    walk_at "rd"
    rcases hE x with ⟨e1, e2⟩ | ⟨vx, sx, e1, e2, e3⟩
    · rw [e2] at fin
      rw [e1]
      exact fin
    · rw [e2] at fin
      rw [e1]
      exact fin
  | rest e c r =>
    have hv' : e.vd 3 ∧ 2 ≤ c ∧ c ≤ 6 ∧ 0 ≤ r ∧ r ≤ c - 1 := by cases n <;> exact hv
    obtain ⟨hv', c1, c2, r1, r2⟩ := hv'
    obtain ⟨a, v0, v1, v2, v3, rfl, hT, h0, h1, h2, h3⟩ := Dt.is4 hd
    obtain rfl := h0.isStr
    obtain rfl := h2.isInt
    obtain rfl := h3.isInt
    walk_at "rd"
    refine ⟨sf, nd, sd, rd, fv, _, fix, st, L, b, p, e, rfl, Cr, h1, hv', hok, hb, by omega, fun H1 z1 k1 Cr1 hz1 => ?_⟩
    have ev := Ex.ev_ok fix p hv' hok hb
    have hl := ev.1.le
    have ll := ev.2.len
    have hT1 := sqT_kp k1 hT
    obtain ⟨a1, d1, rfl, hS1, hD1, hn1⟩ := hz1
    have fin : ∀ H2, Kp [] H1 H2 → Q (trV (restV c r (e.ev fix p st).1)) H2 := fun H2 k2 => k H2 (k1.trans (k2.subM Cr1.ms (by simp))) (Cr1.kp0 k2)
    unfold restV at fin
    generalize (e.ev fix p st).1 = sv at hS1 hD1 ll fin
    walk_at "rdj"
    refine r_ifJ (fun v H' => ∃ H0, Kp [] H1 H0 ∧ H' = H0 ∧ v = trV (if sv.non (fun x => !decide (x % c = 0)) = true then some (decide (sv.n % c = r)) else none)) (fun Q' kQ => ?_) ?_
    · walk_at "rd"
      refine r_lockE hD1 trivial fun od => ?_
      have hTL := sqT_lock (w := .frz od (.dK (kvI sv.m))) hS1 hD1 trivial
      generalize hHL : upd H1 d1 (.frz od (.dK (kvI sv.m))) = HL at hTL ⊢
      have hdL : HL d1 = some (.frz od (.dK (kvI sv.m))) := by rw [← hHL]; exact upd_same
      walk_at "rd"
      refine r_LcVf (f := (fun x => !decide (x % c = 0))) hdL (kvI_vals sv.m) (by rw [List.length_map]; omega) (fun c H' R h => ?_) (fun c H' R h => ?_) (fun v => rfl) fun q hq => ?_
      · walk_at "rd"
        · rw [dec_int]
          exact h
        · omega
      · walk_at "rd"
        exact h
      refine ⟨by rw [upd_ne (ne_of_none hdL hq)]; exact hdL, ?_⟩
      have kk : Kp [] H1 (upd (upd HL q (.lst (((sv.m.map (·.2)).filter (fun x => !decide (x % c = 0))).map V.int))) d1 (.dK (kvI sv.m))) := Kp.unlock (od := od) (by rw [hHL]; exact Kp.nil.new hq) hD1 (by simp)
      have hq2 : upd (upd HL q (.lst (((sv.m.map (·.2)).filter (fun x => !decide (x % c = 0))).map V.int))) d1 (.dK (kvI sv.m)) q = some (.lst (((sv.m.map (·.2)).filter (fun x => !decide (x % c = 0))).map V.int)) := by rw [upd_ne (Ne.symm (ne_of_none hdL hq))]; exact upd_same
      generalize upd (upd HL q (.lst (((sv.m.map (·.2)).filter (fun x => !decide (x % c = 0))).map V.int))) d1 (.dK (kvI sv.m)) = H5 at kk hq2 ⊢
      walk_at "rd"
      refine ⟨by rw [sizeLine_eq]; decide, fun p5 hp5 => ?_⟩
      have hq6 : upd H5 p5 (.lst []) q = _ := (upd_ne (ne_of_none hq2 hp5)).trans hq2
      have hp6 : upd H5 p5 (.lst []) p5 = some (.lst []) := upd_same
      have k6 : Kp [] H5 (upd H5 p5 (.lst [])) := Kp.nil.new hp5
      have hS6 := sqT_kp (kk.trans k6) hS1
      have hTq := sqT_kp (kk.trans k6) hT1
      generalize upd H5 p5 (.lst []) = H6 at k6 hS6 hTq hq6 hp6 ⊢
      walk_at "rd"
      have he : (((sv.m.map (·.2)).filter (fun x => !decide (x % c = 0))).map V.int).isEmpty = sv.non (fun x => !decide (x % c = 0)) := by unfold Sv.non; cases (sv.m.map (·.2)).filter (fun x => !decide (x % c = 0)) <;> rfl
      rw [he]
      cases hn : sv.non (fun x => !decide (x % c = 0)) with
      | true =>
        rw [hn] at kQ
        walk_at "rd"
        · exact kQ _ _ ⟨_, kk.trans k6, rfl, by rw [dec_int]; rfl⟩
        · omega
      | false =>
        rw [hn] at kQ
        walk_at "rd"
        exact kQ _ _ ⟨_, kk.trans k6, rfl, rfl⟩
    · rintro v H' ⟨H0, k0, rfl, rfl⟩
      exact fin _ k0
  | less x y =>
    have hv' : x.vd 3 ∧ y.vd 3 := by cases n <;> exact hv
    obtain ⟨a, v0, v1, v2, rfl, hT, h0, h1, h2⟩ := Dt.is3 hd
    obtain rfl := h0.isStr
    walk_at "rd"
    refine ⟨sf, nd, sd, rd, fv, _, fix, st, L, b, p, x, rfl, Cr, h1, hv'.1, hok, hb, by omega, fun H1 z1 k1 Cr1 hz1 => ?_⟩
    have ev1 := Ex.ev_ok fix p hv'.1 hok hb
    have hok1 : ∀ z s, (x.ev fix p st).2.env z = some s → s.ok b (x.ev fix p st).2.made.length := fun z s e => by
      rw [ev1.1.env] at e
      exact (hok z s e).mono (Nat.le_refl _) ev1.1.ge
    have hl1 := ev1.1.le
    have hT1 := sqT_kp k1 hT
    obtain ⟨dx1, hI1⟩ := Cr1.obj
    walk_at "rd"
    refine ⟨sf, nd, sd, rd, fv, _, fix, _, L, b, p, y, rfl, Cr1, h2.kp k1, hv'.2, hok1, hb, by omega, fun H2 z2 k2 Cr2 hz2 => ?_⟩
    have ev2 := Ex.ev_ok fix p hv'.2 hok1 hb
    have hl2 := ev2.1.le
    walk_at "rd"
    refine ⟨[nd, sd, rd], _, _, _, _, _, b + 4 * 3, _, rfl, Cr2.ms.oc, hz1.kp k2 (fun b m => m), hz2, ev1.2.mono (Nat.le_refl _) ev2.1.ge, ev2.2, by omega, by omega, by omega, fun H3 z3 k3 hz3 => ?_⟩
    have ll := ((ev1.2.mono (Nat.le_refl _) ev2.1.ge).both ev2.2 (t := -1) (by omega) (by omega)).len
    obtain ⟨a1, d1, rfl, hS1, hD1, hn1⟩ := hz3
    have fin : ∀ H4, Kp [] H3 H4 → Q (trV (lessV (both (x.ev fix p st).1 (y.ev fix p (x.ev fix p st).2).1 (-1)))) H4 := fun H4 k4 => k H4 ((k1.trans k2).trans ((k3.trans k4).subM Cr2.ms (by simp))) (Cr2.kp0 (k3.trans k4))
    unfold lessV at fin
    generalize both (x.ev fix p st).1 (y.ev fix p (x.ev fix p st).2).1 (-1) = sv at hS1 hD1 ll fin
    walk_at "rdj"
    refine r_ifJ (fun v H' => ∃ H0, Kp [] H3 H0 ∧ H' = H0 ∧ v = trV (if sv.non (fun x => !decide (x = 0)) = true then some (decide (sv.n < 0)) else none)) (fun Q' kQ => ?_) ?_
    · walk_at "rd"
      refine r_lockE hD1 trivial fun od => ?_
      have hTL := sqT_lock (w := .frz od (.dK (kvI sv.m))) hS1 hD1 trivial
      generalize hHL : upd H3 d1 (.frz od (.dK (kvI sv.m))) = HL at hTL ⊢
      have hdL : HL d1 = some (.frz od (.dK (kvI sv.m))) := by rw [← hHL]; exact upd_same
      walk_at "rd"
      refine r_LcVf (f := (fun x => !decide (x = 0))) hdL (kvI_vals sv.m) (by rw [List.length_map]; omega) (fun c H' R h => ?_) (fun c H' R h => ?_) (fun v => rfl) fun q hq => ?_
      · walk_at "rd"
        rw [dec_int]
        exact h
      · walk_at "rd"
        exact h
      refine ⟨by rw [upd_ne (ne_of_none hdL hq)]; exact hdL, ?_⟩
      have kk : Kp [] H3 (upd (upd HL q (.lst (((sv.m.map (·.2)).filter (fun x => !decide (x = 0))).map V.int))) d1 (.dK (kvI sv.m))) := Kp.unlock (od := od) (by rw [hHL]; exact Kp.nil.new hq) hD1 (by simp)
      have hq2 : upd (upd HL q (.lst (((sv.m.map (·.2)).filter (fun x => !decide (x = 0))).map V.int))) d1 (.dK (kvI sv.m)) q = some (.lst (((sv.m.map (·.2)).filter (fun x => !decide (x = 0))).map V.int)) := by rw [upd_ne (Ne.symm (ne_of_none hdL hq))]; exact upd_same
      generalize upd (upd HL q (.lst (((sv.m.map (·.2)).filter (fun x => !decide (x = 0))).map V.int))) d1 (.dK (kvI sv.m)) = H5 at kk hq2 ⊢
      walk_at "rd"
      refine ⟨by rw [sizeLine_eq]; decide, fun p5 hp5 => ?_⟩
      have hq6 : upd H5 p5 (.lst []) q = _ := (upd_ne (ne_of_none hq2 hp5)).trans hq2
      have hp6 : upd H5 p5 (.lst []) p5 = some (.lst []) := upd_same
      have k6 : Kp [] H5 (upd H5 p5 (.lst [])) := Kp.nil.new hp5
      have hS6 := sqT_kp (kk.trans k6) hS1
      generalize upd H5 p5 (.lst []) = H6 at k6 hS6 hq6 hp6 ⊢
      walk_at "rd"
      have he : (((sv.m.map (·.2)).filter (fun x => !decide (x = 0))).map V.int).isEmpty = sv.non (fun x => !decide (x = 0)) := by unfold Sv.non; cases (sv.m.map (·.2)).filter (fun x => !decide (x = 0)) <;> rfl
      rw [he]
      cases hn : sv.non (fun x => !decide (x = 0)) with
      | true =>
        rw [hn] at kQ
        walk_at "rd"
        exact kQ _ _ ⟨_, kk.trans k6, rfl, rfl⟩
      | false =>
        rw [hn] at kQ
        walk_at "rd"
        exact kQ _ _ ⟨_, kk.trans k6, rfl, rfl⟩
    · rintro v H' ⟨H0, k0, rfl, rfl⟩
      exact fin _ k0
abbrev sCourse_do : Stmt := inClass (topS 9) 4
abbrev NCourse_do : List Str := ["self", "statement", "place"]
abbrev PCourse_do : List Str := ["self", "statement", "place"]
theorem scCourse_do : FnScope NCourse_do PCourse_do (defScope sCourse_do) :=
  ⟨rfl, rfl, rfl, by decide +kernel, rfl, by decide +kernel, by decide +kernel⟩
theorem ok_Course_do {C : Addr} (D : DfM K C "do" "Course.do" sCourse_do PCourse_do) (B : Blt mg) (T : CT K C)
    (GCourse_worth : HasM P w K mg base CX0 C "worth" ["self", "expression", "place"] 5 (spWorth K C 3)) :
    HasM P w K mg base CX0 C "do" PCourse_do 6 (spDo K C) := by
  refine D.has scCourse_do (fun vs H Q E h => ?_) (fun f cdv A outer s H vs Q E hr h => ?_)
  · obtain ⟨sf, nd, sd, rd, fv, v, fix, st, L, b, p, t, rfl, _⟩ := h
    rfl
  obtain ⟨sf, nd, sd, rd, fv, v, fix, st, L, b, p, t, rfl, Cr, hd, hv, hok, hb, hm, k⟩ := h
  have cC := T.cl
  have nN := T.nN
  have nS := T.nS
  obtain ⟨dx, hI⟩ := Cr.obj
  have hmade := hok.ml
  have h8 : 2 ^ 3 = 8 := rfl
  refine ⟨_, (pss_cons (ps_if (pt_cmpR op_eq (pe_ix ix_tup (pv 1) pe_int (fun _ _ => rfl)) pe_str (nomark _)) (pss_one (ps_dput hr.hu (pe_fld (pv 0) rfl) (pe_ix ix_tup (pv 1) pe_int (fun _ _ => rfl)) (pe_m GCourse_worth cC (hr.mono (by omega)) pass0 (pv 0) (pa_cons (pe_ix ix_tup (pv 1) pe_int (fun _ _ => rfl)) (pa_cons (pv 2) pa_nil))) rfl))
        (pss_one (ps_if (pt_cmpR op_eq (pe_ix ix_tup (pv 1) pe_int (fun _ _ => rfl)) pe_str (nomark _)) (pss_one (ps_if (pt_cmp (pc_din hr.hu (pe_ix ix_tup (pv 1) pe_int (fun _ _ => rfl)) (pe_fld (pv 0) rfl))) (pss_one (ps_expr (pe_dpop1 (pe_fld (pv 0) rfl) (pe_ix ix_tup (pv 1) pe_int (fun _ _ => rfl)) ⟨by rfl, by rfl, by rfl, by rfl⟩)))
        pss_nil))
        (pss_one (ps_if (pt_cmpR op_eq (pe_ix ix_tup (pv 1) pe_int (fun _ _ => rfl)) pe_str (nomark _)) (pss_one (ps_expr (pe_bm PySem.F.plainAttrs_list PySem.F.slot_list_append PySem.F.type_list_append mt_append (pe_fld (pv 0) rfl) (pa_cons (pe_m GCourse_worth cC (hr.mono (by omega)) pass0 (pv 0) (pa_cons (pe_ix ix_tup (pv 1) pe_int (fun _ _ => rfl)) (pa_cons (pv 2) pa_nil))) pa_nil))))
        (pss_one (ps_if (pt_cmpR op_eq (pe_ix ix_tup (pv 1) pe_int (fun _ _ => rfl)) pe_str (nomark _)) (pss_one (ps_expr (pe_bm PySem.F.plainAttrs_list PySem.F.slot_list_append PySem.F.type_list_append mt_append (pe_fld (pv 0) rfl) (pa_cons (pe_ix ix_tup (pv 1) pe_int (fun _ _ => rfl)) pa_nil))))
        (pss_one (ps_ret (pe_ix ix_tup (pv 1) pe_int (fun _ _ => rfl)))))))))))
      (pss_one (ps_ret pe_non))), ?_⟩
  cases t with
  | set x e =>
    obtain ⟨a, v0, v1, v2, rfl, hT, h0, h1, h2⟩ := Dt.is3 hd
    obtain rfl := h0.isStr
    obtain rfl := h1.isStr
    walk_at "rd"
    refine ⟨sf, nd, sd, rd, fv, _, fix, st, L, b, p, e, rfl, Cr, h2, hv.2, hok.env, hb, by omega, fun H1 z1 k1 Cr1 hz1 => ?_⟩
    obtain ⟨dx1, hI1⟩ := Cr1.obj
    obtain ⟨kvs, hN, hE, hL⟩ := Cr1.names
    have hT1 := sqT_kp k1 hT
    walk_at "rd"
    refine r_DPut (k := Sum.inr x) hN (by rw [sizeLine_eq]; omega) ?_
    have hc := Cr1.envs (hE.put (x := x) hz1) (Nat.le_trans (putK_len kvs (Sum.inr x) z1) (Nat.add_le_add_right hL 1))
    walk_at "rd"
    exact k _ (k1.trans hc.2) hc.1
  | unset x =>
    obtain ⟨a, v0, v1, rfl, hT, h0, h1⟩ := Dt.is2 hd
    obtain rfl := h0.isStr
    obtain rfl := h1.isStr
    obtain ⟨kvs, hN, hE, hL⟩ := Cr.names
    walk_at "rd"
    cases e1 : valV kvs (Sum.inr x) with
    | none =>
      rw [Option.isSome_none]
      walk_at "rd"
      exact k _ (Kp.reflM Cr.ms) (by
        obtain ⟨c1, c2, c3, c4, c5, c6⟩ := Cr
        exact ⟨c1, ⟨kvs, hN, hE.same e1, by omega⟩, c3, c4, c5, c6⟩)
    | some vx =>
      rw [Option.isSome_some]
      walk_at "rd"
      refine r_DPop1a hN ?_
      walk_at "rd"
      refine r_DPop1 hN e1 ?_
      have hc := Cr.envs (hE.drop (x := x)) (Nat.le_trans (dropK_len kvs (Sum.inr x)) (Nat.le_trans hL (Nat.le_succ _)))
      walk_at "rd"
      exact k _ hc.2 hc.1
  | tell e =>
    obtain ⟨a, v0, v1, rfl, hT, h0, h1⟩ := Dt.is2 hd
    obtain rfl := h0.isStr
    obtain ⟨vs0, hN0, hE0⟩ := Cr.said
    walk_at "rd"
    refine ⟨sf, nd, sd, rd, fv, _, fix, st, L, b, p, e, rfl, Cr, h1, hv, hok.env, hb, by omega, fun H1 z1 k1 Cr1 hz1 => ?_⟩
    clear hN0 hE0
    obtain ⟨vs, hN, hE⟩ := Cr1.said
    have hsl := hE.len
    have ev := Ex.ev_ok fix p hv hok.env hb
    rw [ev.1.said] at hsl
    have := hok.sl
    have hc := Cr1.tells hN hE (t := .inr _) hz1
    walk_at "rd"
    · exact k _ (k1.trans hc.2) (hc.1.mono (by omega))
    · rw [sizeLine_eq]
      omega
  | say x =>
    obtain ⟨a, v0, v1, rfl, hT, h0, h1⟩ := Dt.is2 hd
    obtain rfl := h0.isStr
    obtain rfl := h1.isStr
    obtain ⟨vs, hN, hE⟩ := Cr.said
    have hsl := hE.len
    have := hok.sl
    have hc := Cr.tells hN hE (t := .inl x) (v := .str x) rfl
    walk_at "rd"
    · exact k _ hc.2 (hc.1.mono (by omega))
    · rw [sizeLine_eq]
      omega
  | stop x =>
    obtain ⟨a, v0, v1, rfl, hT, h0, h1⟩ := Dt.is2 hd
    obtain rfl := h0.isStr
    obtain rfl := h1.isStr
    walk_at "rd"
    exact k _ (Kp.reflM Cr.ms) (Cr.mono (by omega))
abbrev sCourse_choose : Stmt := inClass (topS 9) 5
abbrev NCourse_choose : List Str := ["self", "statement", "place", "truth", "item"]
abbrev PCourse_choose : List Str := ["self", "statement", "place"]
theorem scCourse_choose : FnScope NCourse_choose PCourse_choose (defScope sCourse_choose) :=
  ⟨rfl, rfl, rfl, by decide +kernel, rfl, by decide +kernel, by decide +kernel⟩
theorem ok_Course_choose {C : Addr} (D : DfM K C "choose" "Course.choose" sCourse_choose PCourse_choose) (B : Blt mg) (T : CT K C) {n lv : Nat} (hlv : 8 ≤ lv) (hln : n ≤ 5) {t1 : Tok} (g_UNSURE : mg "UNSURE" = some (.str "unsure" t1))
    (Gplaces_in : Has P w K mg base CX0 "places_in" ["statement"] 6 (spPlaces K 4))
    (GCourse_truth : HasM P w K mg base CX0 C "truth" ["self", "test", "place"] 8 (spTruth K C 2))
    (GCourse_go : HasM P w K mg base CX0 C "go" ["self", "block", "place"] lv (spGo K C n)) :
    HasM P w K mg base CX0 C "choose" PCourse_choose (lv + 1) (spBlk K C n false) := by
  refine D.has scCourse_choose (fun vs H Q E h => ?_) (fun f cdv A outer s H vs Q E hr h => ?_)
  · obtain ⟨sf, nd, sd, rd, fv, v, fix, st, L, b, p, t, rfl, _⟩ := h
    rfl
  obtain ⟨sf, nd, sd, rd, fv, v, fix, st, L, b, p, t, rfl, Cr, hd, hv, ⟨t, y, z, rfl⟩, hok, hb, hm, hsz, k⟩ := h
  have cC := T.cl
  obtain ⟨dx, hI⟩ := Cr.obj
  have hmade := hok.ml
  have hv2 : t.vd 2 ∧ VdB n y ∧ VdB n z := by
    cases n with
    | zero => exact hv
    | succ n => exact hv
  obtain ⟨hvt, hvy, hvz⟩ := hv2
  rw [Sm.wt] at hm k
  rw [Sm.size] at hsz
  refine ⟨_, (pss_cons (ps_set (i := 3) scCourse_choose.nd rfl (Or.inl rfl) (pe_m GCourse_truth cC (hr.mono (by omega)) pass0 (pv 0) (pa_cons (pe_ix ix_tup (pv 1) pe_int (fun _ _ => rfl)) (pa_cons (pv 2) pa_nil))))
      (pss_cons (ps_if (pt_cmpR op_isN (pv 3) pe_non (nomark _)) (pss_one (ps_ret (pe_gstr (by rfl) g_UNSURE)))
        pss_nil)
      (pss_cons (ps_if (pt_truth (pv 3) (by intro _; rfl)) (pss_one (ps_ret (pe_m GCourse_go cC (hr.mono (by omega)) pass0 (pv 0) (pa_cons (pe_ix ix_tup (pv 1) pe_int (fun _ _ => rfl)) (pa_cons (pe_op op_add (pv 2) pe_int) pa_nil)))))
        pss_nil)
      (pss_one (ps_ret (pe_m GCourse_go cC (hr.mono (by omega)) pass0 (pv 0) (pa_cons (pe_ix ix_tup (pv 1) pe_int (fun _ _ => rfl)) (pa_cons (pe_op op_add (pe_op op_add (pv 2) pe_int) (pe_callB (cr_sum (by rfl)) (by rfl) B.sum (by decide +kernel) (pa_cons (pe_lc (own := [("item", 4)]) (g := gName 4) (by rfl) scCourse_choose.nd (pi_tup (pe_ix ix_tup (pv 1) pe_int (fun _ _ => rfl))) (blkOk_by (own := [("item", 4)]) (N := NCourse_choose) (sc := defScope sCourse_choose) (by decide +kernel)) (fun _ _ _ _ _ => (pg_name (i := 4) scCourse_choose.nd rfl (Or.inl rfl))) (fun _ _ _ _ _ => pts_nil) (fun _ _ _ _ _ => (pe_f Gplaces_in (hr.mono (by omega)) (by rfl) pass0 (pa_cons (pv 4) pa_nil)))) pa_nil))) pa_nil)))))))), ?_⟩
  obtain ⟨a, v0, v1, v2, v3, rfl, hT, h0, h1, h2, h3⟩ := Dt.is4 (show Dt K H v (.tuple [.str "if", t.d, .tuple (Sm.ds y), .tuple (Sm.ds z)]) by rw [Sm.d] at hd; exact hd)
  obtain rfl := h0.isStr
  walk_at "rd"
  refine ⟨sf, nd, sd, rd, fv, _, fix, st, L, b, p, t, rfl, Cr, h1, hvt, hok.env, hb, by omega, fun H1 k1 Cr1 => ?_⟩
  have tk := Ts.tr_ok fix p hvt hok.env hb
  have hok1 := hok.more tk (by omega)
  have hT1 := sqT_kp k1 hT
  have h2' := h2.kp k1
  have h3' := h3.kp k1
  obtain ⟨dx1, hI1⟩ := Cr1.obj
  rw [Sm.go] at k
  cases e : t.tr fix p st with
  | mk o st' =>
    rw [e] at Cr1 hok1 k
    match o with
    | none =>
      show gName _ V.non _ _ _
      walk_at "rd"
      refine ⟨rfl, ?_⟩
      walk_at "rd"
      refine ifd (fun _ => ?_) (fun z => absurd rfl z)
      walk_at "rd"
      exact k _ k1 (Cr1.mono (by omega))
    | some true =>
      have hne : ¬ V.bl true = V.non := fun z => by cases z
      show gName _ (V.bl true) _ _ _
      walk_at "rd"
      refine ⟨rfl, ?_⟩
      walk_at "rd"
      refine ifd (fun z => absurd z hne) (fun _ => ?_)
      walk_at "rd"
      refine ⟨true, rfl, ?_⟩
      walk_at "rd"
      refine ⟨sf, nd, sd, rd, fv, _, fix, st', L + 1, b, p + 1, y, rfl, Cr1.mono (by omega), h2', hvy, hok1, hb, by omega, by omega, fun H2 k2 Cr2 => ?_⟩
      exact k _ (k1.trans k2) (Cr2.mono (by omega))
    | some false =>
      have hne : ¬ V.bl false = V.non := fun z => by cases z
      show gName _ (V.bl false) _ _ _
      walk_at "rd"
      refine ⟨rfl, ?_⟩
      walk_at "rd"
      refine ifd (fun z => absurd z hne) (fun _ => ?_)
      walk_at "rd"
      refine ⟨false, rfl, ?_⟩
      walk_at "rd"
      have h2w : Dw [] K H1 v2 (.tuple (Sm.ds y)) := h2'.dw
      obtain ⟨ua, us, rfl, hT3, hL3⟩ := h2w.items
      have hlen : us.length = y.length := by rw [hL3.len, Sm.ds_map, List.length_map]
      refine r_LcT hT3 fun q2 hq2 => ⟨fun i H' => Kp [] H1 H' ∧ H' q2 = some (.lst ((y.take i).map fun c => V.int (c.size : Nat))), ⟨Kp.nil.new hq2, upd_same⟩, fun i H' ⟨q1, _⟩ => sqT_kp q1 hT3, ?_, ?_⟩
      · rintro i x H4 hx ⟨k4, hq4⟩
        obtain ⟨dx, hdx, hxd⟩ := hL3.get hx
        rw [Sm.ds_map, List.getElem?_map] at hdx
        obtain ⟨c, hc, rfl⟩ := Option.map_eq_some_iff.mp hdx
        have hcm : c ∈ y := List.mem_of_getElem? hc
        have hcv : Sm.vd 4 c := by
          cases n with
          | zero =>
            rw [show y = [] from hvy] at hcm
            cases hcm
          | succ m => exact (hvy c hcm).mono (by omega)
        have hcz : c.size ≤ 10000 := by
          have : c.size ≤ Sm.sizes y := Sm.size_mem hcm
          omega
        have hxt : Dw [] K H4 x c.d := hxd.kp0 k4
        walk_at "rd"
        refine ⟨x, c, rfl, hxt, hcv, hcz, fun H5 k5 => ?_⟩
        have hq5 := k5.get hq4 (by simp)
        have hil : i < y.length := (List.getElem?_eq_some_iff.mp hc).1
        have hls := Sm.len_sizes y
        refine r_LcEnd hq5 (by rw [List.length_map, List.length_take, sizeLine_eq]; omega) ⟨(k4.trans k5).own hq2, ?_⟩
        rw [upd_same, List.take_add_one, hc, List.map_append]
        rfl
      · rintro H4 ⟨k4, hq4⟩
        rw [hlen, List.take_length] at hq4
        have Cr4 := Cr1.kp0 k4
        walk_at "rd"
        refine ⟨q2, y.map fun c => ((c.size : Nat) : Int), rfl, SqL.of (by rw [hq4, List.map_map]; rfl), ?_⟩
        rw [Sm.sizes_sum]
        walk_at "rd"
        refine ⟨sf, nd, sd, rd, fv, _, fix, st', L + 1, b, p + 1 + (Sm.sizes y : Nat), z, rfl, Cr4.mono (by omega), h3'.kp k4, hvz, hok1, hb, by omega, by omega, fun H2 k2 Cr2 => ?_⟩
        exact k _ (k1.trans ((k4.subM Cr1.ms (by simp)).trans k2)) (Cr2.mono (by omega))
abbrev sCourse_again : Stmt := inClass (topS 9) 6
abbrev NCourse_again : List Str := ["self", "statement", "place", "turn", "word"]
abbrev PCourse_again : List Str := ["self", "statement", "place"]
theorem scCourse_again : FnScope NCourse_again PCourse_again (defScope sCourse_again) :=
  ⟨rfl, rfl, rfl, by decide +kernel, rfl, by decide +kernel, by decide +kernel⟩
theorem ok_Course_again {C : Addr} (D : DfM K C "again" "Course.again" sCourse_again PCourse_again) (B : Blt mg) (T : CT K C) {n lv : Nat} (hlv : 8 ≤ lv)
    (GCourse_go : HasM P w K mg base CX0 C "go" ["self", "block", "place"] lv (spGo K C n)) :
    HasM P w K mg base CX0 C "again" PCourse_again (lv + 1) (spBlk K C n true) := by
  refine D.has scCourse_again (fun vs H Q E h => ?_) (fun f cdv A outer s H vs Q E hr h => ?_)
  · obtain ⟨sf, nd, sd, rd, fv, v, fix, st, L, b, p, t, rfl, _⟩ := h
    rfl
  obtain ⟨sf, nd, sd, rd, fv, v, fix, st, L, b, p, t, rfl, Cr, hd, hv, ⟨kk, bb, rfl⟩, hok, hb, hm, hsz, k⟩ := h
  have cC := T.cl
  have hv2 : 0 ≤ kk ∧ kk ≤ 8 ∧ VdB n bb := by
    cases n with
    | zero => exact hv
    | succ n => exact hv
  obtain ⟨hk0, hk8, hvb⟩ := hv2
  rw [Sm.wt] at hm k
  rw [Sm.size] at hsz
  rw [Sm.go] at k
  refine ⟨_, (pss_cons (ps_for PassesOwn.never rfl (pi_range1 (by rfl) B.range (pa_cons (pe_ix ix_tup (pv 1) pe_int (fun _ _ => rfl)) pa_nil)) (pg_name (i := 3) scCourse_again.nd rfl (Or.inl rfl))
        (pss_cons (ps_set (i := 4) scCourse_again.nd rfl (Or.inl rfl) (pe_m GCourse_go cC (hr.mono (by omega)) pass0 (pv 0) (pa_cons (pe_ix ix_tup (pv 1) pe_int (fun _ _ => rfl)) (pa_cons (pe_op op_add (pv 2) pe_int) pa_nil))))
      (pss_one (ps_if (pt_cmpR op_notN (pv 4) pe_non (nomark _)) (pss_one (ps_ret (pv 4)))
        pss_nil))))
      (pss_one (ps_ret pe_non))), ?_⟩
  obtain ⟨a, v0, v1, v2, rfl, hT, h0, h1, h2⟩ := Dt.is3 (show Dt K H v (.tuple [.str "repeat", .int kk, .tuple (Sm.ds bb)]) by rw [Sm.d] at hd; exact hd)
  obtain rfl := h0.isStr
  obtain rfl := h1.isInt
  walk_at "rd"
  have hF : ∀ (i : Nat) (st' st'' : Rs), i < kk.toNat → Sm.goL fix (p + 1) bb st' = (none, st'') → iterS (fun st => Sm.goL fix (p + 1) bb st) (kk.toNat - i) st' = iterS (fun st => Sm.goL fix (p + 1) bb st) (kk.toNat - (i + 1)) st'' := by
    intro i st' st'' hi e
    rw [show kk.toNat - i = (kk.toNat - (i + 1)) + 1 by omega, iterS, e]
  have hG : ∀ (i : Nat) (st' st'' : Rs) (w : Str), i < kk.toNat → Sm.goL fix (p + 1) bb st' = (some w, st'') → iterS (fun st => Sm.goL fix (p + 1) bb st) (kk.toNat - i) st' = (some w, st'') := by
    intro i st' st'' w hi e
    rw [show kk.toNat - i = (kk.toNat - (i + 1)) + 1 by omega, iterS, e]
  refine r_ForR (fun i σ H' => ∃ (x y : Option V) (st' : Rs), σ = [some (.ref sf), some (.ref a), some (.int p), x, y] ∧ Kp [nd, sd, rd] H H' ∧ Crs K C sf nd sd rd fv fix H' st' (L + Sm.wts bb * i) ∧ st'.ok (b + 12 * (Sm.wts bb * i)) (L + Sm.wts bb * i) ∧
      iterS (fun st => Sm.goL fix (p + 1) bb st) kk.toNat st = iterS (fun st => Sm.goL fix (p + 1) bb st) (kk.toNat - i) st')
    (by omega) (by omega) ⟨_, _, st, rfl, Kp.reflM Cr.ms, Cr, hok, rfl⟩ ?_ ?_
  · rintro i σ H1 hi ⟨x, y, st', rfl, k1, Cr1, hok1, hit⟩
    have hmul : Sm.wts bb * (i + 1) ≤ Sm.wts bb * kk.toNat := Nat.mul_le_mul_left _ hi
    have hmul2 : Sm.wts bb * (i + 1) = Sm.wts bb * i + Sm.wts bb := Nat.mul_succ _ _
    have hT1 := sqT_kp k1 hT
    obtain ⟨dx, hI⟩ := Cr1.obj
    walk_at "rd"
    refine ⟨sf, nd, sd, rd, fv, _, fix, st', L + Sm.wts bb * i, b + 12 * (Sm.wts bb * i), p + 1, bb, rfl, Cr1, h2.kp k1, hvb, hok1, by omega, by omega, by omega, fun H2 k2 Cr2 => ?_⟩
    have hok2 := Sm.goL_ok fix n bb (p + 1) st' _ _ hvb hok1 (by omega)
    cases e : Sm.goL fix (p + 1) bb st' with
    | mk o st'' =>
      rw [e] at Cr2 hok2
      cases o with
      | none =>
        show gName _ V.non _ _ _
        walk_at "rd"
        refine ⟨rfl, ?_⟩
        walk_at "rd"
        walk_at "rd"
        refine ⟨_, _, st'', rfl, k1.trans k2, Cr2.mono (by omega), hok2.mono (by omega) (by omega), ?_⟩
        rw [hit]
        exact hF i st' st'' hi e
      | some wd =>
        have hne : ¬ V.str wd = V.non := fun z => by cases z
        show gName _ (V.str wd) _ _ _
        walk_at "rd"
        refine ⟨rfl, ?_⟩
        walk_at "rd"
        refine ifd (fun _ => ?_) (fun z => absurd hne z)
        walk_at "rd"
        rw [hit, hG i st' st'' wd hi e] at k
        exact k _ (k1.trans k2) (Cr2.mono (by omega))
  · rintro σ H1 ⟨x, y, st', rfl, k1, Cr1, hok1, hit⟩
    rw [hit, Nat.sub_self] at k
    walk_at "rd"
    exact k _ k1 (Cr1.mono (by omega))
abbrev sCourse_go : Stmt := inClass (topS 9) 7
abbrev NCourse_go : List Str := ["self", "block", "place", "statement", "word"]
abbrev PCourse_go : List Str := ["self", "block", "place"]
theorem scCourse_go : FnScope NCourse_go PCourse_go (defScope sCourse_go) :=
  ⟨rfl, rfl, rfl, by decide +kernel, rfl, by decide +kernel, by decide +kernel⟩
theorem ok_Course_go {C : Addr} (D : DfM K C "go" "Course.go" sCourse_go PCourse_go) (B : Blt mg) (T : CT K C) {n lv m : Nat} {sc sa : Sp} (hlv : 8 ≤ lv) (hn : n ≤ 5)
    (Gplaces_in : Has P w K mg base CX0 "places_in" ["statement"] 6 (spPlaces K 4))
    (GCourse_do : HasM P w K mg base CX0 C "do" ["self", "statement", "place"] 6 (spDo K C))
    (GCourse_choose : HasM P w K mg base CX0 C "choose" ["self", "statement", "place"] lv sc)
    (GCourse_again : HasM P w K mg base CX0 C "again" ["self", "statement", "place"] lv sa) (hs : ∀ m, n = m + 1 → sc = spBlk K C m false ∧ sa = spBlk K C m true) :
    HasM P w K mg base CX0 C "go" PCourse_go (lv + 1) (spGo K C n) := by
  refine D.has scCourse_go (fun vs H Q E h => ?_) (fun f cdv A outer s H vs Q E hr h => ?_)
  · obtain ⟨sf, nd, sd, rd, fv, v, fix, st, L, b, p, t, rfl, _⟩ := h
    rfl
  obtain ⟨sf, nd, sd, rd, fv, v, fix, st, L, b, p, bl, rfl, Cr, hd, hv, hok, hb, hm, hsz, k⟩ := h
  have cC := T.cl
  refine ⟨_, (pss_cons (ps_for PassesOwn.never rfl (pi_tup (pv 1)) (pg_name (i := 3) scCourse_go.nd rfl (Or.inl rfl))
        (pss_cons (ps_if (pt_cmpR op_eq (pe_ix ix_tup (pv 3) pe_int (fun _ _ => rfl)) pe_str (nomark _)) (pss_one (ps_set (i := 4) scCourse_go.nd rfl (Or.inl rfl) (pe_m GCourse_choose cC (hr.mono (by omega)) pass0 (pv 0) (pa_cons (pv 3) (pa_cons (pv 2) pa_nil)))))
        (pss_one (ps_if (pt_cmpR op_eq (pe_ix ix_tup (pv 3) pe_int (fun _ _ => rfl)) pe_str (nomark _)) (pss_one (ps_set (i := 4) scCourse_go.nd rfl (Or.inl rfl) (pe_m GCourse_again cC (hr.mono (by omega)) pass0 (pv 0) (pa_cons (pv 3) (pa_cons (pv 2) pa_nil)))))
        (pss_one (ps_set (i := 4) scCourse_go.nd rfl (Or.inl rfl) (pe_m GCourse_do cC (hr.mono (by omega)) pass0 (pv 0) (pa_cons (pv 3) (pa_cons (pv 2) pa_nil))))))))
      (pss_cons (ps_if (pt_cmpR op_notN (pv 4) pe_non (nomark _)) (pss_one (ps_ret (pv 4)))
        pss_nil)
      (pss_one (ps_aug (i := 2) scCourse_go.nd rfl (.inl rfl) (pe_f Gplaces_in (hr.mono (by omega)) (by rfl) pass0 (pa_cons (pv 3) pa_nil)) ip_add)))))
      (pss_one (ps_ret pe_non))), ?_⟩
  obtain ⟨ua, us, rfl, hT, hL⟩ := hd.items
  have hlen : us.length = bl.length := by rw [hL.len, Sm.ds_map, List.length_map]
  walk_at "rd"
  have hst : ∀ (i : Nat) (q : Int) (c : Sm) (st' st'' : Rs), bl[i]? = some c → Sm.go fix q c st' = (none, st'') → Sm.goL fix q (bl.drop i) st' = Sm.goL fix (q + (c.size : Nat)) (bl.drop (i + 1)) st'' := by
    intro i q c st' st'' hc e
    rw [drop_cons hc, Sm.goL, e]
  have hsw : ∀ (i : Nat) (q : Int) (c : Sm) (st' st'' : Rs) (w : Str), bl[i]? = some c → Sm.go fix q c st' = (some w, st'') → Sm.goL fix q (bl.drop i) st' = (some w, st'') := by
    intro i q c st' st'' w hc e
    rw [drop_cons hc, Sm.goL, e]
  refine r_ForT hT (fun i σ H' => ∃ (x y : Option V) (q : Int) (st' : Rs), σ = [some (.ref sf), some (.ref ua), some (.int q), x, y] ∧ Kp [nd, sd, rd] H H' ∧ Crs K C sf nd sd rd fv fix H' st' (L + Sm.wts (bl.take i)) ∧ st'.ok (b + 12 * Sm.wts (bl.take i)) (L + Sm.wts (bl.take i)) ∧
      Sm.goL fix p bl st = Sm.goL fix q (bl.drop i) st')
    ⟨_, _, p, st, rfl, Kp.reflM Cr.ms, Cr, hok, rfl⟩ (fun i σ H' ⟨_, _, _, _, _, q1, _⟩ => sqT_kp q1 hT) ?_ ?_
  · rintro i u σ H1 hu ⟨x, y, q, st', rfl, k1, Cr1, hok1, hit⟩
    obtain ⟨du, hdu, hud⟩ := hL.get hu
    rw [Sm.ds_map, List.getElem?_map] at hdu
    obtain ⟨c, hc, rfl⟩ := Option.map_eq_some_iff.mp hdu
    have hcm : c ∈ bl := List.mem_of_getElem? hc
    have hcz : c.size ≤ 10000 := Nat.le_trans (Sm.size_mem hcm) hsz
    have hw := Sm.wts_take hc
    obtain ⟨m, rfl⟩ : ∃ m, n = m + 1 := by
      cases n with
      | zero =>
        rw [show bl = [] from hv] at hcm
        cases hcm
      | succ m => exact ⟨m, rfl⟩
    obtain ⟨rfl, rfl⟩ := hs m rfl
    have hcv : Sm.vd m c := hv c hcm
    have hud1 := hud.kp k1
    obtain ⟨dx, hI⟩ := Cr1.obj
    have hok2 := Sm.go_ok fix q hcv hok1 (by omega)
    have hT1 := sqT_kp k1 hT
    cases c with
    | pl t =>
      rw [Sm.d] at hud1
      obtain ⟨hh, ds, hds, n1, n2⟩ := t.head2
      rw [hds] at hud1
      obtain ⟨u1, us1, rfl, hU, hUL⟩ := hud1.items
      obtain ⟨u0, us2, rfl, h0⟩ := hUL.un
      obtain rfl := h0.isStr
      rw [← hds] at hud1
      have hix : atI (V.str hh :: us2) 0 = some (V.str hh) := atI0 _ _
      walk_at "rd"
      refine ifd (fun z => absurd (V.str.inj z) n1) (fun _ => ?_)
      walk_at "rd"
      refine ifd (fun z => absurd (V.str.inj z) n2) (fun _ => ?_)
      walk_at "rd"
      have hwt : Sm.wt (Sm.pl t) = 1 := by rw [Sm.wt]
      have hcv1 : t.vd := by cases m <;> exact hcv
      refine ⟨sf, nd, sd, rd, fv, _, fix, st', _, b + 12 * Sm.wts (bl.take i), q, t, rfl, Cr1, hud1, hcv1, hok1, by omega, by omega, fun H2 k2 Cr2 => ?_⟩
      cases e : Sm.go fix q (Sm.pl t) st' with
      | mk o st'' =>
        have Cr3 : Crs K C sf nd sd rd fv fix H2 st'' (L + Sm.wts (bl.take i) + (Sm.pl t).wt) := by
          have z : Crs K C sf nd sd rd fv fix H2 (Sm.go fix q (Sm.pl t) st').2 (L + Sm.wts (bl.take i) + (Sm.pl t).wt) := by rw [Sm.go, Sm.wt]; exact Cr2
          rw [e] at z
          exact z
        rw [e] at hok2
        have hwd : wdV (t.go fix q st').1 = wdV o := by rw [Sm.go] at e; rw [e]
        rw [hwd]
        cases o with
        | none =>
          show gName _ V.non _ _ _
          walk_at "rd"
          refine ⟨rfl, ?_⟩
          walk_at "rd"
          refine ifn (fun z => absurd rfl z) (fun _ => ?_)
          walk_at "rd"
          refine ⟨_, .pl t, rfl, (hud.kp (k1.trans k2)).dw, hcv.mono (by omega), hcz, fun H3 k3 => ?_⟩
          walk_at "rd"
          refine ⟨_, _, _, st'', rfl, (k1.trans k2).trans (k3.subM Cr2.ms (by simp)), (Cr3.kp0 k3).mono (by omega), hok2.mono (by omega) (by omega), ?_⟩
          rw [hit]
          exact hst i q _ st' st'' hc e
        | some wd =>
          have hne : ¬ V.str wd = V.non := fun z => by cases z
          show gName _ (V.str wd) _ _ _
          walk_at "rd"
          refine ⟨rfl, ?_⟩
          walk_at "rd"
          refine ifd (fun _ => ?_) (fun z => absurd hne z)
          walk_at "rd"
          rw [hit, hsw i q _ st' st'' wd hc e] at k
          exact k _ (k1.trans k2) (Cr3.mono (by omega))
    | ifs t yy zz =>
      obtain ⟨u1, w0, w1, w2, w3, rfl, hU, h0, h1, h2, h3⟩ := Dt.is4 (show Dt K H1 u (.tuple [.str "if", t.d, .tuple (Sm.ds yy), .tuple (Sm.ds zz)]) by rw [Sm.d] at hud1; exact hud1)
      obtain rfl := h0.isStr
      walk_at "rd"
      refine ⟨sf, nd, sd, rd, fv, _, fix, st', _, b + 12 * Sm.wts (bl.take i), q, Sm.ifs t yy zz, rfl, Cr1, hud1, hcv, ⟨_, _, _, rfl⟩, hok1, by omega, by omega, hcz, fun H2 k2 Cr2 => ?_⟩
      cases e : Sm.go fix q (Sm.ifs t yy zz) st' with
      | mk o st'' =>
        have Cr3 : Crs K C sf nd sd rd fv fix H2 st'' (L + Sm.wts (bl.take i) + (Sm.ifs t yy zz).wt) := by
          have z : Crs K C sf nd sd rd fv fix H2 (Sm.go fix q (Sm.ifs t yy zz) st').2 (L + Sm.wts (bl.take i) + (Sm.ifs t yy zz).wt) := by exact Cr2
          rw [e] at z
          exact z
        rw [e] at hok2
        cases o with
        | none =>
          show gName _ V.non _ _ _
          walk_at "rd"
          refine ⟨rfl, ?_⟩
          walk_at "rd"
          refine ifn (fun z => absurd rfl z) (fun _ => ?_)
          walk_at "rd"
          refine ⟨_, Sm.ifs t yy zz, rfl, (hud.kp (k1.trans k2)).dw, hcv.mono (by omega), hcz, fun H3 k3 => ?_⟩
          walk_at "rd"
          refine ⟨_, _, _, st'', rfl, (k1.trans k2).trans (k3.subM Cr2.ms (by simp)), (Cr3.kp0 k3).mono (by omega), hok2.mono (by omega) (by omega), ?_⟩
          rw [hit]
          exact hst i q _ st' st'' hc e
        | some wd =>
          have hne : ¬ V.str wd = V.non := fun z => by cases z
          show gName _ (V.str wd) _ _ _
          walk_at "rd"
          refine ⟨rfl, ?_⟩
          walk_at "rd"
          refine ifd (fun _ => ?_) (fun z => absurd hne z)
          walk_at "rd"
          rw [hit, hsw i q _ st' st'' wd hc e] at k
          exact k _ (k1.trans k2) (Cr3.mono (by omega))
    | rep kk bb =>
      obtain ⟨u1, w0, w1, w2, rfl, hU, h0, h1, h2⟩ := Dt.is3 (show Dt K H1 u (.tuple [.str "repeat", .int kk, .tuple (Sm.ds bb)]) by rw [Sm.d] at hud1; exact hud1)
      obtain rfl := h0.isStr
      walk_at "rd"
      refine ⟨sf, nd, sd, rd, fv, _, fix, st', _, b + 12 * Sm.wts (bl.take i), q, Sm.rep kk bb, rfl, Cr1, hud1, hcv, ⟨_, _, rfl⟩, hok1, by omega, by omega, hcz, fun H2 k2 Cr2 => ?_⟩
      cases e : Sm.go fix q (Sm.rep kk bb) st' with
      | mk o st'' =>
        have Cr3 : Crs K C sf nd sd rd fv fix H2 st'' (L + Sm.wts (bl.take i) + (Sm.rep kk bb).wt) := by
          have z : Crs K C sf nd sd rd fv fix H2 (Sm.go fix q (Sm.rep kk bb) st').2 (L + Sm.wts (bl.take i) + (Sm.rep kk bb).wt) := by exact Cr2
          rw [e] at z
          exact z
        rw [e] at hok2
        cases o with
        | none =>
          show gName _ V.non _ _ _
          walk_at "rd"
          refine ⟨rfl, ?_⟩
          walk_at "rd"
          refine ifn (fun z => absurd rfl z) (fun _ => ?_)
          walk_at "rd"
          refine ⟨_, Sm.rep kk bb, rfl, (hud.kp (k1.trans k2)).dw, hcv.mono (by omega), hcz, fun H3 k3 => ?_⟩
          walk_at "rd"
          refine ⟨_, _, _, st'', rfl, (k1.trans k2).trans (k3.subM Cr2.ms (by simp)), (Cr3.kp0 k3).mono (by omega), hok2.mono (by omega) (by omega), ?_⟩
          rw [hit]
          exact hst i q _ st' st'' hc e
        | some wd =>
          have hne : ¬ V.str wd = V.non := fun z => by cases z
          show gName _ (V.str wd) _ _ _
          walk_at "rd"
          refine ⟨rfl, ?_⟩
          walk_at "rd"
          refine ifd (fun _ => ?_) (fun z => absurd hne z)
          walk_at "rd"
          rw [hit, hsw i q _ st' st'' wd hc e] at k
          exact k _ (k1.trans k2) (Cr3.mono (by omega))
  · rintro σ H1 ⟨x, y, q, st', rfl, k1, Cr1, hok1, hit⟩
    rw [hlen, List.drop_length, Sm.goL] at hit
    rw [hlen, List.take_length] at Cr1
    rw [hit] at k
    walk_at "rd"
    exact k _ k1 Cr1
abbrev smultiples_of : Stmt := topS 10
abbrev Nmultiples_of : List Str := ["value", "many", "number"]
abbrev Pmultiples_of : List Str := ["value", "many"]
theorem scmultiples_of : FnScope Nmultiples_of Pmultiples_of (defScope smultiples_of) :=
  ⟨rfl, rfl, rfl, by decide +kernel, rfl, by decide +kernel, by decide +kernel⟩
theorem ok_multiples_of (D : Df K mg "multiples_of" smultiples_of Pmultiples_of) (B : Blt mg) : Has P w K mg base CX0 "multiples_of" Pmultiples_of 1 (spMults K) := by
  refine D.has scmultiples_of (fun vs H Q E h => ?_) (fun f cdv A outer s H vs Q E hr h => ?_)
  · obtain ⟨M, v, s, m, rfl, _⟩ := h
    rfl
  obtain ⟨M, v, sv, m, rfl, hv, hm, k⟩ := h
  obtain ⟨a1, d1, rfl, hT1, hD1, _⟩ := hv
  refine ⟨_, (pss_one (ps_ret (pe_callTy c_tup (by rfl) B.tuple (by decide +kernel) (pa_cons (pe_lc (own := [("number", 2)]) (g := gName 2) (by rfl) scmultiples_of.nd (pi_range1 (by rfl) B.range (pa_cons (pv 1) pa_nil)) (blkOk_by (own := [("number", 2)]) (N := Nmultiples_of) (sc := defScope smultiples_of) (by decide +kernel)) (fun _ _ _ _ _ => (pg_name (i := 2) scmultiples_of.nd rfl (Or.inl rfl))) (fun _ _ _ _ _ => pts_nil) (fun _ _ _ _ _ => (pe_dget2 hr.hu (pe_ix (ix_tupK (K := K) rfl) (pv 0) pe_int (fun _ _ => rfl)) (pv 2) pe_int ⟨by rfl, by rfl, by rfl, by rfl⟩))) pa_nil)))), ?_⟩
  walk_at "rd"
  refine r_LcR (by omega) (by omega) fun q hq => ⟨fun i H' => ∃ vs, Kp [] H H' ∧ H' q = some (.lst vs) ∧ DtL K H' vs (mulD sv i), ⟨[], Kp.nil.new hq, upd_same, DtL.nil⟩, ?_, ?_⟩
  · rintro i H1 hi ⟨vs, k1, hq1, hL⟩
    have hT2 := sqT_kp k1 hT1
    have hD2 := k1.get hD1 (by simp)
    walk_at "rd"
    rw [kvI_get]
    have hlen : vs.length = i := by rw [hL.len, mulD_len]
    refine r_LcEnd hq1 (by rw [sizeLine_eq]; omega) ⟨vs ++ [.int (getI sv.m i)], k1.own hq, upd_same, ?_⟩
    rw [mulD_succ]
    exact (hL.kp (kpW hq1)).snoc (.int _)
  · rintro H1 ⟨vs, k1, hq1, hL⟩
    rw [Int.toNat_natCast] at hL
    walk_at "rd"
    refine r_tupL (SqL.of hq1) fun t ht => ?_
    have k5 : Kp [] H1 (upd H1 t (.tup vs)) := Kp.nil.new ht
    exact k _ _ (k1.trans k5) ((hL.kp k5).tup upd_same)
abbrev scourse_of : Stmt := topS 11
abbrev Ncourse_of : List Str := ["program", "number", "fix", "course", "word", "many", "items", "one"]
abbrev Pcourse_of : List Str := ["program", "number", "fix"]
theorem sccourse_of : FnScope Ncourse_of Pcourse_of (defScope scourse_of) :=
  ⟨rfl, rfl, rfl, by decide +kernel, rfl, by decide +kernel, by decide +kernel⟩
theorem ok_course_of {C : Addr} (D : Df K mg "course_of" scourse_of Pcourse_of) (B : Blt mg) (T : CT K C)
    (GCourse : HasC P w K mg base CX0 "Course" C ["self", "number", "fix"] 2 (spInit K C))
    (GCourse_go : HasM P w K mg base CX0 C "go" ["self", "block", "place"] 17 (spGo K C 4))
    (Gmultiples_of : Has P w K mg base CX0 "multiples_of" ["value", "many"] 1 (spMults K)) :
    Has P w K mg base CX0 "course_of" Pcourse_of 18 (spCourse K) := by
  refine D.has sccourse_of (fun vs H Q E h => ?_) (fun f cdv A outer s H vs Q E hr h => ?_)
  · obtain ⟨v, a, n, fix, bl, rfl, _⟩ := h
    rfl
  obtain ⟨v, a, n, fix, bl, rfl, hd, hv, hn, hw, hz, hF, k⟩ := h
  have cC := T.cl
  have nS := T.nS
  have nR := T.nR
  have h0 := st0_ok hn
  refine ⟨_, (pss_cons (ps_set (i := 3) sccourse_of.nd rfl (Or.inl rfl) (pe_new GCourse (hr.mono (by omega)) (by rfl) pass0 (pa_cons (pv 1) (pa_cons (pv 2) pa_nil))))
      (pss_cons (ps_set (i := 4) sccourse_of.nd rfl (Or.inl rfl) (pe_m GCourse_go cC (hr.mono (by omega)) pass0 (pv 3) (pa_cons (pv 0) (pa_cons pe_int pa_nil))))
      (pss_cons (ps_set (i := 5) sccourse_of.nd rfl (Or.inr rfl) (pe_callB c_len (by rfl) B.len (by decide +kernel) (pa_cons (pe_fld (pv 3) rfl) pa_nil)))
      (pss_cons (ps_setLc (i := 6) (own := [("one", 7)]) (g := gName 7) (by rfl) sccourse_of.nd rfl rfl (sw_true rfl rfl rfl (by decide +kernel)) (pi_list (pe_fld (pv 3) rfl)) (blkOk_by (own := [("one", 7)]) (N := Ncourse_of) (sc := defScope scourse_of) (by decide +kernel)) (fun _ _ _ _ _ => (pg_name (i := 7) sccourse_of.nd rfl (Or.inl rfl))) (fun _ _ _ _ _ => pts_nil) (fun _ _ _ _ _ => (pe_ifExp (pt_val (pe_callB (c_is2K (K := K) rfl) (by rfl) B.isinstance (by decide +kernel) (pa_cons (pv 7) (pa_cons (pe_ty (T := "str") (by rfl) B.str (by decide +kernel)) pa_nil)))) (pv 7) (pe_tup (pa_cons (pe_ix (ix_tupK (K := K) rfl) (pv 7) pe_int (fun _ _ => rfl)) (pa_cons (pe_f Gmultiples_of (hr.mono (by omega)) (by rfl) pass0 (pa_cons (pv 7) (pa_cons (pv 5) pa_nil))) pa_nil))))))
      (pss_one (ps_ret (pe_tup (pa_cons (pe_callTy c_tup (by rfl) B.tuple (by decide +kernel) (pa_cons (pv 6) pa_nil)) (pa_cons (pv 4) (pa_cons (pe_callTy c_tup (by rfl) B.tuple (by decide +kernel) (pa_cons (pe_fld (pv 3) rfl) pa_nil)) pa_nil)))))))))), ?_⟩
  with_reducible refine r_seq ?_
  with_reducible refine r_asg ?_
  refine r_make ?_
  walk_at "rd"
  intro x dx hx hdx hne
  have k0 : Kp [] H (upd (upd H dx (.own x)) x (.ins C dx [])) := (Kp.nil.new hdx).new (by rw [upd_ne (Ne.symm hne)]; exact hx)
  have hx0 : upd (upd H dx (.own x)) x (.ins C dx []) x = some (.ins C dx []) := upd_same
  generalize upd (upd H dx (.own x)) x (.ins C dx []) = H0 at k0 hx0 ⊢
  have nn : ∀ b, H0 b = none → H b = none := fun b e => by
    cases e2 : H b with
    | none => rfl
    | some o => rw [k0.get e2 (by simp)] at e; cases e
  refine ⟨x, dx, a, n, fix, rfl, hx0, sqT_kp k0 hF, fun H1 nd sd rd n1 n2 n3 k1 Cr => ⟨rfl, ?_⟩⟩
  have k1' : Kp [] H H1 := Kp.own1 k0 hx k1
  obtain ⟨dx1, hI1⟩ := Cr.obj
  walk_at "rd"
  refine ⟨x, nd, sd, rd, .ref a, v, fix, st0 n, 1, 200, 0, bl, rfl, Cr, hd.kp k1', hv, h0, by omega, by omega, hz, fun H2 k2 Cr2 => ?_⟩
  have k2' : Kp [] H H2 := k1'.outs (fun b m => .inl (by
    simp only [List.mem_cons, List.not_mem_nil, or_false] at m
    rcases m with rfl | rfl | rfl
    · exact nn _ n1
    · exact nn _ n2
    · exact nn _ n3)) k2
  have hok := Sm.goL_ok fix 4 bl 0 (st0 n) 200 1 hv h0 (by omega)
  have fin : ∀ H' z, Kp [] H H' → Dt K H' z (.tuple [.tuple ((Sm.goL fix 0 bl (st0 n)).2.said.map (itD (Sm.goL fix 0 bl (st0 n)).2.made.length)), wdD (Sm.goL fix 0 bl (st0 n)).1, .tuple ((Sm.goL fix 0 bl (st0 n)).2.made.map PyData.int)]) → Q z H' := k
  clear k
  generalize Sm.goL fix 0 bl (st0 n) = R at fin hok Cr2 ⊢
  obtain ⟨wd, st⟩ := R
  dsimp only at fin hok Cr2 ⊢
  obtain ⟨dx2, hI2⟩ := Cr2.obj
  have hmade := Cr2.made
  obtain ⟨ss, hsd, hits⟩ := Cr2.said
  have hml := hok.ml
  have hsl := hok.sl
  have hlen := hits.len
  walk_at "rd"
  refine r_LcL (SqL.of hsd) fun q hq => ⟨fun i H' => ∃ vs, Kp [] H2 H' ∧ H' q = some (.lst vs) ∧ DtL K H' vs ((st.said.take i).map (itD st.made.length)), ⟨[], Kp.nil.new hq, upd_same, DtL.nil⟩, fun i H' ⟨_, q1, _⟩ => SqL.of (q1.get hsd (by simp)), ?_, ?_⟩
  · rintro i u H3 hu ⟨vs, k3, hq3, hL⟩
    have hi : i < st.said.length := by have := (List.getElem?_eq_some_iff.mp hu).1; omega
    have ht : st.said[i]? = some st.said[i] := List.getElem?_eq_getElem hi
    have hit := (hits.all i u _ hu ht).kp k3 (by simp)
    have hvl : vs.length = i := by rw [hL.len, List.length_map, List.length_take]; omega
    have htk : (st.said.take (i + 1)).map (itD st.made.length) = (st.said.take i).map (itD st.made.length) ++ [itD st.made.length st.said[i]] := by rw [List.take_add_one, ht, List.map_append]; rfl
    generalize st.said[i] = t at ht hit htk
    cases t with
    | inl wx =>
      obtain rfl : u = .str wx := hit
      have hw : Dw [] K H3 (.str wx) (.str wx) := .str wx
      walk_at "rd"
      refine r_LcEnd hq3 (by rw [sizeLine_eq]; omega) ⟨vs ++ [.str wx], k3.own hq, upd_same, ?_⟩
      rw [htk]
      exact (hL.kp (kpW hq3)).snoc (.str _)
    | inr sv =>
      obtain ⟨a1, d1, rfl, hT1, hD1, hn1⟩ := hit
      walk_at "rd"
      refine r_is2tF hT1 ?_
      walk_at "rd"
      refine ⟨[nd, sd, rd], .ref a1, sv, st.made.length, by rw [List.length_map]; rfl, ⟨a1, d1, rfl, hT1, hD1, hn1⟩, by omega, fun H4 z k4 hz4 => ?_⟩
      have hq4 := k4.get hq3 (by simp)
      walk_at "rd"
      refine ⟨by rw [sizeLine_eq]; simp, fun q5 hq5 => ?_⟩
      have k5 : Kp [] H4 (upd H4 q5 (.tup [.int sv.n, z])) := Kp.nil.new hq5
      have hD5 : Dt K (upd H4 q5 (.tup [.int sv.n, z])) (.ref q5) (itD st.made.length (.inr sv)) := (DtL.cons (.int sv.n) (DtL.cons (hz4.kp k5) DtL.nil)).tup upd_same
      generalize upd H4 q5 (.tup [.int sv.n, z]) = H5 at k5 hD5 ⊢
      have hqq := k5.get hq4 (by simp)
      refine r_LcEnd hqq (by rw [sizeLine_eq]; omega) ⟨vs ++ [.ref q5], (k3.trans (k4.trans k5)).own hq, upd_same, ?_⟩
      rw [htk]
      exact ((hL.kp (k4.trans k5)).kp (kpW hqq)).snoc (hD5.kp (kpW hqq))
  · rintro H3 ⟨vs, k3, hq3, hL⟩
    rw [hlen, List.take_length] at hL
    have Cr3 := Cr2.kp0 k3
    obtain ⟨dx3, hI3⟩ := Cr3.obj
    have hmade3 := Cr3.made
    walk_at "rd"
    refine r_tupL (SqL.of hq3) fun t ht => ?_
    have k4 : Kp [] H3 (upd H3 t (.tup vs)) := Kp.nil.new ht
    have hD4 := (hL.kp k4).tup upd_same
    generalize upd H3 t (.tup vs) = H4 at k4 hD4 ⊢
    have hI4 := k4.get hI3 (by simp)
    have hmade4 := k4.get hmade3 (by simp)
    walk_at "rd"
    refine r_tupL (SqL.of hmade4) fun t2 ht2 => ?_
    have k5 : Kp [] H4 (upd H4 t2 (.tup (st.made.map V.int))) := Kp.nil.new ht2
    have hD5 : Dt K (upd H4 t2 (.tup (st.made.map V.int))) (.ref t2) (.tuple (st.made.map PyData.int)) := (DtL.ints st.made).tup upd_same
    generalize upd H4 t2 (.tup (st.made.map V.int)) = H5 at k5 hD5 ⊢
    walk_at "rd"
    refine ⟨by rw [sizeLine_eq]; simp, fun q5 hq5 => ?_⟩
    have k6 : Kp [] H5 (upd H5 q5 (.tup [.ref t, wdV wd, .ref t2])) := Kp.nil.new hq5
    exact fin _ _ (((k2'.trans k3).trans (k4.trans k5)).trans k6) ((DtL.cons (hD4.kp (k5.trans k6)) (DtL.cons (wdD_dt wd) (DtL.cons (hD5.kp k6) DtL.nil))).tup upd_same)
abbrev ssums_of : Stmt := topS 12
abbrev Nsums_of : List Str := ["program", "number", "items", "word", "places"]
abbrev Psums_of : List Str := ["program", "number"]
theorem scsums_of : FnScope Nsums_of Psums_of (defScope ssums_of) :=
  ⟨rfl, rfl, rfl, by decide +kernel, rfl, by decide +kernel, by decide +kernel⟩
theorem ok_sums_of (D : Df K mg "sums_of" ssums_of Psums_of) (B : Blt mg) (Gcourse_of : Has P w K mg base CX0 "course_of" ["program", "number", "fix"] 18 (spCourse K)) :
    Has P w K mg base CX0 "sums_of" Psums_of 19 (spSums K) := by
  refine D.has scsums_of (fun vs H Q E h => ?_) (fun f cdv A outer s H vs Q E hr h => ?_)
  · obtain ⟨v, n, bl, rfl, _⟩ := h
    rfl
  obtain ⟨v, n, bl, rfl, hd, hv, hn, hw, hz, k⟩ := h
  refine ⟨_, (pss_cons (ps_asg (pe_f Gcourse_of (hr.mono (by omega)) (by rfl) pass0 (pa_cons (pv 0) (pa_cons (pv 1) (pa_cons (pe_tup pa_nil) pa_nil)))) (pg_tup rfl (pgs_cons (pg_name (i := 2) scsums_of.nd rfl (Or.inl rfl)) (pgs_cons (pg_name (i := 3) scsums_of.nd rfl (Or.inl rfl)) (pgs_cons (pg_name (i := 4) scsums_of.nd rfl (Or.inl rfl)) pgs_nil)))))
      (pss_one (ps_ret (pe_tup (pa_cons (pv 2) (pa_cons (pv 3) (pa_cons (pe_callB c_len (by rfl) B.len (by decide +kernel) (pa_cons (pv 4) pa_nil)) pa_nil))))))), ?_⟩
  walk_at "rd"
  refine ⟨by decide, fun t0 ht0 => ?_⟩
  have k0 : Kp [] H (upd H t0 (.tup [])) := Kp.nil.new ht0
  have h0 : SqT K (upd H t0 (.tup [])) t0 (([] : List Int).map V.int) := SqT.of upd_same
  generalize upd H t0 (.tup []) = H0 at k0 h0 ⊢
  walk_at "rd"
  refine ⟨v, t0, n, [], bl, rfl, hd.kp k0, hv, hn, hw, hz, h0, fun H1 z k1 hz1 => ?_⟩
  obtain ⟨a, v0, v1, v2, rfl, hT, d0, d1, d2⟩ := Dt.is3 hz1
  obtain ⟨a2, xs2, rfl, hT2, hL2⟩ := d2.items
  have hl2 : xs2.length = (runR [] n bl).2.made.length := by rw [hL2.len, List.length_map]
  walk_at "rd"
  refine ⟨by simp [sizeLine_eq], fun q hq => ?_⟩
  have k2 : Kp [] H1 (upd H1 q (.tup [v0, v1, .int (xs2.length : Nat)])) := Kp.nil.new hq
  refine k _ _ (k0.trans (k1.trans k2)) ((DtL.cons (d0.kp k2) (DtL.cons (d1.kp k2) (DtL.cons (d := .int ((runR [] n bl).2.made.length : Nat)) ?_ DtL.nil))).tup upd_same)
  rw [hl2]
  exact .int _
abbrev stold_number : Stmt := topS 13
abbrev Ntold_number : List Str := ["value", "readings", "found", "many", "reading"]
abbrev Ptold_number : List Str := ["value", "readings"]
theorem sctold_number : FnScope Ntold_number Ptold_number (defScope stold_number) :=
  ⟨rfl, rfl, rfl, by decide +kernel, rfl, by decide +kernel, by decide +kernel⟩
theorem ok_told_number (D : Df K mg "told_number" stold_number Ptold_number) (B : Blt mg) : Has P w K mg base CX0 "told_number" Ptold_number 1 (spTold K) := by
  refine D.has sctold_number (fun vs H Q E h => ?_) (fun f cdv A outer s H vs Q E hr h => ?_)
  · obtain ⟨v, b, n, ms, rs, rfl, _⟩ := h
    rfl
  obtain ⟨v, b, n, ms, rs, rfl, hd, hb, bm, br, k⟩ := h
  obtain ⟨a, v0, v1, rfl, hT, h0, h1⟩ := Dt.is2 hd
  obtain rfl := h0.isInt
  obtain ⟨a2, xs, rfl, hT2, hL2⟩ := h1.items
  have hxs : xs = ms.map V.int := by
    refine List.ext_getElem? fun i => ?_
    cases e : xs[i]? with
    | none =>
      rw [List.getElem?_eq_none_iff] at e
      symm
      rw [List.getElem?_eq_none_iff, List.length_map]
      rw [hL2.len, List.length_map] at e
      exact e
    | some x =>
      obtain ⟨d, hd1, hd2⟩ := hL2.get e
      rw [List.getElem?_map] at hd1 ⊢
      obtain ⟨m, hm, rfl⟩ := Option.map_eq_some_iff.mp hd1
      rw [hm, hd2.isInt]
      rfl
  subst hxs
  refine ⟨_, (pss_cons (ps_set (i := 2) sctold_number.nd rfl (Or.inl rfl) (pe_ix ix_tup (pv 0) pe_int (fun _ _ => rfl)))
      (pss_cons (ps_for PassesOwn.never rfl (RZ.pi_zipA (by rfl) B.zip (pa_cons (pe_ix ix_tup (pv 0) pe_int (fun _ _ => rfl)) (pa_cons (pv 1) pa_nil))) (pg_tup rfl (pgs_cons (pg_name (i := 3) sctold_number.nd rfl (Or.inl rfl)) (pgs_cons (pg_name (i := 4) sctold_number.nd rfl (Or.inl rfl)) pgs_nil)))
        (pss_one (ps_aug (i := 2) sctold_number.nd rfl (.inl rfl) (pe_op op_mulW (pv 3) (pv 4)) ip_add)))
      (pss_one (ps_ret (pv 2))))), ?_⟩
  walk_at "rd"
  with_reducible refine r_zip ?_
  walk_at "rd"
  refine r_ZipM hT2 hb (fun i σ H' => ∃ (x y : Option V), σ = [some (.ref a), some (.ref b), some (.int (toldI n (ms.take i) (rs.take i))), x, y] ∧ Kp [] H H') ⟨none, none, by rw [List.take_zero, List.take_zero]; rfl, Kp.nil⟩ (fun i σ H' ⟨_, _, _, q⟩ => ⟨sqT_kp q hT2, sqT_kp q hb⟩) ?_ ?_
  · rintro i u v T σ H1 hu hv ⟨x, y, rfl, k1⟩ hTn
    rw [List.getElem?_map] at hu hv
    obtain ⟨m, hm, rfl⟩ := Option.map_eq_some_iff.mp hu
    obtain ⟨r, hr, rfl⟩ := Option.map_eq_some_iff.mp hv
    have k2 : Kp [] H (upd H1 T (.tup [.int m, .int r])) := k1.new hTn
    have hs2 : SqT K (upd H1 T (.tup [.int m, .int r])) T [.int m, .int r] := SqT.of upd_same
    generalize upd H1 T (.tup [.int m, .int r]) = H2 at k2 hs2 ⊢
    walk_at "rd"
    · refine ⟨some (.int m), some (.int r), ?_, k2⟩
      rw [toldI_take i n ms rs m r hm hr]
      rfl
    · exact wide_mul (bm m (List.mem_of_getElem? hm)) (br r (List.mem_of_getElem? hr)) (by decide) (by decide) (by decide)
  · rintro σ H1 ⟨x, y, rfl, k1⟩
    rw [List.length_map, List.length_map, toldI_min]
    walk_at "rd"
    exact k _ k1
abbrev srun_of : Stmt := topS 14
abbrev Nrun_of : List Str := ["program", "number", "readings", "fix", "items", "word", "places", "told", "one"]
abbrev Prun_of : List Str := ["program", "number", "readings", "fix"]
theorem scrun_of : FnScope Nrun_of Prun_of (defScope srun_of) :=
  ⟨rfl, rfl, rfl, by decide +kernel, rfl, by decide +kernel, by decide +kernel⟩
theorem ok_run_of (D : Df K mg "run_of" srun_of Prun_of) (B : Blt mg) (Gcourse_of : Has P w K mg base CX0 "course_of" ["program", "number", "fix"] 18 (spCourse K))
    (Gtold_number : Has P w K mg base CX0 "told_number" ["value", "readings"] 1 (spTold K)) : Has P w K mg base CX0 "run_of" Prun_of 19 (spRunOf K) := by
  refine D.has scrun_of (fun vs H Q E h => ?_) (fun f cdv A outer s H vs Q E hr h => ?_)
  · obtain ⟨v, b, a, n, fix, rs, bl, rfl, _⟩ := h
    rfl
  obtain ⟨v, b, a, n, fix, rs, bl, rfl, hd, hv, hn, hw, hz, hb, br, ha, k⟩ := h
  refine ⟨_, (pss_cons (ps_asg (pe_f Gcourse_of (hr.mono (by omega)) (by rfl) pass0 (pa_cons (pv 0) (pa_cons (pv 1) (pa_cons (pv 3) pa_nil)))) (pg_tup rfl (pgs_cons (pg_name (i := 4) scrun_of.nd rfl (Or.inl rfl)) (pgs_cons (pg_name (i := 5) scrun_of.nd rfl (Or.inl rfl)) (pgs_cons (pg_name (i := 6) scrun_of.nd rfl (Or.inl rfl)) pgs_nil)))))
      (pss_cons (ps_setLc (i := 7) (own := [("one", 8)]) (g := gName 8) (by rfl) scrun_of.nd rfl rfl (sw_true rfl rfl rfl (by decide +kernel)) (pi_tup (pv 4)) (blkOk_by (own := [("one", 8)]) (N := Nrun_of) (sc := defScope srun_of) (by decide +kernel)) (fun _ _ _ _ _ => (pg_name (i := 8) scrun_of.nd rfl (Or.inl rfl))) (fun _ _ _ _ _ => pts_nil) (fun _ _ _ _ _ => (pe_ifExp (pt_val (pe_callB (c_is2K (K := K) rfl) (by rfl) B.isinstance (by decide +kernel) (pa_cons (pv 8) (pa_cons (pe_ty (T := "str") (by rfl) B.str (by decide +kernel)) pa_nil)))) (pv 8) (pe_f Gtold_number (hr.mono (by omega)) (by rfl) pass0 (pa_cons (pv 8) (pa_cons (pv 2) pa_nil))))))
      (pss_one (ps_ret (pe_tup (pa_cons (pe_callTy c_tup (by rfl) B.tuple (by decide +kernel) (pa_cons (pv 7) pa_nil)) (pa_cons (pv 5) (pa_cons (pe_callB c_len (by rfl) B.len (by decide +kernel) (pa_cons (pv 6) pa_nil)) pa_nil)))))))), ?_⟩
  walk_at "rd"
  refine ⟨v, a, n, fix, bl, rfl, hd, hv, hn, by omega, hz, ha, fun H1 z k1 hz1 => ?_⟩
  obtain ⟨a0, v0, v1, v2, rfl, hT, d0, d1, d2⟩ := Dt.is3 hz1
  obtain ⟨a2, xs2, rfl, hT2, hL2⟩ := d2.items
  obtain ⟨a3, xs3, rfl, hT3, hL3⟩ := d0.items
  have hl2 : xs2.length = (runR fix n bl).2.made.length := by rw [hL2.len, List.length_map]
  have hok : (runR fix n bl).2.ok (200 + 12 * Sm.wts bl) (1 + Sm.wts bl) := Sm.goL_ok fix 4 bl 0 (st0 n) 200 1 hv (st0_ok hn) (by omega)
  unfold rnD at k
  generalize runR fix n bl = R at k hok hl2 hL3 d1
  obtain ⟨wo, st⟩ := R
  dsimp only at k hok hl2 hL3 d1
  have hsl := hok.sl
  have hl3 : xs3.length = st.said.length := by rw [hL3.len, List.length_map]
  have hbn := sqT_kp k1 hb
  walk_at "rd"
  refine r_LcT hT3 fun q hq => ⟨fun i H' => ∃ us, Kp [] H1 H' ∧ H' q = some (.lst us) ∧ DtL K H' us ((st.said.take i).map (toD rs st.made.length)), ⟨[], Kp.nil.new hq, upd_same, DtL.nil⟩, fun i H' ⟨_, q1, _⟩ => sqT_kp q1 hT3, ?_, ?_⟩
  · rintro i u H3 hu ⟨us, k3, hq3, hL⟩
    obtain ⟨du, hdu, hud⟩ := hL3.get hu
    rw [List.getElem?_map] at hdu
    obtain ⟨t, ht, rfl⟩ := Option.map_eq_some_iff.mp hdu
    have hud3 := hud.kp k3
    have hi : i < st.said.length := (List.getElem?_eq_some_iff.mp ht).1
    have hvl : us.length = i := by rw [hL.len, List.length_map, List.length_take]; omega
    have htk : (st.said.take (i + 1)).map (toD rs st.made.length) = (st.said.take i).map (toD rs st.made.length) ++ [toD rs st.made.length t] := by rw [List.take_add_one, ht, List.map_append]; rfl
    cases t with
    | inl wx =>
      obtain rfl := Dt.isStr hud3
      have hw : Dw [] K H3 (.str wx) (.str wx) := .str wx
      walk_at "rd"
      refine r_LcEnd hq3 (by rw [sizeLine_eq]; omega) ⟨us ++ [.str wx], k3.own hq, upd_same, ?_⟩
      rw [htk]
      exact (hL.kp (kpW hq3)).snoc (.str _)
    | inr sv =>
      have hs := hok.said sv (List.mem_of_getElem? ht)
      have hud4 : Dt K H3 u (.tuple [.int sv.n, .tuple ((mulI sv st.made.length).map PyData.int)]) := by rw [← mulI_D]; exact hud3
      obtain ⟨a1, v0, v1, rfl, hT1, e0, e1⟩ := Dt.is2 hud4
      walk_at "rd"
      refine r_is2tF hT1 ?_
      walk_at "rd"
      refine ⟨_, b, sv.n, mulI sv st.made.length, rs, rfl, hud4, sqT_kp k3 hbn, ?_, br, fun H4 k4 => ?_⟩
      · intro m hm
        unfold mulI at hm
        obtain ⟨j, _, rfl⟩ := List.mem_map.mp hm
        exact Nat.lt_of_lt_of_le (hs.get _) (two_le (by omega))
      · have hq4 := k4.get hq3 (by simp)
        refine r_LcEnd hq4 (by rw [sizeLine_eq]; omega) ⟨us ++ [.int _], (k3.trans k4).own hq, upd_same, ?_⟩
        rw [htk]
        exact ((hL.kp k4).kp (kpW hq4)).snoc (.int _)
  · rintro H3 ⟨us, k3, hq3, hL⟩
    rw [hl3, List.take_length] at hL
    have hT23 := sqT_kp k3 hT2
    walk_at "rd"
    refine r_tupL (SqL.of hq3) fun t ht => ?_
    have k4 : Kp [] H3 (upd H3 t (.tup us)) := Kp.nil.new ht
    have hD4 := (hL.kp k4).tup (upd_same (H := H3) (a := t))
    generalize upd H3 t (.tup us) = H4 at k4 hD4 ⊢
    have hT24 := sqT_kp k4 hT23
    walk_at "rd"
    rw [hl2]
    refine ⟨by simp [sizeLine_eq], fun q5 hq5 => ?_⟩
    have k6 : Kp [] H4 (upd H4 q5 (.tup [.ref t, v1, .int (st.made.length : Nat)])) := Kp.nil.new hq5
    exact k _ _ (k1.trans (k3.trans (k4.trans k6))) ((DtL.cons (hD4.kp k6) (DtL.cons (d1.kp (k3.trans (k4.trans k6))) (DtL.cons (.int _) DtL.nil))).tup upd_same)
abbrev srun : Stmt := topS 15
abbrev Nrun : List Str := ["program", "number", "readings"]
abbrev Prun : List Str := ["program", "number", "readings"]
theorem scrun : FnScope Nrun Prun (defScope srun) :=
  ⟨rfl, rfl, rfl, by decide +kernel, rfl, by decide +kernel, by decide +kernel⟩
theorem ok_run (D : Df K mg "run" srun Prun) (B : Blt mg) (Grun_of : Has P w K mg base CX0 "run_of" ["program", "number", "readings", "fix"] 19 (spRunOf K)) : Has P w K mg base CX0 "run" Prun 20 (spRun K) := by
  refine D.has scrun (fun vs H Q E h => ?_) (fun f cdv A outer s H vs Q E hr h => ?_)
  · obtain ⟨v, b, n, rs, bl, rfl, _⟩ := h
    rfl
  obtain ⟨v, b, n, rs, bl, rfl, hd, hv, hn, hw, hz, hb, br, k⟩ := h
  refine ⟨_, (pss_one (ps_ret (pe_f Grun_of (hr.mono (by omega)) (by rfl) pass0 (pa_cons (pv 0) (pa_cons (pv 1) (pa_cons (pv 2) (pa_cons (pe_tup pa_nil) pa_nil))))))), ?_⟩
  walk_at "rd"
  refine ⟨by decide, fun t0 ht0 => ?_⟩
  have k0 : Kp [] H (upd H t0 (.tup [])) := Kp.nil.new ht0
  have h0 : SqT K (upd H t0 (.tup [])) t0 (([] : List Int).map V.int) := SqT.of upd_same
  generalize upd H t0 (.tup []) = H0 at k0 h0 ⊢
  walk_at "rd"
  exact ⟨v, b, t0, n, [], rs, bl, rfl, hd.kp k0, hv, hn, hw, hz, sqT_kp k0 hb, br, h0, fun H1 z k1 hz1 => k _ _ (k0.trans k1) hz1⟩
abbrev s_law_deck : Stmt := topS 17
abbrev N_law_deck : List Str := ["_law_script", "_law_cell"]
abbrev P_law_deck : List Str := ["_law_script"]
theorem sc_law_deck : FnScope N_law_deck P_law_deck (defScope s_law_deck) :=
  ⟨rfl, rfl, rfl, by decide +kernel, rfl, by decide +kernel, by decide +kernel⟩
theorem ok_law_deck (D : Df K mg "_law_deck" s_law_deck P_law_deck) (B : Blt mg) : Has P w K mg base CX0 "_law_deck" P_law_deck 1 (spDeck K) := by
  refine D.has sc_law_deck (fun vs H Q E h => ?_) (fun f cdv A outer s H vs Q E hr h => ?_)
  · obtain ⟨a, ns, rfl, _⟩ := h
    rfl
  obtain ⟨a, ns, rfl, hS, hl, k⟩ := h
  refine ⟨_, (pss_one (ps_ret (pe_lst (pa_cons (pe_lc (own := [("_law_cell", 1)]) (g := gName 1) (by rfl) sc_law_deck.nd (pi_list (pe_slice sl_list (pv 0) po_none (po_some pe_int))) (blkOk_by (own := [("_law_cell", 1)]) (N := N_law_deck) (sc := defScope s_law_deck) (by decide +kernel)) (fun _ _ _ _ _ => (pg_name (i := 1) sc_law_deck.nd rfl (Or.inl rfl))) (fun _ _ _ _ _ => pts_nil) (fun _ _ _ _ _ => (pe_callB c_abs (by rfl) B.abs (by decide +kernel) (pa_cons (pv 1) pa_nil)))) (pa_cons pe_int pa_nil))))), ?_⟩
  walk_at "rd"
  refine r_slL hS fun p hp => ?_
  obtain ⟨ms, e, hm, _⟩ := cutV_map V.int ns none (some 63)
  rw [e]
  have k1 : Kp [] H (upd H p (.lst (ms.map V.int))) := Kp.nil.new hp
  have h1 : upd H p (.lst (ms.map V.int)) p = some (.lst (ms.map V.int)) := upd_same
  generalize upd H p (.lst (ms.map V.int)) = H1 at k1 h1 ⊢
  refine r_LcL (SqL.of h1) fun c hc => ?_
  refine ⟨fun i H' => ∃ cs : List Int, H' c = some (.lst (cs.map V.int)) ∧ (∀ x ∈ cs, 0 ≤ x) ∧ cs.length = i ∧ Kp [] H1 H', ⟨[], upd_same, (fun _ h => (nomatch h)), rfl, Kp.nil.new hc⟩,
    fun i H' ⟨_, _, _, _, kk⟩ => SqL.of (kk.get h1 (by simp)), ?_, ?_⟩
  · rintro i x H2 hx ⟨cs, h2, h3, h4, k2⟩
    rw [List.getElem?_map] at hx
    obtain ⟨y, hy, rfl⟩ := Option.map_eq_some_iff.mp hx
    have hi : i < ms.length := (List.getElem?_eq_some_iff.mp hy).1
    walk_at "rd"
    refine r_LcEnd h2 (by walk_at "sz") ⟨cs ++ [if y < 0 then -y else y], ?_, ?_, ?_, k2.own hc⟩
    · rw [upd_same, List.map_append]
      rfl
    · intro z hz
      rcases List.mem_append.mp hz with hz | hz
      · exact h3 z hz
      · rw [List.mem_singleton.mp hz]
        split <;> omega
    · rw [List.length_append, h4]
      rfl
  · rintro H2 ⟨cs, h2, h3, h4, k2⟩
    rw [List.length_map] at h4
    walk_at "rd"
    refine ⟨by simp [sizeLine_eq], fun d hd => ?_⟩
    have hcd : d ≠ c := Ne.symm (ne_of_none h2 hd)
    refine k _ d c ((k1.trans k2).same.free hd) (k1.same.free hc) ⟨upd_same, ⟨cs, ?_, h3, by omega⟩, hcd, by omega⟩ ((k1.trans k2).new hd)
    rw [upd_ne hcd.symm]
    exact h2
abbrev s_law_draw : Stmt := topS 18
abbrev N_law_draw : List Str := ["_law_deck_here", "_law_many", "_law_cell", "_law_at", "_law_mixed"]
abbrev P_law_draw : List Str := ["_law_deck_here", "_law_many"]
theorem sc_law_draw : FnScope N_law_draw P_law_draw (defScope s_law_draw) :=
  ⟨rfl, rfl, rfl, by decide +kernel, rfl, by decide +kernel, by decide +kernel⟩
theorem ok_law_draw (D : Df K mg "_law_draw" s_law_draw P_law_draw) (B : Blt mg) : Has P w K mg base CX0 "_law_draw" P_law_draw 1 spDraw := by
  refine D.has sc_law_draw (fun vs H Q E h => ?_) (fun f cdv A outer s H vs Q E hr h => ?_)
  · obtain ⟨d, c, n, m, rfl, _⟩ := h
    rfl
  obtain ⟨d, c, n, m, rfl, Dk, hn, h1, h2, k⟩ := h
  refine ⟨_, (pss_cons (ps_asg (pe_op op_add (pe_ix ix_list (pv 0) pe_int (fun _ _ => rfl)) pe_int) (pg_sub (pv 0) pe_int set_list))
      (pss_cons (ps_asg (pe_tup (pa_cons pe_int (pa_cons (pe_un un_neg pe_int) pa_nil))) (pg_tup rfl (pgs_cons (pg_name (i := 2) sc_law_draw.nd rfl (Or.inl rfl)) (pgs_cons (pg_name (i := 3) sc_law_draw.nd rfl (Or.inl rfl)) pgs_nil))))
      (pss_cons (ps_if (pt_cmpR op_gt (pe_callB c_len (by rfl) B.len (by decide +kernel) (pa_cons (pe_ix ix_list (pv 0) pe_int (fun _ _ => rfl)) pa_nil)) pe_int (nomark _)) (pss_cons (ps_set (i := 3) sc_law_draw.nd rfl (Or.inl rfl) (pe_op op_mod (pe_callTy c_int (by rfl) B.int (by decide +kernel) (pa_cons (pe_ix ix_list (pv 0) pe_int (fun _ _ => rfl)) pa_nil)) (pe_callB c_len (by rfl) B.len (by decide +kernel) (pa_cons (pe_ix ix_list (pv 0) pe_int (fun _ _ => rfl)) pa_nil))))
      (pss_one (ps_set (i := 2) sc_law_draw.nd rfl (Or.inl rfl) (pe_ix ix_list (pe_ix ix_list (pv 0) pe_int (fun _ _ => rfl)) (pv 3) (fun _ _ => rfl)))))
        pss_nil)
      (pss_cons (ps_if (pt_cmpR op_ge (pv 2) (pe_op op_pow pe_int pe_int) (nomark _)) (pss_cons (ps_asg (pe_op op_fdiv (pe_callTy c_int (by rfl) B.int (by decide +kernel) (pa_cons (pv 2) pa_nil)) (pv 1)) (pg_sub (pe_ix ix_list (pv 0) pe_int (fun _ _ => rfl)) (pv 3) set_list))
      (pss_one (ps_ret (pe_op op_mod (pe_callTy c_int (by rfl) B.int (by decide +kernel) (pa_cons (pv 2) pa_nil)) (pv 1)))))
        pss_nil)
      (pss_cons (ps_set (i := 4) sc_law_draw.nd rfl (Or.inl rfl) (pe_op op_add (pe_op op_add (pe_op op_mod (pe_callTy c_int (by rfl) B.int (by decide +kernel) (pa_cons (pv 2) pa_nil)) pe_int) (pe_op op_mul pe_int (pe_ix ix_list (pv 0) pe_int (fun _ _ => rfl)))) pe_int))
      (pss_one (ps_ret (pe_op op_mod (pe_callTy c_int (by rfl) B.int (by decide +kernel) (pa_cons (pe_op op_mod (pe_callTy c_int (by rfl) B.int (by decide +kernel) (pa_cons (pe_op op_pow (pv 4) pe_int) pa_nil)) pe_int) pa_nil)) (pv 1))))))))), ?_⟩
  obtain ⟨hd, ⟨cs, hc, hp, hl⟩, ne, n0⟩ := Dk
  walk_at "rd"
  refine ⟨by decide, fun p hp' => ?_⟩
  have pd : p ≠ d := fun z => by
    rw [z, upd_same] at hp'
    cases hp'
  have pH : H p = none := by
    rw [upd_ne pd] at hp'
    exact hp'
  have pc : p ≠ c := Ne.symm (ne_of_none hc pH)
  generalize eH : upd (upd H d (HO.lst ([V.ref c, V.int n].set (Int.toNat 1) (V.int (n + 1))))) p (HO.tup [V.int 0, V.int (-1)]) = H1
  have hT : H1 p = some (.tup [V.int 0, V.int (-1)]) := by rw [← eH]; exact upd_same
  have hd1 : H1 d = some (.lst [V.ref c, V.int (n + 1)]) := by
    rw [← eH, upd_ne pd.symm]
    exact upd_same
  have hc1 : H1 c = some (.lst (cs.map V.int)) := by
    rw [← eH, upd_ne pc.symm, upd_ne ne.symm]
    exact hc
  have kp : Kp [d, c] H H1 := by
    rw [← eH]
    exact ((Kp.refl (Deck.ls ⟨hd, ⟨cs, hc, hp, hl⟩, ne, n0⟩)).write (by simp)).new hp'
  walk_at "rd"
  have last : ∀ (x : Int), 0 ≤ x → ∀ (y : Int), y = x % 2147483563 + 8117 * (n + 1) + 3 → y.natAbs < 2 ^ 64 := by
    intro x hx y e
    omega
  refine ifd (fun c1 => ?_) (fun c1 => ?_)
  · rw [List.length_map] at c1
    have hlt : ((n + 1) % (cs.length : Int)).toNat < cs.length := by
      have q1 := Int.emod_nonneg (n + 1) (show (cs.length : Int) ≠ 0 by omega)
      have q2 := Int.emod_lt_of_pos (n + 1) c1
      omega
    have h0 := Int.emod_nonneg (n + 1) (show (cs.length : Int) ≠ 0 by omega)
    have hlt2 := Int.emod_lt_of_pos (n + 1) c1
    have hat : atI (cs.map V.int) ((n + 1) % ((cs.map V.int).length : Nat)) = some (.int cs[((n + 1) % (cs.length : Int)).toNat]) := by
      rw [List.length_map]
      refine at_of (j := ((n + 1) % (cs.length : Int)).toNat) (by omega) ?_
      rw [List.getElem?_map, List.getElem?_eq_getElem hlt]
      rfl
    have hset : ixN (cs.map V.int).length ((n + 1) % ((cs.map V.int).length : Nat)) = some ((n + 1) % (cs.length : Int)).toNat := by
      unfold ixN
      rw [List.length_map, if_pos h0, if_pos hlt2]
    have hx := hp _ (List.getElem_mem hlt)
    generalize cs[((n + 1) % (cs.length : Int)).toNat] = x at hat hx
    walk_at "rd"
    refine ifd (fun c2 => ?_) (fun c2 => ?_)
    all_goals walk_at "rd"
    · refine k _ _ (Int.emod_nonneg _ (by omega)) (Int.emod_lt_of_pos _ (by omega)) ⟨?_, ⟨cs.set ((n + 1) % (cs.length : Int)).toNat (x / m), ?_, ?_, ?_⟩, ne, by omega⟩ (kp.write (by simp))
      · rw [upd_ne ne]
        exact hd1
      · rw [upd_same, List.map_set]
      · intro y hy
        rcases List.mem_or_eq_of_mem_set hy with hy | rfl
        · exact hp y hy
        · exact Int.ediv_nonneg hx (by omega)
      · rw [List.length_set]
        exact hl
    · walk_at "sc"
    · walk_at "sc"
    · exact k _ _ (Int.emod_nonneg _ (by omega)) (Int.emod_lt_of_pos _ (by omega)) ⟨hd1, ⟨cs, hc1, hp, hl⟩, ne, by omega⟩ kp
    · walk_at "sc"
    · walk_at "sc"
    · walk_at "sc"
    · walk_at "sc"
    · walk_at "sc"
    · walk_at "sc"
    · rw [List.length_map]
      exact c1
  · walk_at "rd"
    · refine ifd (fun c2 => ?_) (fun c2 => ?_)
      · exact absurd c2 (by decide)
      · walk_at "rd"
        · exact k _ _ (Int.emod_nonneg _ (by omega)) (Int.emod_lt_of_pos _ (by omega)) ⟨hd1, ⟨cs, hc1, hp, hl⟩, ne, by omega⟩ kp
        all_goals walk_at "sc"
    · walk_at "sc"
abbrev s_law_one : Stmt := topS 19
abbrev N_law_one : List Str := ["_law_deck_here", "_law_items"]
abbrev P_law_one : List Str := ["_law_deck_here", "_law_items"]
theorem sc_law_one : FnScope N_law_one P_law_one (defScope s_law_one) :=
  ⟨rfl, rfl, rfl, by decide +kernel, rfl, by decide +kernel, by decide +kernel⟩
theorem ok_law_one (D : Df K mg "_law_one" s_law_one P_law_one) (B : Blt mg)
    (G_law_draw : Has P w K mg base CX0 "_law_draw" ["_law_deck_here", "_law_many"] 1 spDraw) : Has P w K mg base CX0 "_law_one" P_law_one 2 (spOne K) := by
  refine D.has sc_law_one (fun vs H Q E h => ?_) (fun f cdv A outer s H vs Q E hr h => ?_)
  · rcases h with ⟨d, c, a, n, xs, rfl, _⟩ | ⟨d, c, n, z, rfl, _⟩ <;> rfl
  refine ⟨_, (pss_one (ps_ret (pe_ix ix_seq (pv 1) (pe_f G_law_draw (hr.mono (by omega)) (by rfl) pass0 (pa_cons (pv 0) (pa_cons (pe_callB c_len (by rfl) B.len (by decide +kernel) (pa_cons (pv 1) pa_nil)) pa_nil))) (fun _ _ => rfl)))), ?_⟩
  rcases h with ⟨d, c, a, n, xs, rfl, Dk, hn, hS, h1, h2, h3, h4, k⟩ | ⟨d, c, n, z, rfl, Dk, hn, h3, h4, k⟩
  · walk_at "rd"
    refine spDraw.use Dk hn (by omega) (by omega) fun H1 r r0 r1 D1 k1 => ?_
    have hlt : r.toNat < xs.length := by omega
    refine .inl (r_ixL (sqL_kp k1 (by simp [h1, h2]) hS) (at_of (j := r.toNat) (by omega) (List.getElem?_eq_getElem hlt)) ?_)
    exact k _ r.toNat _ (List.getElem?_eq_getElem hlt) D1 k1
  · have hz : z.length ≤ sizeLine := by rw [sizeLine_eq]; omega
    have hsz : z.cps.toList.length = z.length := by rw [Array.length_toList]; rfl
    walk_at "rd"
    · refine spDraw.use Dk hn (by omega) (by omega) fun H1 r r0 r1 D1 k1 => ?_
      have hlt : r.toNat < z.cps.toList.length := by omega
      refine .inr (.inr (r_ixS (c := z.cps.toList[r.toNat]) hz ?_ ?_))
      · exact at_nn r0 (List.getElem?_eq_getElem hlt)
      · exact k _ _ (List.getElem_mem hlt) D1 k1
    · exact hz
abbrev s_law_names : Stmt := topS 20
abbrev N_law_names : List Str := ["_law_deck_here", "_law_letters", "_law_signs", "_law_size", "_law_left", "_law_k", "_law_right"]
abbrev P_law_names : List Str := ["_law_deck_here"]
theorem sc_law_names : FnScope N_law_names P_law_names (defScope s_law_names) :=
  ⟨rfl, rfl, rfl, by decide +kernel, rfl, by decide +kernel, by decide +kernel⟩
theorem ok_law_names (D : Df K mg "_law_names" s_law_names P_law_names) (B : Blt mg)
    (G_law_draw : Has P w K mg base CX0 "_law_draw" ["_law_deck_here", "_law_many"] 1 spDraw) (G_law_one : Has P w K mg base CX0 "_law_one" ["_law_deck_here", "_law_items"] 2 (spOne K)) :
    Has P w K mg base CX0 "_law_names" P_law_names 3 spNmV := by
  refine D.has sc_law_names (fun vs H Q E h => ?_) (fun f cdv A outer s H vs Q E hr h => ?_)
  · obtain ⟨d, c, n, rfl, _⟩ := h
    rfl
  obtain ⟨d, c, n, rfl, Dk, hn, k⟩ := h
  have n0 := Dk.n0
  refine ⟨_, (pss_cons (ps_set (i := 1) sc_law_names.nd rfl (Or.inr rfl) pe_str)
      (pss_cons (ps_set (i := 2) sc_law_names.nd rfl (Or.inr rfl) (pe_op op_addS (pv 1) pe_str))
      (pss_cons (ps_set (i := 3) sc_law_names.nd rfl (Or.inl rfl) (pe_f G_law_one (hr.mono (by omega)) (by rfl) pass0 (pa_cons (pv 0) (pa_cons (pe_lst (pa_cons pe_int (pa_cons pe_int (pa_cons pe_int (pa_cons pe_int (pa_cons pe_int (pa_cons pe_int (pa_cons pe_int pa_nil)))))))) pa_nil))))
      (pss_cons (ps_set (i := 4) sc_law_names.nd rfl (Or.inr rfl) (pe_join pe_str (pe_lc (own := [("_law_k", 5)]) (g := gName 5) (by rfl) sc_law_names.nd (pi_range1 (by rfl) B.range (pa_cons (pv 3) pa_nil)) (blkOk_by (own := [("_law_k", 5)]) (N := N_law_names) (sc := defScope s_law_names) (by decide +kernel)) (fun _ _ _ _ _ => (pg_name (i := 5) sc_law_names.nd rfl (Or.inl rfl))) (fun _ _ _ _ _ => pts_nil) (fun _ _ _ _ _ => (pe_f G_law_one (hr.mono (by omega)) (by rfl) pass0 (pa_cons (pv 0) (pa_cons (pv 1) pa_nil)))))))
      (pss_cons (ps_set (i := 6) sc_law_names.nd rfl (Or.inr rfl) (pe_join pe_str (pe_lc (own := [("_law_k", 5)]) (g := gName 5) (by rfl) sc_law_names.nd (pi_range1 (by rfl) B.range (pa_cons (pe_f G_law_draw (hr.mono (by omega)) (by rfl) pass0 (pa_cons (pv 0) (pa_cons (pe_op op_sub pe_int (pv 3)) pa_nil))) pa_nil)) (blkOk_by (own := [("_law_k", 5)]) (N := N_law_names) (sc := defScope s_law_names) (by decide +kernel)) (fun _ _ _ _ _ => (pg_name (i := 5) sc_law_names.nd rfl (Or.inl rfl))) (fun _ _ _ _ _ => pts_nil) (fun _ _ _ _ _ => (pe_f G_law_one (hr.mono (by omega)) (by rfl) pass0 (pa_cons (pv 0) (pa_cons (pv 2) pa_nil)))))))
      (pss_one (ps_ret (pe_op op_cat (pe_lst (pa_cons pe_str pa_nil)) (pe_lc (own := [("_law_k", 5)]) (g := gName 5) (by rfl) sc_law_names.nd (pi_range1 (by rfl) B.range (pa_cons pe_int pa_nil)) (blkOk_by (own := [("_law_k", 5)]) (N := N_law_names) (sc := defScope s_law_names) (by decide +kernel)) (fun _ _ _ _ _ => (pg_name (i := 5) sc_law_names.nd rfl (Or.inl rfl))) (fun _ _ _ _ _ => pts_nil) (fun _ _ _ _ _ => (pe_op op_addS (pe_op op_addS (pv 4) (pe_ix ix_str pe_str (pv 5) (fun _ _ => rfl))) (pv 6)))))))))))), ?_⟩
  walk_at "rd"
  rotate_left
  · decide +kernel
  have Dk0 := Dk
  have k0 : Kp [d, c] H H := Kp.refl Dk.ls
  refine one_disp Dk0 (by omega) (by simp) (by simp) fun H1 x hx D1 k1 => ?_
  have hx' : ∃ u : Int, x = .int u ∧ 0 ≤ u ∧ u ≤ 7 := by
    simp only [List.mem_cons, List.not_mem_nil, or_false] at hx
    rcases hx with rfl | rfl | rfl | rfl | rfl | rfl | rfl <;> exact ⟨_, rfl, by omega, by omega⟩
  obtain ⟨u, rfl, u0, u1⟩ := hx'
  have kk1 := k0.trans k1
  walk_at "rd"
  refine lc_signs (text := "abcdefgijkmoquvwxyz") D1 (by omega) u0 (by omega) (fun _ => rfl) (fun _ => rfl) (fun _ => rfl) (by decide +kernel) (by decide +kernel) fun H2 p2 ys hp2 y1 y2 y3 D2 k2 => ?_
  have emp0 : ("" : Str).length = 0 := by decide +kernel
  have sm := sum_one y3
  refine ⟨"", p2, ys, rfl, rfl, .inl (SqL.of y1), by rw [emp0]; omega, ?_⟩
  have hL := joinL_signs ys LTT.cps.toList y3
  generalize Txt.join "" ys = left at hL ⊢
  have kk2 := kk1.trans k2
  walk_at "rd"
  refine spDraw.use D2 (by omega) (by omega) (by omega) fun H3 t t0 t1 D3 k3 => ?_
  walk_at "rd"
  refine lc_signs (text := "abcdefgijkmoquvwxyz" ++ "0123456789") D3 (by omega) t0 (by omega) (fun _ => rfl) (fun _ => rfl) (fun _ => rfl) (by decide +kernel) (by decide +kernel) fun H4 p4 zs hp4 z1 z2 z3 D4 k4 => ?_
  have sm2 := sum_one z3
  refine ⟨"", p4, zs, rfl, rfl, .inl (SqL.of z1), by rw [emp0]; omega, ?_⟩
  have hR := joinL_signs zs (LTT ++ ("0123456789" : Str)).cps.toList z3
  generalize Txt.join "" zs = right at hR ⊢
  have kk4 := (kk2.trans k3).trans k4
  clear k1 k2 k3 k4 sm sm2 y1 y3 z1 z3 hp2 hp4 D1 D2 D3
  walk_at "rd"
  refine ⟨by decide, fun p5 hp5 => ?_⟩
  have k5 : Kp [] H4 (upd H4 p5 (.lst [.str "n"])) := Kp.nil.new hp5
  have D5 := D4.kp k5 (by simp) (by simp)
  have h5 : upd H4 p5 (.lst [.str "n"]) p5 = some (.lst [.str "n"]) := upd_same
  have kk5 := kk4.new (o := .lst [.str "n"]) hp5
  generalize upd H4 p5 (.lst [.str "n"]) = H5 at k5 D5 h5 kk5 ⊢
  walk_at "rd"
  refine r_LcR (by omega) (by omega) fun p6 hp6 => ⟨fun i H' => ∃ xs : List Str, H' p6 = some (.lst (xs.map V.str)) ∧ xs.length = i ∧ (∀ x ∈ xs, isNameS x = true) ∧ Kp [] H5 H', ⟨[], upd_same, rfl, (fun _ h => (nomatch h)), Kp.nil.new hp6⟩, ?_, ?_⟩
  · rintro i H7 hi ⟨xs, x1, x2, x3, k7⟩
    have hlt : i < QXZ.cps.toList.length := by
      show i < 3
      omega
    have hat : atI ("qxz" : Str).cps.toList (i : Int) = some (QXZ.cps.toList[i]) := atI_nat (xs := QXZ.cps.toList) (List.getElem?_eq_getElem hlt)
    have hsg := name_made hL hR (List.getElem_mem hlt) (by omega)
    generalize QXZ.cps.toList[i] = sg at hat hsg
    have l1 : left.length = ys.length := by rw [← hL.1, Array.length_toList]; rfl
    have l2 : right.length = zs.length := by rw [← hR.1, Array.length_toList]; rfl
    have l3 : (⟨#[sg]⟩ : Str).length = 1 := rfl
    walk_at "rd"
    refine r_ixS (by decide +kernel) hat ?_
    walk_at "rd"
    · refine r_LcEnd x1 (by walk_at "sz") ⟨xs ++ [left ++ ⟨#[sg]⟩ ++ right], ?_, by rw [List.length_append, x2]; rfl, ?_, k7.own hp6⟩
      · rw [upd_same, List.map_append]
        rfl
      · intro y hy
        rcases List.mem_append.mp hy with hy | hy
        · exact x3 y hy
        · rw [List.mem_singleton.mp hy]
          exact hsg
    all_goals walk_at "sz"
  · rintro H7 ⟨xs, x1, x2, x3, k7⟩
    refine r_cat (k7.get h5 (by simp)) x1 (by rw [List.length_map, sizeLine_eq]; simp; omega) fun p8 hp8 => ?_
    have k8 : Kp [] H7 (upd H7 p8 (.lst ([V.str "n"] ++ xs.map V.str))) := Kp.nil.new hp8
    have D7 := D5.kp k7 (by simp) (by simp)
    have kk7 := kk5.trans (k7.sub D5.ls (by simp))
    refine k _ p8 ("n" :: xs) _ (kk7.free D7.ls hp8) (D7.kp k8 (by simp) (by simp)) (by omega) (by omega) (kk7.new hp8) ⟨by rw [upd_same]; rfl, by rw [List.length_cons, x2]; rfl, fun x hx => ?_⟩
    rcases List.mem_cons.mp hx with rfl | hx
    · decide +kernel
    · exact x3 x hx
abbrev s_law_expression : Stmt := topS 21
abbrev N_law_expression : List Str := ["_law_deck_here", "_law_names_here", "_law_deep", "_law_way", "_law_factor", "_law_first"]
abbrev P_law_expression : List Str := ["_law_deck_here", "_law_names_here", "_law_deep"]
theorem sc_law_expression : FnScope N_law_expression P_law_expression (defScope s_law_expression) :=
  ⟨rfl, rfl, rfl, by decide +kernel, rfl, by decide +kernel, by decide +kernel⟩
theorem ok_law_expression (D : Df K mg "_law_expression" s_law_expression P_law_expression) (B : Blt mg)
    (G_law_draw : Has P w K mg base CX0 "_law_draw" ["_law_deck_here", "_law_many"] 1 spDraw) (G_law_one : Has P w K mg base CX0 "_law_one" ["_law_deck_here", "_law_items"] 2 (spOne K)) :
    ∀ m, 1 ≤ m → m ≤ 3 → Has P w K mg base CX0 "_law_expression" P_law_expression (m + 2) (spExV K m) := by
  intro m
  induction m with
  | zero => intro h; omega
  | succ m ih =>
    intro _ hm
    have Gx : ∃ sp, Has P w K mg base CX0 "_law_expression" P_law_expression (m + 2) sp ∧ (1 ≤ m → sp = spExV K m) := by
      by_cases h : 1 ≤ m
      · exact ⟨_, ih h (by omega), fun _ => rfl⟩
      · exact ⟨fun _ _ _ _ => False, (D.void fun _ _ _ _ h => h).mono (by omega), fun q => absurd q h⟩
    obtain ⟨sp, G_law_expression, hsp⟩ := Gx
    refine D.has sc_law_expression (fun vs H Q E h => ?_) (fun f cdv A outer s H vs Q E hr h => ?_)
    · obtain ⟨d, c, nm, n, xs, rfl, _⟩ := h
      rfl
    obtain ⟨d, c, nm, n, xs, rfl, Dk, hn, N, n1, n2, k⟩ := h
    have eD : eDraws (m + 1) = 3 + 2 * eDraws m := rfl
    have hE : eDraws m ≤ 21 := eDraws_le (by omega)
    have n0 := Dk.n0
    refine ⟨_, (pss_cons (ps_set (i := 3) sc_law_expression.nd rfl (Or.inl rfl) (pe_ifExp (pt_cmpR op_gt (pv 2) pe_int (nomark _)) (pe_f G_law_draw (hr.mono (by omega)) (by rfl) pass0 (pa_cons (pv 0) (pa_cons pe_int pa_nil))) (pe_f G_law_draw (hr.mono (by omega)) (by rfl) pass0 (pa_cons (pv 0) (pa_cons pe_int pa_nil)))))
      (pss_cons (ps_if (pt_cmpR op_eq (pv 3) pe_int (nomark _)) (pss_one (ps_ret (pe_f G_law_one (hr.mono (by omega)) (by rfl) pass0 (pa_cons (pv 0) (pa_cons (pe_lst (pa_cons pe_int (pa_cons pe_int (pa_cons pe_int (pa_cons (pe_un un_neg pe_int) (pa_cons pe_int (pa_cons (pe_un un_neg pe_int) (pa_cons pe_int (pa_cons (pe_un un_neg pe_int) (pa_cons (pe_op op_sub (pe_f G_law_draw (hr.mono (by omega)) (by rfl) pass0 (pa_cons (pv 0) (pa_cons pe_int pa_nil))) pe_int) pa_nil)))))))))) pa_nil)))))
        pss_nil)
      (pss_cons (ps_if (pt_cmpR op_lt (pv 3) pe_int (nomark _)) (pss_one (ps_ret (pe_f G_law_one (hr.mono (by omega)) (by rfl) pass0 (pa_cons (pv 0) (pa_cons (pv 1) pa_nil)))))
        pss_nil)
      (pss_cons (ps_if (pt_cmpR op_eq (pv 3) pe_int (nomark _)) (pss_cons (ps_set (i := 4) sc_law_expression.nd rfl (Or.inl rfl) (pe_f G_law_one (hr.mono (by omega)) (by rfl) pass0 (pa_cons (pv 0) (pa_cons (pe_lst (pa_cons (pe_un un_neg pe_int) (pa_cons (pe_un un_neg pe_int) (pa_cons (pe_un un_neg pe_int) (pa_cons (pe_un un_neg pe_int) (pa_cons (pe_un un_neg pe_int) (pa_cons pe_int (pa_cons pe_int (pa_cons pe_int (pa_cons pe_int pa_nil)))))))))) pa_nil))))
      (pss_one (ps_ret (pe_tup (pa_cons pe_str (pa_cons (pv 4) (pa_cons (pe_f G_law_expression (hr.mono (by omega)) (by rfl) pass0 (pa_cons (pv 0) (pa_cons (pv 1) (pa_cons (pe_op op_sub (pv 2) pe_int) pa_nil)))) pa_nil)))))))
        pss_nil)
      (pss_cons (ps_set (i := 5) sc_law_expression.nd rfl (Or.inl rfl) (pe_f G_law_expression (hr.mono (by omega)) (by rfl) pass0 (pa_cons (pv 0) (pa_cons (pv 1) (pa_cons (pe_op op_sub (pv 2) pe_int) pa_nil)))))
      (pss_one (ps_ret (pe_tup (pa_cons (pe_ix ix_list (pe_lst (pa_cons pe_str (pa_cons pe_str pa_nil))) (pe_op op_mod (pe_callTy c_int (by rfl) B.int (by decide +kernel) (pa_cons (pv 3) pa_nil)) pe_int) (fun _ _ => rfl)) (pa_cons (pv 5) (pa_cons (pe_f G_law_expression (hr.mono (by omega)) (by rfl) pass0 (pa_cons (pv 0) (pa_cons (pv 1) (pa_cons (pe_op op_sub (pv 2) pe_int) pa_nil)))) pa_nil))))))))))), ?_⟩
    walk_at "rdj"
    refine r_ifJ (fun v H1 => ∃ r : Int, v = .int r ∧ 0 ≤ r ∧ r < 7 ∧ (4 ≤ r → 1 ≤ m) ∧ Deck H1 d c (n + 1) ∧ Kp [d, c] H H1) (fun Q' kQ => ?_) ?_
    · walk_at "rd"
      refine ifd (fun c1 => ?_) (fun c1 => ?_)
      · walk_at "rd"
        refine spDraw.use Dk (by omega) (by omega) (by omega) fun H1 r r0 r1 D1 k1 => kQ _ _ ⟨r, rfl, r0, r1, fun _ => by omega, D1, k1⟩
      · walk_at "rd"
        refine spDraw.use Dk (by omega) (by omega) (by omega) fun H1 r r0 r1 D1 k1 => kQ _ _ ⟨r, rfl, r0, by omega, fun _ => by omega, D1, k1⟩
    rintro v H1 ⟨r, rfl, r0, r1, r4, D1, k1⟩
    have N1 := N.kp k1 (by simp [n1, n2])
    walk_at "rd"
    refine ifd (fun c1 => ?_) (fun c1 => ?_)
    · walk_at "rd"
      refine spDraw.use D1 (by omega) (by omega) (by omega) fun H2 z z0 z1 D2 k2 => ?_
      walk_at "rd"
      refine one_disp D2 (by omega) (by simp) (by simp) fun H3 x hx D3 k3 => ?_
      have hx' : ∃ t : Int, x = .int t ∧ -99 ≤ t ∧ t ≤ 99 := by
        simp only [List.mem_cons, List.not_mem_nil, or_false] at hx
        rcases hx with rfl | rfl | rfl | rfl | rfl | rfl | rfl | rfl | rfl <;> exact ⟨_, rfl, by omega, by omega⟩
      obtain ⟨t, rfl, t0, t1⟩ := hx'
      exact k H3 _ (.int t) _ D3 (by omega) (by omega) ((k1.trans k2).trans k3) (.int t) ⟨t0, t1⟩
    walk_at "rd"
    refine ifd (fun c2 => ?_) (fun c2 => ?_)
    · walk_at "rd"
      refine N1.one D1 (by omega) n1 n2 fun H2 y hy D2 k2 => ?_
      exact k H2 _ (.name y) _ D2 (by omega) (by omega) (k1.trans k2) (.str y) hy
    have m1 : 1 ≤ m := r4 (by omega)
    obtain rfl := hsp m1
    have em : (((m + 1 : Nat) : Int) - 1) = (m : Int) := by omega
    walk_at "rd"
    refine ifd (fun c3 => ?_) (fun c3 => ?_)
    · walk_at "rd"
      refine one_disp D1 (by omega) (by simp) (by simp) fun H2 x hx D2 k2 => ?_
      have hx' : ∃ t : Int, x = .int t ∧ -9 ≤ t ∧ t ≤ 9 := by
        simp only [List.mem_cons, List.not_mem_nil, or_false] at hx
        rcases hx with rfl | rfl | rfl | rfl | rfl | rfl | rfl | rfl | rfl <;> exact ⟨_, rfl, by omega, by omega⟩
      obtain ⟨t, rfl, t0, t1⟩ := hx'
      have N2 := N1.kp k2 (by simp [n1, n2])
      walk_at "rd"
      rw [em]
      refine ⟨d, c, nm, _, xs, rfl, D2, by omega, N2, n1, n2, fun H3 v e n3 D3 q1 q2 k3 hv he => ?_⟩
      walk_at "rd"
      refine ⟨by simp [sizeLine_eq], fun p hp => ?_⟩
      have k4 : Kp [] H3 (upd H3 p (.tup [.str "times", .int t, v])) := Kp.nil.new hp
      exact k _ _ (.bin "times" (.int t) e) n3 (D3.kp k4 (by simp) (by simp)) (by omega) (by omega) (((k1.trans k2).trans k3).new hp) (Dt.mk3 upd_same (.str _) (.int _) (hv.kp k4)) (Ex.vd_times t0 t1 he)
    · walk_at "rd"
      rw [em]
      refine ⟨d, c, nm, _, xs, rfl, D1, by omega, N1, n1, n2, fun H2 v e n2' D2 q1 q2 k2 hv he => ?_⟩
      have N2 := N1.kp k2 (by simp [n1, n2])
      have kk2 := k1.trans k2
      have c1' : r ≠ 0 := fun z => c1 (by rw [z])
      have c3' : r ≠ 6 := fun z => c3 (by rw [z])
      walk_at "rd"
      refine ⟨by decide, fun p hp => ?_⟩
      have k3 : Kp [] H2 (upd H2 p (.lst [.str "plus", .str "minus"])) := Kp.nil.new hp
      have D3 := D2.kp k3 (by simp) (by simp)
      have N3 := N2.kp k3 (by simp)
      have v3 := hv.kp k3
      have kk3 := kk2.new (o := .lst [.str "plus", .str "minus"]) hp
      have h3 : upd H2 p (.lst [.str "plus", .str "minus"]) p = some (.lst [.str "plus", .str "minus"]) := upd_same
      generalize upd H2 p (.lst [.str "plus", .str "minus"]) = H3 at k3 D3 N3 v3 h3 kk3 ⊢
      have hr45 : r = 4 ∨ r = 5 := by omega
      walk_at "rd"
      rotate_left
      · walk_at "sc"
      have hat : ∃ o : Str, atI [V.str "plus", V.str "minus"] (r % 2) = some (.str o) ∧ (o = "plus" ∨ o = "minus") := by
        rcases hr45 with rfl | rfl
        · exact ⟨"plus", rfl, .inl rfl⟩
        · exact ⟨"minus", rfl, .inr rfl⟩
      obtain ⟨o, hat, ho⟩ := hat
      refine r_ixL (SqL.of h3) hat ?_
      walk_at "rd"
      rw [em]
      refine ⟨d, c, nm, _, xs, rfl, D3, by omega, N3, n1, n2, fun H4 v2 e2 n4 D4 q3 q4 k4 hv2 he2 => ?_⟩
      walk_at "rd"
      refine ⟨by simp [sizeLine_eq], fun p6 hp6 => ?_⟩
      have k6 : Kp [] H4 (upd H4 p6 (.tup [.str o, v, v2])) := Kp.nil.new hp6
      exact k _ _ (.bin o e e2) n4 (D4.kp k6 (by simp) (by simp)) (by omega) (by omega) ((kk3.trans k4).new hp6) (Dt.mk3 upd_same (.str _) ((v3.kp k4).kp k6) (hv2.kp k6)) ⟨he2, .inr ⟨ho, he⟩⟩
abbrev s_law_test : Stmt := topS 22
abbrev N_law_test : List Str := ["_law_deck_here", "_law_names_here", "_law_left", "_law_times", "_law_nots", "_law_way", "_law_test_here", "_law_by", "_law_factor", "_law_inner", "_law_first", "_law_k"]
abbrev P_law_test : List Str := ["_law_deck_here", "_law_names_here", "_law_left", "_law_times"]
theorem sc_law_test : FnScope N_law_test P_law_test (defScope s_law_test) :=
  ⟨rfl, rfl, rfl, by decide +kernel, rfl, by decide +kernel, by decide +kernel⟩
theorem ok_law_test (D : Df K mg "_law_test" s_law_test P_law_test) (B : Blt mg)
    (G_law_draw : Has P w K mg base CX0 "_law_draw" ["_law_deck_here", "_law_many"] 1 spDraw) (G_law_one : Has P w K mg base CX0 "_law_one" ["_law_deck_here", "_law_items"] 2 (spOne K))
    (G_law_expression : Has P w K mg base CX0 "_law_expression" ["_law_deck_here", "_law_names_here", "_law_deep"] 5 (spExVA K)) :
    Has P w K mg base CX0 "_law_test" P_law_test 6 (spTsV K) := by
  refine D.has sc_law_test (fun vs H Q E h => ?_) (fun f cdv A outer s H vs Q E hr h => ?_)
  · obtain ⟨d, c, nm, l, n, ti, a, b, r, s, xs, rfl, _⟩ := h
    rfl
  obtain ⟨d, c, nm, l, n, ti, a, b, r, s, xs, rfl, Dk, hn, N, n1, n2, n3, l1, l2, hL, hr0, hs0, ht0, k⟩ := h
  have n0 := Dk.n0
  refine ⟨_, (pss_cons (ps_par (i := 4) (j := 5) (by rfl) sc_law_test.nd rfl rfl (by decide) rfl rfl (pa_cons (pe_op op_sub (pe_f G_law_draw (hr.mono (by omega)) (by rfl) pass0 (pa_cons (pv 0) (pa_cons pe_int pa_nil))) pe_int) (pa_cons (pe_f G_law_draw (hr.mono (by omega)) (by rfl) pass0 (pa_cons (pv 0) (pa_cons pe_int pa_nil))) pa_nil)) (by rfl))
      (pss_cons (ps_set (i := 6) sc_law_test.nd rfl (Or.inl rfl) (pe_tup (pa_cons pe_str (pa_cons (pe_f G_law_one (hr.mono (by omega)) (by rfl) pass0 (pa_cons (pv 0) (pa_cons (pv 1) pa_nil))) pa_nil))))
      (pss_cons (ps_if (PW.pt (pw_and (pt_cmpR op_lt (pv 5) pe_int (nomark _)) (pw_and1 (pt_cmpR op_ge (pe_ix ix_list (pv 2) pe_int (fun _ _ => rfl)) (pv 3) (nomark _))))) (pss_cons (ps_asg (pe_op op_sub (pe_ix ix_list (pv 2) pe_int (fun _ _ => rfl)) (pv 3)) (pg_sub (pv 2) pe_int set_list))
      (pss_cons (ps_set (i := 7) sc_law_test.nd rfl (Or.inl rfl) (pe_op op_add pe_int (pe_f G_law_draw (hr.mono (by omega)) (by rfl) pass0 (pa_cons (pv 0) (pa_cons pe_int pa_nil)))))
      (pss_cons (ps_set (i := 8) sc_law_test.nd rfl (Or.inl rfl) (pe_f G_law_one (hr.mono (by omega)) (by rfl) pass0 (pa_cons (pv 0) (pa_cons (pe_lst (pa_cons (pv 7) (pa_cons (pv 7) (pa_cons pe_int (pa_cons pe_int pa_nil))))) pa_nil))))
      (pss_cons (ps_set (i := 9) sc_law_test.nd rfl (Or.inl rfl) (pe_tup (pa_cons pe_str (pa_cons (pv 8) (pa_cons (pe_f G_law_expression (hr.mono (by omega)) (by rfl) pass0 (pa_cons (pv 0) (pa_cons (pv 1) (pa_cons pe_int pa_nil)))) pa_nil)))))
      (pss_one (ps_set (i := 6) sc_law_test.nd rfl (Or.inl rfl) (pe_tup (pa_cons pe_str (pa_cons (pv 9) (pa_cons (pv 7) (pa_cons (pe_f G_law_draw (hr.mono (by omega)) (by rfl) pass0 (pa_cons (pv 0) (pa_cons (pv 7) pa_nil))) pa_nil)))))))))))
        (pss_one (ps_if (PW.pt (pw_and (pt_cmpR op_lt (pv 5) pe_int (nomark _)) (pw_and1 (pt_cmpR op_ge (pe_ix ix_list (pv 2) pe_int (fun _ _ => rfl)) (pv 3) (nomark _))))) (pss_cons (ps_asg (pe_op op_sub (pe_ix ix_list (pv 2) pe_int (fun _ _ => rfl)) (pv 3)) (pg_sub (pv 2) pe_int set_list))
      (pss_cons (ps_set (i := 10) sc_law_test.nd rfl (Or.inl rfl) (pe_f G_law_one (hr.mono (by omega)) (by rfl) pass0 (pa_cons (pv 0) (pa_cons (pe_lst (pa_cons pe_str (pa_cons (pe_f G_law_expression (hr.mono (by omega)) (by rfl) pass0 (pa_cons (pv 0) (pa_cons (pv 1) (pa_cons pe_int pa_nil)))) pa_nil))) pa_nil))))
      (pss_one (ps_set (i := 6) sc_law_test.nd rfl (Or.inl rfl) (pe_tup (pa_cons pe_str (pa_cons (pv 10) (pa_cons (pe_op op_sub (pe_f G_law_draw (hr.mono (by omega)) (by rfl) pass0 (pa_cons (pv 0) (pa_cons pe_int pa_nil))) pe_int) pa_nil))))))))
        pss_nil)))
      (pss_cons (ps_for PassesOwn.never rfl (pi_range1 (by rfl) B.range (pa_cons (pe_ifExp (pt_cmpR op_gt (pv 4) pe_int (nomark _)) (pv 4) pe_int) pa_nil)) (pg_name (i := 11) sc_law_test.nd rfl (Or.inl rfl))
        (pss_one (ps_set (i := 6) sc_law_test.nd rfl (Or.inl rfl) (pe_tup (pa_cons pe_str (pa_cons (pv 6) pa_nil))))))
      (pss_one (ps_ret (pv 6))))))), ?_⟩
  have ls3 : Kp [d, c, l] H H := Kp.refl (Dk.ls3 hL)
  walk_at "rd"
  refine spDraw.use Dk (by omega) (by omega) (by omega) fun H1 u u0 u1 D1 k1 => ?_
  have L1 : Lft H1 l a b r s := k1.get hL (by simp [l1, l2])
  have kk1 := ls3.trans (k1.sub (Dk.ls3 hL) (by simp))
  walk_at "rd"
  refine spDraw.use D1 (by omega) (by omega) (by omega) fun H2 y y0 y1 D2 k2 => ?_
  have L2 : Lft H2 l a b r s := k2.get L1 (by simp [l1, l2])
  have kk2 := kk1.trans (k2.sub (D1.ls3 L1) (by simp))
  have N2 := N.kp kk2 (by simp [n1, n2, n3])
  walk_at "rd"
  refine N2.one D2 (by omega) n1 n2 fun H3 z hz D3 k3 => ?_
  have L3 : Lft H3 l a b r s := k3.get L2 (by simp [l1, l2])
  have kk3 := kk2.trans (k3.sub (D2.ls3 L2) (by simp))
  walk_at "rd"
  refine ⟨by simp [sizeLine_eq], fun p4 hp4 => ?_⟩
  have k4 : Kp [] H3 (upd H3 p4 (.tup [.str "given", .str z])) := Kp.nil.new hp4
  have D4 := D3.kp k4 (by simp) (by simp)
  have L4 : Lft (upd H3 p4 (.tup [.str "given", .str z])) l a b r s := k4.get L3 (by simp)
  have kk4 := kk3.new (o := .tup [.str "given", .str z]) hp4
  have v4 : Dt K (upd H3 p4 (.tup [.str "given", .str z])) (.ref p4) (Ts.given z).d := Dt.mk2 upd_same (.str _) (.str _)
  generalize upd H3 p4 (.tup [.str "given", .str z]) = H4 at k4 D4 L4 kk4 v4 ⊢
  have N4 := N.kp kk4 (by simp [n1, n2, n3])
  clear kk1 kk2 kk3 k1 k2 k3 k4 D1 D2 D3 L1 L2 L3 N2 hp4
  have o0 : ∀ so : Str, so ≠ "given" → (Ts.given z).one so = 0 := fun so h => if_neg (Ne.symm h)
  have g1 := o0 "rest" (by decide +kernel)
  have g2 := o0 "less" (by decide +kernel)
  walk_at "rds"
  with_reducible refine r_seqJ (fun σ H' => ∃ (v : V) (t : Ts) (n' r' s' : Int) (x7 x8 x9 x10 : Option V), σ = [some (.ref d), some (.ref nm), some (.ref l), some (.int ti), some (.int (u - 2)), some (.int y), some v, x7, x8, x9, x10, none] ∧ Deck H' d c n' ∧ n ≤ n' ∧ n' ≤ n + 50 ∧
    Lft H' l a b r' s' ∧ 0 ≤ r' ∧ 0 ≤ s' ∧ r' = r - ti * t.one "rest" ∧ s' = s - ti * t.one "less" ∧ Kp [d, c, l] H H' ∧ Dt K H' v t.d ∧ t.vd 0 ∧ t.lo) (fun nx' kn => ?_) ?_
  · have give : ∀ σ, σ = [some (.ref d), some (.ref nm), some (.ref l), some (.int ti), some (.int (u - 2)), some (.int y), some (.ref p4), none, none, none, none, none] → nx' σ H4 := fun σ e =>
      kn _ _ ⟨_, .given z, _, r, s, none, none, none, none, e, D4, by omega, by omega, L4, hr0, hs0, by rw [g1]; omega, by rw [g2]; omega, kk4, v4, hz, trivial⟩
    have L4' := L4
    unfold Lft at L4'
    walk_at "rd"
    refine ite2 (fun c1 => ?_) (fun c1 => ?_)
    all_goals simp only [Bool.and_eq_true, decide_eq_true_eq, not_and] at c1
    · walk_at "rd"
      have k5 := kpW (o := .lst ([V.int a, V.int b, V.int r, V.int s].set (Int.toNat 2) (V.int (r - ti)))) L4'
      have D5 := D4.kp k5 (by simp [Ne.symm l1]) (by simp [Ne.symm l2])
      have kk5 : Kp [d, c, l] H (upd H4 l (.lst ([V.int a, V.int b, V.int r, V.int s].set (Int.toNat 2) (V.int (r - ti))))) := kk4.write (by simp)
      have L5 : Lft (upd H4 l (.lst ([V.int a, V.int b, V.int r, V.int s].set (Int.toNat 2) (V.int (r - ti))))) l a b (r - ti) s := upd_same
      generalize upd H4 l (.lst ([V.int a, V.int b, V.int r, V.int s].set (Int.toNat 2) (V.int (r - ti)))) = H5 at k5 D5 kk5 L5 ⊢
      clear k5 L4' L4 D4 v4 N4 kk4 give
      refine spDraw.use D5 (by omega) (by omega) (by omega) fun H6 w w0 w1 D6 k6 => ?_
      have L6 : Lft H6 l a b (r - ti) s := k6.get L5 (by simp [l1, l2])
      have kk6 := kk5.trans (k6.sub (D5.ls3 L5) (by simp))
      walk_at "rd"
      refine one_disp D6 (by omega) (by simp) (by simp) fun H7 x hx D7 k7 => ?_
      have hx' : ∃ t : Int, x = .int t ∧ -9 ≤ t ∧ t ≤ 9 := by
        simp only [List.mem_cons, List.not_mem_nil, or_false] at hx
        rcases hx with rfl | rfl | rfl | rfl <;> exact ⟨_, rfl, by omega, by omega⟩
      obtain ⟨t, rfl, t0, t1⟩ := hx'
      have L7 : Lft H7 l a b (r - ti) s := k7.get L6 (by simp [l1, l2])
      have kk7 := kk6.trans (k7.sub (D6.ls3 L6) (by simp))
      have N7 := N.kp kk7 (by simp [n1, n2, n3])
      walk_at "rd"
      refine spExVA.use 2 D7 (by omega) N7 n1 n2 rfl (by omega) (by omega) fun H8 v e n8 D8 q1 q2 k8 hv he => ?_
      have L8 : Lft H8 l a b (r - ti) s := k8.get L7 (by simp [l1, l2])
      have kk8 := kk7.trans (k8.sub (D7.ls3 L7) (by simp))
      walk_at "rd"
      refine ⟨by simp [sizeLine_eq], fun p9 hp9 => ?_⟩
      have k9 : Kp [] H8 (upd H8 p9 (.tup [.str "times", .int t, v])) := Kp.nil.new hp9
      have D9 := D8.kp k9 (by simp) (by simp)
      have L9 : Lft (upd H8 p9 (.tup [.str "times", .int t, v])) l a b (r - ti) s := k9.get L8 (by simp)
      have kk9 := kk8.new (o := .tup [.str "times", .int t, v]) hp9
      have v9 : Dt K (upd H8 p9 (.tup [.str "times", .int t, v])) (.ref p9) (Ex.bin "times" (.int t) e).d := Dt.mk3 upd_same (.str _) (.int _) (hv.kp k9)
      have e9 : (Ex.bin "times" (.int t) e).vd 3 := Ex.vd_times t0 t1 he
      generalize upd H8 p9 (.tup [.str "times", .int t, v]) = H9 at k9 D9 L9 kk9 v9 ⊢
      clear k6 k7 k8 k9 D5 D6 D7 D8 L5 L6 L7 L8 kk5 kk6 kk7 kk8 hv N7 hp9
      walk_at "rd"
      refine spDraw.use D9 (by omega) (by omega) (by omega) fun Ha q q0 q1' Da ka => ?_
      have La : Lft Ha l a b (r - ti) s := ka.get L9 (by simp [l1, l2])
      have kka := kk9.trans (ka.sub (D9.ls3 L9) (by simp))
      walk_at "rd"
      refine ⟨by simp [sizeLine_eq], fun pb hpb => ?_⟩
      have kb : Kp [] Ha (upd Ha pb (.tup [.str "rest", .ref p9, .int (2 + w), .int q])) := Kp.nil.new hpb
      walk_at "rd"
      have o1 : (Ts.rest (.bin "times" (.int t) e) (2 + w) q).one "rest" = 1 := if_pos rfl
      have o2 : (Ts.rest (.bin "times" (.int t) e) (2 + w) q).one "less" = 0 := if_neg (show ¬ ("rest" : Str) = "less" by decide +kernel)
      refine kn _ _ ⟨_, .rest (.bin "times" (.int t) e) (2 + w) q, _, r - ti, s, _, _, _, _, rfl, Da.kp kb (by simp) (by simp), by omega, by omega, kb.get La (by simp), by omega, hs0, by rw [o1]; omega, by rw [o2]; omega, kka.new hpb, ?_, ⟨e9, by omega, by omega, by omega, by omega⟩, trivial⟩
      exact Dt.mk4 upd_same (.str _) ((v9.kp ka).kp kb) (.int _) (.int _)
    walk_at "rd"
    refine ite2 (fun c2 => ?_) (fun c2 => ?_)
    all_goals simp only [Bool.and_eq_true, decide_eq_true_eq, not_and] at c2
    · walk_at "rd"
      have k5 := kpW (o := .lst ([V.int a, V.int b, V.int r, V.int s].set (Int.toNat 3) (V.int (s - ti)))) L4'
      have D5 := D4.kp k5 (by simp [Ne.symm l1]) (by simp [Ne.symm l2])
      have kk5 : Kp [d, c, l] H (upd H4 l (.lst ([V.int a, V.int b, V.int r, V.int s].set (Int.toNat 3) (V.int (s - ti))))) := kk4.write (by simp)
      have L5 : Lft (upd H4 l (.lst ([V.int a, V.int b, V.int r, V.int s].set (Int.toNat 3) (V.int (s - ti))))) l a b r (s - ti) := upd_same
      generalize upd H4 l (.lst ([V.int a, V.int b, V.int r, V.int s].set (Int.toNat 3) (V.int (s - ti)))) = H5 at k5 D5 kk5 L5 ⊢
      have N5 := N.kp kk5 (by simp [n1, n2, n3])
      clear k5 L4' L4 D4 v4 N4 kk4 give
      refine spExVA.use 2 D5 (by omega) N5 n1 n2 rfl (by omega) (by omega) fun H6 v e n6 D6 q1 q2 k6 hv he => ?_
      have L6 : Lft H6 l a b r (s - ti) := k6.get L5 (by simp [l1, l2])
      have kk6 := kk5.trans (k6.sub (D5.ls3 L5) (by simp))
      walk_at "rd"
      refine one_disp D6 (by omega) (by simp) (by simp) fun H7 x hx D7 k7 => ?_
      have hx' : ∃ e : Ex, Dt K H7 x e.d ∧ e.vd 2 := by
        simp only [List.mem_cons, List.not_mem_nil, or_false] at hx
        rcases hx with rfl | rfl
        · exact ⟨.name "n", .str _, show isNameS "n" = true by decide +kernel⟩
        · exact ⟨e, hv.kp k7, he⟩
      obtain ⟨e1, hx1, he1⟩ := hx'
      have L7 : Lft H7 l a b r (s - ti) := k7.get L6 (by simp [l1, l2])
      have kk7 := kk6.trans (k7.sub (D6.ls3 L6) (by simp))
      walk_at "rd"
      refine spDraw.use D7 (by omega) (by omega) (by omega) fun H8 q q0 q1' D8 k8 => ?_
      have L8 : Lft H8 l a b r (s - ti) := k8.get L7 (by simp [l1, l2])
      have kk8 := kk7.trans (k8.sub (D7.ls3 L7) (by simp))
      walk_at "rd"
      refine ⟨by simp [sizeLine_eq], fun pb hpb => ?_⟩
      have kb : Kp [] H8 (upd H8 pb (.tup [.str "less", x, .int (q - 20)])) := Kp.nil.new hpb
      walk_at "rd"
      have o1 : (Ts.less e1 (.int (q - 20))).one "less" = 1 := if_pos rfl
      have o2 : (Ts.less e1 (.int (q - 20))).one "rest" = 0 := if_neg (show ¬ ("less" : Str) = "rest" by decide +kernel)
      refine kn _ _ ⟨_, .less e1 (.int (q - 20)), _, r, s - ti, _, _, _, _, rfl, D8.kp kb (by simp) (by simp), by omega, by omega, kb.get L8 (by simp), hr0, by omega, by rw [o2]; omega, by rw [o1]; omega, kk8.new hpb, ?_, ⟨he1.succ, Ex.vd_int (by omega) (by omega) (by omega)⟩, he1, Ex.vd_int (by omega) (by omega) (by omega)⟩
      exact Dt.mk3 upd_same (.str _) ((hx1.kp k8).kp kb) (.int _)
    · walk_at "rd"
      exact give _ rfl
  rintro σ H5 ⟨v5, t5, n5, r5, s5, x7, x8, x9, x10, rfl, D5, q1, q2, L5, r50, s50, er, es, kk5, hv5, ht5, hlo5⟩
  clear L4 D4 v4 N4 kk4
  walk_at "rdj"
  refine r_ifJ (fun v H6 => v = .int (if u - 2 > 0 then u - 2 else 0) ∧ H6 = H5) (fun Q' kQ => ?_) ?_
  · walk_at "rd"
    refine ifd (fun c1 => ?_) (fun c1 => ?_)
    · walk_at "rd"
      refine kQ _ _ ⟨?_, rfl⟩
      rw [if_pos c1]
    · walk_at "rd"
      refine kQ _ _ ⟨?_, rfl⟩
      rw [if_neg c1]
  rintro v H6 ⟨rfl, rfl⟩
  generalize hw : (if u - 2 > 0 then u - 2 else 0) = w
  have hw2 : 0 ≤ w ∧ w ≤ 2 := by
    rw [← hw]
    split <;> omega
  walk_at "rd"
  refine r_ForR (fun i σ H' => ∃ (v : V) (t : Ts) (kx : Option V), σ = [some (.ref d), some (.ref nm), some (.ref l), some (.int ti), some (.int (u - 2)), some (.int y), some v, x7, x8, x9, x10, kx] ∧ Kp [] H6 H' ∧ Dt K H' v t.d ∧ t.one "rest" = t5.one "rest" ∧ t.one "less" = t5.one "less" ∧ t.vd i ∧ t.lo)
    (by omega) (by omega) ⟨_, t5, _, rfl, Kp.nil, hv5, rfl, rfl, ht5, hlo5⟩ ?_ ?_
  · rintro i σ H9 hi ⟨v, t, kx, rfl, k9, hv, o1, o2, ht, hlo⟩
    walk_at "rd"
    refine ⟨by simp [sizeLine_eq], fun pa hpa => ?_⟩
    have ka : Kp [] H9 (upd H9 pa (.tup [.str "not", v])) := Kp.nil.new hpa
    walk_at "rd"
    exact ⟨_, .not t, _, rfl, k9.new hpa, Dt.mk2 upd_same (.str _) (hv.kp ka), o1, o2, ht, hlo⟩
  · rintro σ H9 ⟨v, t, kx, rfl, k9, hv, o1, o2, ht, hlo⟩
    walk_at "rd"
    exact k _ _ t _ r5 s5 (D5.kp k9 (by simp) (by simp)) (by omega) (by omega) (k9.get L5 (by simp)) r50 s50 (by rw [o1]; exact er) (by rw [o2]; exact es) (kk5.trans (k9.sub (D5.ls3 L5) (by simp))) hv (ht.mono (by omega)) hlo
abbrev s_law_plain : Stmt := topS 23
abbrev N_law_plain : List Str := ["_law_deck_here", "_law_names_here", "_law_way", "_law_name"]
abbrev P_law_plain : List Str := ["_law_deck_here", "_law_names_here"]
theorem sc_law_plain : FnScope N_law_plain P_law_plain (defScope s_law_plain) :=
  ⟨rfl, rfl, rfl, by decide +kernel, rfl, by decide +kernel, by decide +kernel⟩
theorem ok_law_plain (D : Df K mg "_law_plain" s_law_plain P_law_plain) (B : Blt mg)
    (G_law_draw : Has P w K mg base CX0 "_law_draw" ["_law_deck_here", "_law_many"] 1 spDraw) (G_law_one : Has P w K mg base CX0 "_law_one" ["_law_deck_here", "_law_items"] 2 (spOne K))
    (G_law_expression : Has P w K mg base CX0 "_law_expression" ["_law_deck_here", "_law_names_here", "_law_deep"] 5 (spExVA K)) :
    Has P w K mg base CX0 "_law_plain" P_law_plain 6 (spPlV K) := by
  refine D.has sc_law_plain (fun vs H Q E h => ?_) (fun f cdv A outer s H vs Q E hr h => ?_)
  · obtain ⟨d, c, nm, n, xs, rfl, _⟩ := h
    rfl
  obtain ⟨d, c, nm, n, xs, rfl, Dk, hn, N, n1, n2, k⟩ := h
  have n0 := Dk.n0
  refine ⟨_, (pss_cons (ps_par (i := 2) (j := 3) (by rfl) sc_law_plain.nd rfl rfl (by decide) rfl rfl (pa_cons (pe_f G_law_draw (hr.mono (by omega)) (by rfl) pass0 (pa_cons (pv 0) (pa_cons pe_int pa_nil))) (pa_cons (pe_f G_law_one (hr.mono (by omega)) (by rfl) pass0 (pa_cons (pv 0) (pa_cons (pv 1) pa_nil))) pa_nil)) (by rfl))
      (pss_cons (ps_if (pt_cmpR op_lt (pv 2) pe_int (nomark _)) (pss_one (ps_ret (pe_tup (pa_cons pe_str (pa_cons (pv 3) (pa_cons (pe_f G_law_expression (hr.mono (by omega)) (by rfl) pass0 (pa_cons (pv 0) (pa_cons (pv 1) (pa_cons pe_int pa_nil)))) pa_nil))))))
        pss_nil)
      (pss_cons (ps_if (pt_cmpR op_eq (pv 2) pe_int (nomark _)) (pss_one (ps_ret (pe_tup (pa_cons pe_str (pa_cons (pv 3) (pa_cons (pv 3) pa_nil))))))
        pss_nil)
      (pss_cons (ps_if (pt_cmpR op_eq (pv 2) pe_int (nomark _)) (pss_one (ps_ret (pe_tup (pa_cons pe_str (pa_cons (pv 3) pa_nil)))))
        pss_nil)
      (pss_cons (ps_if (pt_cmpR op_eq (pv 2) pe_int (nomark _)) (pss_one (ps_ret (pe_tup (pa_cons pe_str (pa_cons (pe_f G_law_one (hr.mono (by omega)) (by rfl) pass0 (pa_cons (pv 0) (pa_cons (pe_lst (pa_cons pe_str (pa_cons pe_str (pa_cons pe_str (pa_cons pe_str pa_nil))))) pa_nil))) pa_nil)))))
        pss_nil)
      (pss_cons (ps_if (PW.pt (pw_and (pt_cmpR op_eq (pv 2) pe_int (nomark _)) (pw_and1 (pt_cmpR op_eq (pe_f G_law_draw (hr.mono (by omega)) (by rfl) pass0 (pa_cons (pv 0) (pa_cons pe_int pa_nil))) pe_int (nomark _))))) (pss_one (ps_ret (pe_tup (pa_cons pe_str (pa_cons (pe_f G_law_one (hr.mono (by omega)) (by rfl) pass0 (pa_cons (pv 0) (pa_cons (pe_lst (pa_cons pe_str (pa_cons pe_str (pa_cons pe_str pa_nil)))) pa_nil))) pa_nil)))))
        pss_nil)
      (pss_one (ps_ret (pe_tup (pa_cons pe_str (pa_cons (pe_f G_law_expression (hr.mono (by omega)) (by rfl) pass0 (pa_cons (pv 0) (pa_cons (pv 1) (pa_cons pe_int pa_nil)))) pa_nil))))))))))), ?_⟩
  walk_at "rd"
  refine spDraw.use Dk (by omega) (by omega) (by omega) fun H1 r r0 r1 D1 k1 => ?_
  have N1 := N.kp k1 (by simp [n1, n2])
  walk_at "rd"
  refine N1.one D1 (by omega) n1 n2 fun H2 y hy D2 k2 => ?_
  have N2 := N1.kp k2 (by simp [n1, n2])
  have kk2 := k1.trans k2
  walk_at "rd"
  refine ifd (fun c1 => ?_) (fun c1 => ?_)
  · walk_at "rd"
    refine spExVA.use 3 D2 (by omega) N2 n1 n2 rfl (by omega) (by omega) fun H3 v e n3 D3 q1 q2 k3 hv he => ?_
    walk_at "rd"
    refine ⟨by simp [sizeLine_eq], fun p hp => ?_⟩
    have k4 : Kp [] H3 (upd H3 p (.tup [.str "set", .str y, v])) := Kp.nil.new hp
    exact k _ _ (.set y e) n3 (D3.kp k4 (by simp) (by simp)) (by omega) (by omega) ((kk2.trans k3).new hp) (Dt.mk3 upd_same (.str _) (.str _) (hv.kp k4)) ⟨hy, he⟩
  walk_at "rd"
  refine ifd (fun c2 => ?_) (fun c2 => ?_)
  · walk_at "rd"
    refine ⟨by simp [sizeLine_eq], fun p hp => ?_⟩
    have k4 : Kp [] H2 (upd H2 p (.tup [.str "set", .str y, .str y])) := Kp.nil.new hp
    exact k _ _ (.set y (.name y)) _ (D2.kp k4 (by simp) (by simp)) (by omega) (by omega) (kk2.new hp) (Dt.mk3 upd_same (.str _) (.str _) (.str _)) ⟨hy, hy⟩
  walk_at "rd"
  refine ifd (fun c3 => ?_) (fun c3 => ?_)
  · walk_at "rd"
    refine ⟨by simp [sizeLine_eq], fun p hp => ?_⟩
    have k4 : Kp [] H2 (upd H2 p (.tup [.str "unset", .str y])) := Kp.nil.new hp
    exact k _ _ (.unset y) _ (D2.kp k4 (by simp) (by simp)) (by omega) (by omega) (kk2.new hp) (Dt.mk2 upd_same (.str _) (.str _)) hy
  walk_at "rd"
  refine ifd (fun c4 => ?_) (fun c4 => ?_)
  · walk_at "rd"
    refine one_disp D2 (by omega) (by simp) (by simp) fun H3 x hx D3 k3 => ?_
    have hx' : ∃ z : Str, x = .str z ∧ isWordS z = true := by
      simp only [List.mem_cons, List.not_mem_nil, or_false] at hx
      rcases hx with rfl | rfl | rfl | rfl <;> exact ⟨_, rfl, by decide +kernel⟩
    obtain ⟨z, rfl, hz⟩ := hx'
    walk_at "rd"
    refine ⟨by simp [sizeLine_eq], fun p hp => ?_⟩
    have k4 : Kp [] H3 (upd H3 p (.tup [.str "say", .str z])) := Kp.nil.new hp
    exact k _ _ (.say z) _ (D3.kp k4 (by simp) (by simp)) (by omega) (by omega) ((kk2.trans k3).new hp) (Dt.mk2 upd_same (.str _) (.str _)) hz
  have last : ∀ (H3 : Hp) (n3 : Int), Deck H3 d c n3 → n ≤ n3 → n3 ≤ n + 4 → Kp [d, c] H H3 → spExVA K [.ref d, .ref nm, .int 3] H3 (fun v H4 => [V.str "tell", v].length ≤ sizeLine ∧ ∀ p, H4 p = none → Q (.ref p) (upd H4 p (.tup [.str "tell", v]))) E0 := by
    intro H3 n3 D3 q1 q2 k3
    refine spExVA.use 3 D3 (by omega) (N.kp k3 (by simp [n1, n2])) n1 n2 rfl (by omega) (by omega) fun H4 v e n4 D4 q3 q4 k4 hv he => ?_
    refine ⟨by simp [sizeLine_eq], fun p hp => ?_⟩
    have k5 : Kp [] H4 (upd H4 p (.tup [.str "tell", v])) := Kp.nil.new hp
    exact k _ _ (.tell e) n4 (D4.kp k5 (by simp) (by simp)) (by omega) (by omega) ((k3.trans k4).new hp) (Dt.mk2 upd_same (.str _) (hv.kp k5)) he
  walk_at "rd"
  refine ifd (fun c5 => ?_) (fun c5 => ?_)
  · walk_at "rd"
    refine spDraw.use D2 (by omega) (by omega) (by omega) fun H3 z z0 z1 D3 k3 => ?_
    walk_at "rd"
    refine ifd (fun c6 => ?_) (fun c6 => ?_)
    · walk_at "rd"
      refine one_disp D3 (by omega) (by simp) (by simp) fun H4 x hx D4 k4 => ?_
      have hx' : ∃ z : Str, x = .str z ∧ isWordS z = true := by
        simp only [List.mem_cons, List.not_mem_nil, or_false] at hx
        rcases hx with rfl | rfl | rfl <;> exact ⟨_, rfl, by decide +kernel⟩
      obtain ⟨z, rfl, hz⟩ := hx'
      walk_at "rd"
      refine ⟨by simp [sizeLine_eq], fun p hp => ?_⟩
      have k5 : Kp [] H4 (upd H4 p (.tup [.str "stop", .str z])) := Kp.nil.new hp
      exact k _ _ (.stop z) _ (D4.kp k5 (by simp) (by simp)) (by omega) (by omega) (((kk2.trans k3).trans k4).new hp) (Dt.mk2 upd_same (.str _) (.str _)) hz
    · walk_at "rd"
      exact last _ _ D3 (by omega) (by omega) (kk2.trans k3)
  · walk_at "rd"
    exact last _ _ D2 (by omega) (by omega) kk2
abbrev s_law_row : Stmt := topS 24
abbrev N_law_row : List Str := ["_law_deck_here", "_law_names_here", "_law_left", "_law_times", "_law_depth", "_law_way", "_law_test_here", "_law_yes", "_law_no", "_law_again", "_law_block_here"]
abbrev P_law_row : List Str := ["_law_deck_here", "_law_names_here", "_law_left", "_law_times", "_law_depth"]
theorem sc_law_row : FnScope N_law_row P_law_row (defScope s_law_row) :=
  ⟨rfl, rfl, rfl, by decide +kernel, rfl, by decide +kernel, by decide +kernel⟩
theorem ok_law_row (D : Df K mg "_law_row" s_law_row P_law_row) (B : Blt mg) {e lv : Nat} (hlv : 6 ≤ lv)
    (G_law_draw : Has P w K mg base CX0 "_law_draw" ["_law_deck_here", "_law_many"] 1 spDraw) (G_law_one : Has P w K mg base CX0 "_law_one" ["_law_deck_here", "_law_items"] 2 (spOne K))
    (G_law_test : Has P w K mg base CX0 "_law_test" ["_law_deck_here", "_law_names_here", "_law_left", "_law_times"] 6 (spTsV K))
    (G_law_plain : Has P w K mg base CX0 "_law_plain" ["_law_deck_here", "_law_names_here"] 6 (spPlV K))
    (G_law_block : Has P w K mg base CX0 "_law_block" ["_law_deck_here", "_law_names_here", "_law_left", "_law_times", "_law_depth"] lv (spBlV K e)) :
    Has P w K mg base CX0 "_law_row" P_law_row (lv + 1) (spRowV K e) := by
  refine D.has sc_law_row (fun vs H Q E h => ?_) (fun f cdv A outer s H vs Q E hr h => ?_)
  · obtain ⟨d, c, nm, l, n, ti, dep, a, b, r, s, xs, rfl, _⟩ := h
    rfl
  obtain ⟨d, c, nm, l, n, ti, dep, a, b, r, s, xs, rfl, Dk, hn, N, n1, n2, n3, l1, l2, hL, ha, hb, hr0, hs0, ha1, ht0, hdep, k⟩ := h
  have n0 := Dk.n0
  refine ⟨_, (pss_cons (ps_if (PW.pt (pw_or (pt_cmpR op_lt (pe_ix ix_list (pv 2) pe_int (fun _ _ => rfl)) pe_int (nomark _)) (pw_or1 (pt_cmpR op_lt (pe_ix ix_list (pv 2) pe_int (fun _ _ => rfl)) (pv 3) (nomark _))))) (pss_one (ps_ret (pe_tup pa_nil)))
        pss_nil)
      (pss_cons (ps_asg (pe_tup (pa_cons (pe_op op_sub (pe_ix ix_list (pv 2) pe_int (fun _ _ => rfl)) pe_int) (pa_cons (pe_op op_sub (pe_ix ix_list (pv 2) pe_int (fun _ _ => rfl)) (pv 3)) pa_nil))) (pg_tup rfl (pgs_cons (pg_sub (pv 2) pe_int set_list) (pgs_cons (pg_sub (pv 2) pe_int set_list) pgs_nil))))
      (pss_cons (ps_set (i := 5) sc_law_row.nd rfl (Or.inl rfl) (pe_f G_law_draw (hr.mono (by omega)) (by rfl) pass0 (pa_cons (pv 0) (pa_cons pe_int pa_nil))))
      (pss_cons (ps_if (pt_cmpR op_eq (pv 5) pe_int (nomark _)) (pss_cons (ps_set (i := 6) sc_law_row.nd rfl (Or.inl rfl) (pe_f G_law_test (hr.mono (by omega)) (by rfl) pass0 (pa_cons (pv 0) (pa_cons (pv 1) (pa_cons (pv 2) (pa_cons (pv 3) pa_nil))))))
      (pss_cons (ps_set (i := 7) sc_law_row.nd rfl (Or.inl rfl) (pe_f G_law_block (hr.mono (by omega)) (by rfl) pass0 (pa_cons (pv 0) (pa_cons (pv 1) (pa_cons (pv 2) (pa_cons (pv 3) (pa_cons (pe_op op_add (pv 4) pe_int) pa_nil)))))))
      (pss_cons (ps_set (i := 8) sc_law_row.nd rfl (Or.inl rfl) (pe_f G_law_block (hr.mono (by omega)) (by rfl) pass0 (pa_cons (pv 0) (pa_cons (pv 1) (pa_cons (pv 2) (pa_cons (pv 3) (pa_cons (pe_op op_add (pv 4) pe_int) pa_nil)))))))
      (pss_one (ps_ret (pe_tup (pa_cons pe_str (pa_cons (pv 6) (pa_cons (pv 7) (pa_cons (pv 8) pa_nil))))))))))
        pss_nil)
      (pss_cons (ps_if (pt_cmpR op_eq (pv 5) pe_int (nomark _)) (pss_cons (ps_set (i := 9) sc_law_row.nd rfl (Or.inl rfl) (pe_f G_law_one (hr.mono (by omega)) (by rfl) pass0 (pa_cons (pv 0) (pa_cons (pe_lst (pa_cons pe_int (pa_cons pe_int (pa_cons pe_int (pa_cons pe_int (pa_cons pe_int (pa_cons pe_int (pa_cons pe_int pa_nil)))))))) pa_nil))))
      (pss_cons (ps_set (i := 10) sc_law_row.nd rfl (Or.inl rfl) (pe_f G_law_block (hr.mono (by omega)) (by rfl) pass0 (pa_cons (pv 0) (pa_cons (pv 1) (pa_cons (pv 2) (pa_cons (pe_op op_mul (pv 3) (pv 9)) (pa_cons (pe_op op_add (pv 4) pe_int) pa_nil)))))))
      (pss_one (ps_ret (pe_tup (pa_cons pe_str (pa_cons (pv 9) (pa_cons (pv 10) pa_nil))))))))
        pss_nil)
      (pss_one (ps_ret (pe_f G_law_plain (hr.mono (by omega)) (by rfl) pass0 (pa_cons (pv 0) (pa_cons (pv 1) pa_nil)))))))))), ?_⟩
  have hL' := hL
  unfold Lft at hL'
  have ls3 : Kp [d, c, l] H H := Kp.refl (Dk.ls3 hL)
  walk_at "rd"
  refine ite2 (fun c1 => ?_) (fun c1 => ?_)
  all_goals simp only [Bool.or_eq_true, decide_eq_true_eq, not_or] at c1
  · walk_at "rd"
    refine ⟨by decide, fun p hp => ?_⟩
    have k1 : Kp [] H (upd H p (.tup [])) := Kp.nil.new hp
    exact k _ _ [] _ a b r s (Dk.kp k1 (by simp) (by simp)) (by omega) (by omega) (k1.get hL (by simp)) ha hb hr0 hs0 (by simp) Took.nil (ls3.new hp) (Dt.mk0 upd_same) (fun _ h => nomatch h)
  walk_at "rd"
  refine ⟨by simp [sizeLine_eq], fun p1 hp1 => ?_⟩
  have k1 : Kp [] H (upd H p1 (.tup [.int (a - 1), .int (b - ti)])) := Kp.nil.new hp1
  have D1 := Dk.kp k1 (by simp) (by simp)
  have kk1 : Kp [d, c, l] H (upd H p1 (.tup [.int (a - 1), .int (b - ti)])) := ls3.new hp1
  have L1 := k1.get hL' (by simp)
  have t1 : upd H p1 (.tup [.int (a - 1), .int (b - ti)]) p1 = some (.tup [.int (a - 1), .int (b - ti)]) := upd_same
  generalize upd H p1 (.tup [.int (a - 1), .int (b - ti)]) = H1 at k1 D1 kk1 L1 t1 ⊢
  walk_at "rd"
  rw [upd_upd]
  have k2 := kpW (o := .lst (([V.int a, V.int b, V.int r, V.int s].set (Int.toNat 0) (V.int (a - 1))).set (Int.toNat 1) (V.int (b - ti)))) L1
  have D2 := D1.kp k2 (by simp [Ne.symm l1]) (by simp [Ne.symm l2])
  have kk2 : Kp [d, c, l] H (upd H1 l (.lst (([V.int a, V.int b, V.int r, V.int s].set (Int.toNat 0) (V.int (a - 1))).set (Int.toNat 1) (V.int (b - ti))))) := kk1.write (by simp)
  have L2 : Lft (upd H1 l (.lst (([V.int a, V.int b, V.int r, V.int s].set (Int.toNat 0) (V.int (a - 1))).set (Int.toNat 1) (V.int (b - ti))))) l (a - 1) (b - ti) r s := upd_same
  generalize upd H1 l (.lst (([V.int a, V.int b, V.int r, V.int s].set (Int.toNat 0) (V.int (a - 1))).set (Int.toNat 1) (V.int (b - ti)))) = H2 at k2 D2 kk2 L2 ⊢
  clear k1 D1 kk1 L1 t1 k2 hL' hp1
  refine spDraw.use D2 (by omega) (by omega) (by omega) fun H3 way w0 w1 D3 k3 => ?_
  have L3 : Lft H3 l (a - 1) (b - ti) r s := k3.get L2 (by simp [l1, l2])
  have kk3 := kk2.trans (k3.sub (D2.ls3 L2) (by simp))
  have N3 := N.kp kk3 (by simp [n1, n2, n3])
  clear D2 kk2 L2 k3
  walk_at "rd"
  refine ifd (fun c2 => ?_) (fun c2 => ?_)
  · walk_at "rd"
    refine ⟨d, c, nm, l, _, ti, _, _, _, _, xs, rfl, D3, by omega, N3, n1, n2, n3, l1, l2, L3, hr0, hs0, ht0, fun H4 v t n4 r4 s4 D4 q1 q2 L4 r40 s40 er es k4 hv ht hlo => ?_⟩
    have kk4 := kk3.trans k4
    have N4 := N.kp kk4 (by simp [n1, n2, n3])
    walk_at "rd"
    refine ⟨d, c, nm, l, _, ti, _, _, _, _, _, xs, rfl, D4, by omega, N4, n1, n2, n3, l1, l2, L4, by omega, by omega, r40, s40, by omega, ht0, by omega, fun H5 v5 x5 n5 a5 b5 r5 s5 D5 q3 q4 L5 a50 b50 r50 s50 T5 k5 hv5 hx5 => ?_⟩
    have kk5 := kk4.trans k5
    have N5 := N.kp kk5 (by simp [n1, n2, n3])
    have ea5 := T5.a
    walk_at "rd"
    refine ⟨d, c, nm, l, _, ti, _, _, _, _, _, xs, rfl, D5, by omega, N5, n1, n2, n3, l1, l2, L5, by omega, by omega, r50, s50, by omega, ht0, by omega, fun H6 v6 x6 n6 a6 b6 r6 s6 D6 q5 q6 L6 a60 b60 r60 s60 T6 k6 hv6 hx6 => ?_⟩
    have kk6 := kk5.trans k6
    have ea6 := T6.a
    walk_at "rd"
    refine ⟨by simp [sizeLine_eq], fun p hp => ?_⟩
    have k7 : Kp [] H6 (upd H6 p (.tup [.str "if", v, v5, v6])) := Kp.nil.new hp
    refine k _ _ [.ifs t x5 x6] n6 a6 b6 r6 s6 (D6.kp k7 (by simp) (by simp)) (by omega) (by omega) (k7.get L6 (by simp)) a60 b60 r60 s60 (by simp) ?_ (kk6.new hp) ?_ ?_
    · have w1 : Sm.cnts "weight" [Sm.ifs t x5 x6] = 1 + (Sm.cnts "weight" x5 + Sm.cnts "weight" x6) := by rw [Sm.cnts_one, Sm.cnt, Sm.cnt_w]
      have w2 : Sm.cnts "rest" [Sm.ifs t x5 x6] = t.one "rest" + (Sm.cnts "rest" x5 + Sm.cnts "rest" x6) := by rw [Sm.cnts_one, Sm.cnt_if _ _ _ _ (by decide +kernel)]
      have w3 : Sm.cnts "less" [Sm.ifs t x5 x6] = t.one "less" + (Sm.cnts "less" x5 + Sm.cnts "less" x6) := by rw [Sm.cnts_one, Sm.cnt_if _ _ _ _ (by decide +kernel)]
      have b5 := T5.b; have r5' := T5.r; have s5' := T5.s
      have b6 := T6.b; have r6' := T6.r; have s6' := T6.s
      constructor
      · simp only [Sm.sizes, Sm.size]
        omega
      · rw [w1, Int.mul_add, Int.mul_add]
        omega
      · rw [w2, Int.mul_add, Int.mul_add]
        omega
      · rw [w3, Int.mul_add, Int.mul_add]
        omega
      · exact Sm.los_one (by rw [Sm.lo]; exact ⟨hlo, T5.l, T6.l⟩)
    · show Dt K _ _ (Sm.d (.ifs t x5 x6))
      rw [Sm.d]
      exact Dt.mk4 upd_same (.str _) (((hv.kp k5).kp k6).kp k7) ((hv5.kp k6).kp k7) (hv6.kp k7)
    · intro z hz
      rw [List.mem_singleton.mp hz]
      cases e with
      | zero => exact ⟨ht, hx5, hx6⟩
      | succ e => exact ⟨ht, hx5, hx6⟩
  walk_at "rd"
  refine ifd (fun c3 => ?_) (fun c3 => ?_)
  · walk_at "rd"
    refine one_disp D3 (by omega) (by simp) (by simp) fun H4 x hx D4 k4 => ?_
    have hx' : ∃ u : Int, x = .int u ∧ 0 ≤ u ∧ u ≤ 8 := by
      simp only [List.mem_cons, List.not_mem_nil, or_false] at hx
      rcases hx with rfl | rfl | rfl | rfl | rfl | rfl | rfl <;> exact ⟨_, rfl, by omega, by omega⟩
    obtain ⟨u, rfl, u0, u1⟩ := hx'
    have L4 : Lft H4 l (a - 1) (b - ti) r s := k4.get L3 (by simp [l1, l2])
    have kk4 := kk3.trans (k4.sub (D3.ls3 L3) (by simp))
    have N4 := N.kp kk4 (by simp [n1, n2, n3])
    have m0 : 0 ≤ ti * u := Int.mul_nonneg ht0 u0
    walk_at "rd"
    rotate_left
    · walk_at "sc"
    refine ⟨d, c, nm, l, _, ti * u, _, _, _, _, _, xs, rfl, D4, by omega, N4, n1, n2, n3, l1, l2, L4, by omega, by omega, hr0, hs0, by omega, m0, by omega, fun H5 v5 x5 n5 a5 b5 r5 s5 D5 q3 q4 L5 a50 b50 r50 s50 T5 k5 hv5 hx5 => ?_⟩
    have kk5 := kk4.trans k5
    have ea5 := T5.a
    walk_at "rd"
    refine ⟨by simp [sizeLine_eq], fun p hp => ?_⟩
    have k7 : Kp [] H5 (upd H5 p (.tup [.str "repeat", .int u, v5])) := Kp.nil.new hp
    refine k _ _ [.rep u x5] n5 a5 b5 r5 s5 (D5.kp k7 (by simp) (by simp)) (by omega) (by omega) (k7.get L5 (by simp)) a50 b50 r50 s50 (by simp) ?_ (kk5.new hp) ?_ ?_
    · have b5 := T5.b; have r5' := T5.r; have s5' := T5.s
      have hh : ∀ so : Str, ti * (Sm.cnts so x5 * u) = ti * u * Sm.cnts so x5 := fun so => by rw [Int.mul_comm (Sm.cnts so x5), Int.mul_assoc]
      constructor
      · simp only [Sm.sizes, Sm.size]
        omega
      · rw [Sm.cnts_one, Sm.cnt_rep, if_pos rfl, Int.mul_add, hh]
        omega
      · rw [Sm.cnts_one, Sm.cnt_rep, if_neg (by decide +kernel), Int.mul_add, hh]
        omega
      · rw [Sm.cnts_one, Sm.cnt_rep, if_neg (by decide +kernel), Int.mul_add, hh]
        omega
      · exact Sm.los_one (by rw [Sm.lo]; exact T5.l)
    · show Dt K _ _ (Sm.d (.rep u x5))
      rw [Sm.d]
      exact Dt.mk3 upd_same (.str _) (.int _) (hv5.kp k7)
    · intro z hz
      rw [List.mem_singleton.mp hz]
      cases e with
      | zero => exact ⟨u0, u1, hx5⟩
      | succ e => exact ⟨u0, u1, hx5⟩
  walk_at "rd"
  refine ⟨d, c, nm, _, xs, rfl, D3, by omega, N3, n1, n2, fun H4 v p n4 D4 q1 q2 k4 hv hp => ?_⟩
  have L4 : Lft H4 l (a - 1) (b - ti) r s := k4.get L3 (by simp [l1, l2])
  refine k _ _ [.pl p] n4 (a - 1) (b - ti) r s D4 (by omega) (by omega) L4 (by omega) (by omega) hr0 hs0 (by simp) ?_ (kk3.trans (k4.sub (D3.ls3 L3) (by simp))) ?_ ?_
  · constructor
    · simp only [Sm.sizes, Sm.size]
      omega
    · rw [Sm.cnts_one, Sm.cnt_pl, if_pos rfl]
      omega
    · rw [Sm.cnts_one, Sm.cnt_pl, if_neg (by decide +kernel)]
      omega
    · rw [Sm.cnts_one, Sm.cnt_pl, if_neg (by decide +kernel)]
      omega
    · exact Sm.los_one (by rw [Sm.lo]; trivial)
  · show Dt K _ _ (Sm.d (.pl p))
    rw [Sm.d]
    exact hv
  · intro z hz
    rw [List.mem_singleton.mp hz]
    cases e <;> exact hp
abbrev s_law_block : Stmt := topS 25
abbrev N_law_block : List Str := ["_law_deck_here", "_law_names_here", "_law_left", "_law_times", "_law_depth", "_law_many", "_law_rows", "_law_k", "_law_row_here"]
abbrev P_law_block : List Str := ["_law_deck_here", "_law_names_here", "_law_left", "_law_times", "_law_depth"]
theorem sc_law_block : FnScope N_law_block P_law_block (defScope s_law_block) :=
  ⟨rfl, rfl, rfl, by decide +kernel, rfl, by decide +kernel, by decide +kernel⟩
theorem ok_law_block (D : Df K mg "_law_block" s_law_block P_law_block) (B : Blt mg) {e lv : Nat} {sp2 : Sp} (hlv : 1 ≤ lv)
    (G_law_draw : Has P w K mg base CX0 "_law_draw" ["_law_deck_here", "_law_many"] 1 spDraw)
    (G_law_row : Has P w K mg base CX0 "_law_row" ["_law_deck_here", "_law_names_here", "_law_left", "_law_times", "_law_depth"] lv sp2) (hs : ∀ m, e = m + 1 → sp2 = spRowV K m) :
    Has P w K mg base CX0 "_law_block" P_law_block (lv + 1) (spBlV K e) := by
  refine D.has sc_law_block (fun vs H Q E h => ?_) (fun f cdv A outer s H vs Q E hr h => ?_)
  · obtain ⟨d, c, nm, l, n, ti, dep, a, b, r, s, xs, rfl, _⟩ := h
    rfl
  obtain ⟨d, c, nm, l, n, ti, dep, a, b, r, s, xs, rfl, Dk, hn, N, n1, n2, n3, l1, l2, hL, ha, hb, hr0, hs0, ha1, ht0, hdep, k⟩ := h
  have n0 := Dk.n0
  refine ⟨_, (pss_cons (ps_if (pt_cmpR op_gt (pv 4) pe_int (nomark _)) (pss_one (ps_ret (pe_tup pa_nil)))
        pss_nil)
      (pss_cons (ps_par (i := 5) (j := 6) (by rfl) sc_law_block.nd rfl rfl (by decide) rfl rfl (pa_cons (pe_op op_add (pe_f G_law_draw (hr.mono (by omega)) (by rfl) pass0 (pa_cons (pv 0) (pa_cons pe_int pa_nil))) (pe_callTy c_int (by rfl) B.int (by decide +kernel) (pa_cons (pe_cmpR op_eq (pv 4) pe_int (nomark _)) pa_nil))) (pa_cons (pe_lst pa_nil) pa_nil)) (by rfl))
      (pss_cons (ps_for PassesOwn.never rfl (pi_range1 (by rfl) B.range (pa_cons (pv 5) pa_nil)) (pg_name (i := 7) sc_law_block.nd rfl (Or.inl rfl))
        (pss_one (ps_expr (pe_bm PySem.F.plainAttrs_list PySem.F.slot_list_append PySem.F.type_list_append mt_append (pv 6) (pa_cons (pe_f G_law_row (hr.mono (by omega)) (by rfl) pass0 (pa_cons (pv 0) (pa_cons (pv 1) (pa_cons (pv 2) (pa_cons (pv 3) (pa_cons (pv 4) pa_nil)))))) pa_nil)))))
      (pss_one (ps_ret (pe_callTy c_tup (by rfl) B.tuple (by decide +kernel) (pa_cons (pe_lc (own := [("_law_row_here", 8)]) (g := gName 8) (by rfl) sc_law_block.nd (pi_list (pv 6)) (blkOk_by (own := [("_law_row_here", 8)]) (N := N_law_block) (sc := defScope s_law_block) (by decide +kernel)) (fun _ _ _ _ _ => (pg_name (i := 8) sc_law_block.nd rfl (Or.inl rfl))) (fun _ _ _ _ _ => (pts_one (pt_cmpR (op_neNilK (K := K) rfl hr.h64) (pv 8) (pe_tup pa_nil) (nomark _)))) (fun _ _ _ _ _ => (pv 8))) pa_nil))))))), ?_⟩
  have ls3 : Kp [d, c, l] H H := Kp.refl (Dk.ls3 hL)
  walk_at "rd"
  refine ifd (fun c1 => ?_) (fun c1 => ?_)
  · walk_at "rd"
    refine ⟨by decide, fun p hp => ?_⟩
    have k1 : Kp [] H (upd H p (.tup [])) := Kp.nil.new hp
    refine k _ _ [] _ a b r s (Dk.kp k1 (by simp) (by simp)) (by omega) (by omega) (k1.get hL (by simp)) ha hb hr0 hs0 Took.nil (ls3.new hp) (by rw [Sm.ds]; exact Dt.mk0 upd_same) ?_
    cases e with
    | zero => exact rfl
    | succ e => exact fun _ h => nomatch h
  obtain ⟨e, rfl⟩ : ∃ m, e = m + 1 := ⟨e - 1, by omega⟩
  obtain rfl := hs e rfl
  walk_at "rd"
  refine spDraw.use Dk (by omega) (by omega) (by omega) fun H1 u u0 u1 D1 k1 => ?_
  have L1 : Lft H1 l a b r s := k1.get hL (by simp [l1, l2])
  have kk1 := ls3.trans (k1.sub (Dk.ls3 hL) (by simp))
  walk_at "rd"
  generalize ew : u + (if decide (V.int dep = V.int 0) = true then 1 else 0) = m
  have hm0 : 0 ≤ m ∧ m ≤ 5 := by
    rw [← ew]
    split <;> omega
  refine ⟨by decide, fun q hq => ?_⟩
  have f1 := D1.fresh hq
  have hql : q ≠ l := Ne.symm (ne_of_none (show H1 l = _ from L1) hq)
  have hq0 : H q = none := kk1.free (D1.ls3 L1) hq
  have k2 : Kp [] H1 (upd H1 q (.lst [])) := Kp.nil.new hq
  have D2 := D1.kp k2 (by simp) (by simp)
  have L2 : Lft (upd H1 q (.lst [])) l a b r s := k2.get L1 (by simp)
  have q2 : upd H1 q (.lst []) q = some (.lst []) := upd_same
  have kk2 := kk1.new (o := .lst []) hq
  generalize upd H1 q (.lst []) = H2 at k2 D2 L2 q2 kk2 ⊢
  walk_at "rd"
  refine r_ForR (fun i σ H' => ∃ (vs : List V) (xss : List (List Sm)) (n' a' b' r' s' : Int) (kx : Option V), σ = [some (.ref d), some (.ref nm), some (.ref l), some (.int ti), some (.int dep), some (.int m), some (.ref q), kx, none] ∧
      Deck H' d c n' ∧ n ≤ n' ∧ n' ≤ n + 1 + 150 * (a - a') ∧ Lft H' l a' b' r' s' ∧ 0 ≤ a' ∧ 0 ≤ b' ∧ 0 ≤ r' ∧ 0 ≤ s' ∧ Took ti a b r s a' b' r' s' xss.flatten ∧ Kp [d, c, l] H H' ∧ H' q = some (.lst vs) ∧ DtL K H' vs (xss.map rowD) ∧ vs.length = i ∧
      (∀ x ∈ xss, x.length ≤ 1) ∧ ∀ s ∈ xss.flatten, Sm.vd e s)
    (by omega) (by omega) ⟨[], [], n + 1, a, b, r, s, none, rfl, D2, by omega, by omega, L2, ha, hb, hr0, hs0, Took.nil, kk2, q2, DtL.nil, rfl, (fun _ h => nomatch h), fun _ h => nomatch h⟩ ?_ ?_
  · rintro i σ H4 hi ⟨vs, xss, n4, a4, b4, r4, s4, kx, rfl, D4, m1, m2, L4, a40, b40, r40, s40, T4, k4, q4, t4, v4, x4, o4⟩
    have ea4 := T4.a
    walk_at "rd"
    refine ⟨d, c, nm, l, n4, ti, dep, a4, b4, r4, s4, xs, rfl, D4, by omega, N.kp k4 (by simp [n1, n2, n3]), n1, n2, n3, l1, l2, L4, a40, b40, r40, s40, by omega, ht0, by omega, fun H5 v x n5 a5 b5 r5 s5 D5 m3 m4 L5 a50 b50 r50 s50 x1 T5 k5 hv hx => ?_⟩
    have q5 := k5.get q4 (by simp [f1.1, f1.2, hql])
    walk_at "rd"
    · have k6 := kpW (o := .lst (vs ++ [v])) q5
      refine ⟨vs ++ [v], xss ++ [x], n5, a5, b5, r5, s5, _, rfl, D5.kp k6 (by simp [Ne.symm f1.1]) (by simp [Ne.symm f1.2]), by omega, by omega, k6.get L5 (by simp [Ne.symm hql]), a50, b50, r50, s50, ?_, (k4.trans k5).own hq0, upd_same, ?_, ?_, ?_, ?_⟩
      · rw [List.flatten_append, List.flatten_cons, List.flatten_nil, List.append_nil]
        exact T4.app T5
      · rw [List.map_append]
        exact ((t4.kp k5).kp k6).snoc (hv.kp k6)
      · rw [List.length_append, List.length_singleton, v4]
      · intro z hz
        rcases List.mem_append.mp hz with hz | hz
        · exact x4 z hz
        · rw [List.mem_singleton.mp hz]
          exact x1
      · intro z hz
        rw [List.flatten_append, List.flatten_cons, List.flatten_nil, List.append_nil] at hz
        rcases List.mem_append.mp hz with hz | hz
        · exact o4 z hz
        · exact hx z hz
    · walk_at "sz"
  · rintro σ H4 ⟨vs, xss, n4, a4, b4, r4, s4, kx, rfl, D4, m1, m2, L4, a40, b40, r40, s40, T4, k4, q4, t4, v4, x4, o4⟩
    walk_at "rd"
    refine r_LcL (SqL.of q4) fun p hp => ⟨fun i H' => ∃ acc : List V, H' p = some (.lst acc) ∧ acc.length ≤ i ∧ DtL K H' acc (Sm.ds (xss.take i).flatten) ∧ Kp [] H4 H', ⟨[], upd_same, by simp, by simp [Sm.ds, DtL.nil], Kp.nil.new hp⟩, fun i H' ⟨_, _, _, _, q⟩ => SqL.of (q.get q4 (by simp)), ?_, ?_⟩
    · rintro i x H5 hx ⟨acc, p5, a5, t5, k5⟩
      have hil := (List.getElem?_eq_some_iff.mp hx).1
      have hilx : i < xss.length := by
        have := t4.len
        rw [List.length_map] at this
        omega
      have hg : xss[i]? = some xss[i] := List.getElem?_eq_getElem hilx
      have hd := t4.all i x (rowD xss[i]) hx (by rw [List.getElem?_map, hg]; rfl)
      have h1 := x4 xss[i] (List.getElem_mem hilx)
      have htk : (xss.take (i + 1)).flatten = (xss.take i).flatten ++ xss[i] := by
        have e : xss.take (i + 1) = xss.take i ++ [xss[i]] := by rw [List.take_add_one, hg]; rfl
        rw [e, List.flatten_append, List.flatten_cons, List.flatten_nil, List.append_nil]
      generalize xss[i] = xi at hd h1 htk
      have hd5 := hd.kp k5
      walk_at "rd"
      refine ⟨by decide, fun t ht => ?_⟩
      have k6 : Kp [] H5 (upd H5 t (.tup [])) := Kp.nil.new ht
      have hd6 := hd5.kp k6
      have p6 := k6.get p5 (by simp)
      have t6 := t5.kp k6
      have kk6 := k5.trans k6
      match xi, h1, hd6, htk with
      | [], _, hd6, htk =>
        obtain ⟨z, rfl, hz⟩ := Dt.is0 hd6
        refine r_neNT hz (SqT.of upd_same) ?_
        generalize upd H5 t (.tup []) = H6 at k6 p6 t6 kk6 ⊢
        walk_at "rd"
        exact ⟨acc, p6, by omega, by rw [htk, List.append_nil]; exact t6, kk6⟩
      | [sm], _, hd6, htk =>
        have hd7 : Dt K (upd H5 t (.tup [])) x sm.d := hd6
        obtain ⟨z, zs, rfl, hz, hne⟩ : ∃ (z : Addr) (zs : List V), x = .ref z ∧ SqT K (upd H5 t (.tup [])) z zs ∧ zs ≠ [] := by
          obtain ⟨ds, e1, e2⟩ : ∃ ds, sm.d = .tuple ds ∧ ds ≠ [] := by
            cases sm with
            | pl p => rw [Sm.d]; cases p <;> exact ⟨_, rfl, by simp⟩
            | ifs t y z => rw [Sm.d]; exact ⟨_, rfl, by simp⟩
            | rep k b => rw [Sm.d]; exact ⟨_, rfl, by simp⟩
          rw [e1] at hd7
          obtain ⟨z, zs, e3, hz, hl⟩ := hd7.items
          refine ⟨z, zs, e3, hz, fun e => e2 ?_⟩
          have := hl.len
          rw [e] at this
          exact List.length_eq_zero_iff.mp this.symm
        refine r_neNT hz (SqT.of upd_same) ?_
        have he : (!zs.isEmpty) = true := by cases zs with
          | nil => exact absurd rfl hne
          | cons _ _ => rfl
        rw [he]
        generalize upd H5 t (.tup []) = H6 at k6 p6 t6 kk6 hd7 ⊢
        walk_at "rd"
        have k7 := kpW (o := .lst (acc ++ [.ref z])) p6
        refine r_LcEnd p6 (by rw [sizeLine_eq]; omega) ⟨acc ++ [.ref z], upd_same, by rw [List.length_append, List.length_singleton]; omega, ?_, kk6.own hp⟩
        rw [htk, Sm.ds_snoc]
        exact (t6.kp k7).snoc (hd7.kp k7)
    · rintro H5 ⟨acc, p5, a5, t5, k5⟩
      have ll : vs.length = xss.length := by
        have := t4.len
        rwa [List.length_map] at this
      rw [ll, List.take_length] at t5
      walk_at "rd"
      refine r_tupL (SqL.of p5) fun t ht => ?_
      have k6 : Kp [] H5 (upd H5 t (.tup acc)) := Kp.nil.new ht
      have k56 := k5.trans k6
      have T4a := T4.a
      exact k _ _ xss.flatten n4 a4 b4 r4 s4 (D4.kp k56 (by simp) (by simp)) m1 m2 (k56.get L4 (by simp)) a40 b40 r40 s40 T4 (k4.trans (k56.sub (D4.ls3 L4) (by simp))) ((t5.kp k6).tup upd_same) o4
abbrev s_law_program : Stmt := topS 26
abbrev N_law_program : List Str := ["_law_deck_here", "_law_names_here", "_law_left", "_law_program_here", "_law_k"]
abbrev P_law_program : List Str := ["_law_deck_here", "_law_names_here"]
theorem sc_law_program : FnScope N_law_program P_law_program (defScope s_law_program) :=
  ⟨rfl, rfl, rfl, by decide +kernel, rfl, by decide +kernel, by decide +kernel⟩
theorem ok_law_program (D : Df K mg "_law_program" s_law_program P_law_program) (B : Blt mg) {lv : Nat} (hlv : 5 ≤ lv)
    (G_law_draw : Has P w K mg base CX0 "_law_draw" ["_law_deck_here", "_law_many"] 1 spDraw)
    (G_law_expression : Has P w K mg base CX0 "_law_expression" ["_law_deck_here", "_law_names_here", "_law_deep"] 5 (spExVA K))
    (G_law_block : Has P w K mg base CX0 "_law_block" ["_law_deck_here", "_law_names_here", "_law_left", "_law_times", "_law_depth"] lv (spBlV K 4)) :
    Has P w K mg base CX0 "_law_program" P_law_program (lv + 1) (spPgV K) := by
  refine D.has sc_law_program (fun vs H Q E h => ?_) (fun f cdv A outer s H vs Q E hr h => ?_)
  · obtain ⟨d, c, nm, n, xs, rfl, _⟩ := h
    rfl
  obtain ⟨d, c, nm, n, xs, rfl, Dk, hn, N, n1, n2, k⟩ := h
  have n0 := Dk.n0
  refine ⟨_, (pss_cons (ps_par (i := 2) (j := 3) (by rfl) sc_law_program.nd rfl rfl (by decide) rfl rfl (pa_cons (pe_lst (pa_cons pe_int (pa_cons pe_int (pa_cons pe_int (pa_cons pe_int pa_nil))))) (pa_cons (pe_tup pa_nil) pa_nil)) (by rfl))
      (pss_cons (ps_for PassesOwn.never rfl (pi_range1 (by rfl) B.range (pa_cons (pe_op op_add pe_int (pe_f G_law_draw (hr.mono (by omega)) (by rfl) pass0 (pa_cons (pv 0) (pa_cons pe_int pa_nil)))) pa_nil)) (pg_name (i := 4) sc_law_program.nd rfl (Or.inl rfl))
        (pss_one (ps_set (i := 3) sc_law_program.nd rfl (Or.inl rfl) (pe_op op_catA (pv 3) (pe_f G_law_block (hr.mono (by omega)) (by rfl) pass0 (pa_cons (pv 0) (pa_cons (pv 1) (pa_cons (pv 2) (pa_cons pe_int (pa_cons pe_int pa_nil))))))))))
      (pss_cons (ps_if (PW.pt (pw_or (pt_cmpR op_lt (pe_ix ix_list (pv 2) pe_int (fun _ _ => rfl)) pe_int (nomark _)) (pw_or (pt_cmpR op_lt (pe_ix ix_list (pv 2) pe_int (fun _ _ => rfl)) pe_int (nomark _)) (pw_or1 (pt_cmpR op_eq (pe_f G_law_draw (hr.mono (by omega)) (by rfl) pass0 (pa_cons (pv 0) (pa_cons pe_int pa_nil))) pe_int (nomark _)))))) (pss_one (ps_ret (pv 3)))
        pss_nil)
      (pss_one (ps_ret (pe_op op_catA (pv 3) (pe_tup (pa_cons (pe_tup (pa_cons pe_str (pa_cons (pe_f G_law_expression (hr.mono (by omega)) (by rfl) pass0 (pa_cons (pv 0) (pa_cons (pv 1) (pa_cons pe_int pa_nil)))) pa_nil))) pa_nil)))))))), ?_⟩
  walk_at "rd"
  refine ⟨by simp [sizeLine_eq], fun l hl => ?_⟩
  have k1 : Kp [] H (upd H l (.lst [.int 24, .int 30, .int 2, .int 2])) := Kp.nil.new hl
  have D1 := Dk.kp k1 (by simp) (by simp)
  have L1 : Lft (upd H l (.lst [.int 24, .int 30, .int 2, .int 2])) l 24 30 2 2 := upd_same
  have f1 := Dk.fresh hl
  have f2 : nm ≠ l := ne_of_none N.h hl
  have kk1 : Kp [d, c] H (upd H l (.lst [.int 24, .int 30, .int 2, .int 2])) := (Kp.refl Dk.ls).new hl
  generalize upd H l (.lst [.int 24, .int 30, .int 2, .int 2]) = H1 at k1 D1 L1 kk1 ⊢
  walk_at "rd"
  refine ⟨by decide, fun p2 hp2 => ?_⟩
  have k2 : Kp [] H1 (upd H1 p2 (.tup [])) := Kp.nil.new hp2
  have D2 := D1.kp k2 (by simp) (by simp)
  have L2 : Lft (upd H1 p2 (.tup [])) l 24 30 2 2 := k2.get L1 (by simp)
  have kk2 := kk1.new (o := .tup []) hp2
  have v2 : Dt K (upd H1 p2 (.tup [])) (.ref p2) (.tuple (Sm.ds [])) := by rw [Sm.ds]; exact Dt.mk0 upd_same
  generalize upd H1 p2 (.tup []) = H2 at k2 D2 L2 kk2 v2 ⊢
  walk_at "rd"
  refine spDraw.use D2 (by omega) (by omega) (by omega) fun H3 u u0 u1 D3 k3 => ?_
  have L3 : Lft H3 l 24 30 2 2 := k3.get L2 (by simp [f1.1, f1.2])
  walk_at "rd"
  refine r_ForR (fun i σ H' => ∃ (v : V) (x : List Sm) (n' a' b' r' s' : Int) (kx : Option V), σ = [some (.ref d), some (.ref nm), some (.ref l), some v, kx] ∧
      Deck H' d c n' ∧ n ≤ n' ∧ n' ≤ n + 1 + i + 150 * (24 - a') ∧ Lft H' l a' b' r' s' ∧ 0 ≤ a' ∧ 0 ≤ b' ∧ 0 ≤ r' ∧ 0 ≤ s' ∧ Took 1 24 30 2 2 a' b' r' s' x ∧ Kp [d, c] H H' ∧ Dt K H' v (.tuple (Sm.ds x)) ∧ ∀ s ∈ x, Sm.vd 3 s)
    (by omega) (by omega) ⟨_, [], n + 1, 24, 30, 2, 2, none, rfl, D3, by omega, by omega, L3, by omega, by omega, by omega, by omega, Took.nil, kk2.trans k3, v2.kp k3, fun _ h => nomatch h⟩ ?_ ?_
  · rintro i σ H4 hi ⟨v, x, n4, a4, b4, r4, s4, kx, rfl, D4, m1, m2, L4, a40, b40, r40, s40, T4, k4, v4, o4⟩
    have ea4 := T4.a
    walk_at "rd"
    refine ⟨d, c, nm, l, n4, 1, 0, a4, b4, r4, s4, xs, rfl, D4, by omega, N.kp k4 (by simp [n1, n2]), n1, n2, f2, f1.1, f1.2, L4, a40, b40, r40, s40, by omega, by omega, by omega, fun H5 v5 x5 n5 a5 b5 r5 s5 D5 m3 m4 L5 a50 b50 r50 s50 T5 k5 hv hx => ?_⟩
    have T6 := T4.app T5
    have e6 := T6.a
    have kk5 : Kp [d, c] H H5 := k4.out hl k5
    have ea := Sm.sizes_app x x5
    have ln : (Sm.ds x).length + (Sm.ds x5).length ≤ 24 := by
      have q1 := Sm.len_sizes x
      have q2 := Sm.len_sizes x5
      rw [Sm.ds_map, Sm.ds_map, List.length_map, List.length_map]
      omega
    refine r_catA (K := K) (v4.kp k5) hv (by omega) fun H6 v6 k6 hv6 => ?_
    rw [← Sm.ds_app] at hv6
    walk_at "rd"
    refine ⟨v6, x ++ x5, n5, a5, b5, r5, s5, _, rfl, D5.kp k6 (by simp) (by simp), by omega, by omega, k6.get L5 (by simp), a50, b50, r50, s50, T6, kk5.trans (k6.sub D5.ls (by simp)), hv6, fun z hz => ?_⟩
    rcases List.mem_append.mp hz with hz | hz
    · exact o4 z hz
    · exact hx z hz
  · rintro σ H4 ⟨v, x, n4, a4, b4, r4, s4, kx, rfl, D4, m1, m2, L4, a40, b40, r40, s40, T4, k4, v4, o4⟩
    have ea4 := T4.a
    have eb4 := T4.b
    have er4 := T4.r
    have es4 := T4.s
    have hi4 : (1 + u).toNat ≤ 4 := by omega
    have pg : PgV x := ⟨o4, by omega, by omega, by omega, by omega, T4.l⟩
    have L4' := L4
    unfold Lft at L4'
    walk_at "rd"
    refine ifd (fun c1 => ?_) (fun c1 => ?_)
    · walk_at "rd"
      exact k _ _ x n4 D4 m1 (by omega) k4 v4 pg
    walk_at "rd"
    refine ifd (fun c2 => ?_) (fun c2 => ?_)
    · walk_at "rd"
      exact k _ _ x n4 D4 m1 (by omega) k4 v4 pg
    walk_at "rd"
    refine spDraw.use D4 (by omega) (by omega) (by omega) fun H5 z z0 z1 D5 k5 => ?_
    walk_at "rd"
    refine ifd (fun c3 => ?_) (fun c3 => ?_)
    · walk_at "rd"
      exact k _ _ x _ D5 (by omega) (by omega) (k4.trans k5) (v4.kp k5) pg
    walk_at "rd"
    refine spExVA.use 2 D5 (by omega) (N.kp (k4.trans k5) (by simp [n1, n2])) n1 n2 rfl (by omega) (by omega) fun H6 v6 e n6 D6 q1 q2 k6 hv he => ?_
    walk_at "rd"
    refine ⟨by simp [sizeLine_eq], fun p7 hp7 => ?_⟩
    have k7 : Kp [] H6 (upd H6 p7 (.tup [.str "tell", v6])) := Kp.nil.new hp7
    have v7 : Dt K (upd H6 p7 (.tup [.str "tell", v6])) (.ref p7) (Pl.tell e).d := Dt.mk2 upd_same (.str _) (hv.kp k7)
    have D7 := D6.kp k7 (by simp) (by simp)
    have vv7 := ((v4.kp k5).kp k6).kp k7
    have kk7 := ((k4.trans k5).trans k6).new (o := .tup [.str "tell", v6]) hp7
    generalize upd H6 p7 (.tup [.str "tell", v6]) = H7 at k7 v7 D7 vv7 kk7 ⊢
    walk_at "rd"
    refine ⟨by simp [sizeLine_eq], fun p8 hp8 => ?_⟩
    have k8 : Kp [] H7 (upd H7 p8 (.tup [.ref p7])) := Kp.nil.new hp8
    have v8 : Dt K (upd H7 p8 (.tup [.ref p7])) (.ref p8) (.tuple (Sm.ds [.pl (.tell e)])) := by
      simp only [Sm.ds, Sm.d]
      exact Dt.mk1 upd_same (v7.kp k8)
    have D8 := D7.kp k8 (by simp) (by simp)
    have vv8 := vv7.kp k8
    have kk8 := kk7.new (o := .tup [.ref p7]) hp8
    generalize upd H7 p8 (.tup [.ref p7]) = H8 at k8 v8 D8 vv8 kk8 ⊢
    have ln : (Sm.ds x).length + (Sm.ds [.pl (.tell e)]).length ≤ 25 := by
      have q1 := Sm.len_sizes x
      rw [Sm.ds_map, Sm.ds_map, List.length_map, List.length_map]
      simp
      omega
    refine r_catA (K := K) vv8 v8 (by omega) fun H9 v9 k9 hv9 => ?_
    rw [← Sm.ds_app] at hv9
    refine k _ _ (x ++ [.pl (.tell e)]) n6 (D8.kp k9 (by simp) (by simp)) (by omega) (by omega) (kk8.trans (k9.sub D8.ls (by simp))) hv9 ⟨fun s hs => ?_, ?_, ?_, ?_, ?_, Sm.los_app _ _ T4.l (Sm.los_one (by rw [Sm.lo]; trivial))⟩
    · rcases List.mem_append.mp hs with hs | hs
      · exact o4 s hs
      · rw [List.mem_singleton.mp hs]
        exact he.succ
    · rw [Sm.sizes_snoc, Sm.size]
      omega
    · rw [Sm.cnts_snoc, Sm.cnt_pl, if_pos rfl]
      omega
    · rw [Sm.cnts_snoc, Sm.cnt_pl, if_neg (by decide +kernel)]
      omega
    · rw [Sm.cnts_snoc, Sm.cnt_pl, if_neg (by decide +kernel)]
      omega
abbrev s_law_number : Stmt := topS 27
abbrev N_law_number : List Str := ["_law_deck_here", "_law_way", "_law_sign"]
abbrev P_law_number : List Str := ["_law_deck_here"]
theorem sc_law_number : FnScope N_law_number P_law_number (defScope s_law_number) :=
  ⟨rfl, rfl, rfl, by decide +kernel, rfl, by decide +kernel, by decide +kernel⟩
theorem ok__law_number (D : Df K mg "_law_number" s_law_number P_law_number) (B : Blt mg) (G_law_draw : Has P w K mg base CX0 "_law_draw" ["_law_deck_here", "_law_many"] 1 spDraw)
    (G_law_one : Has P w K mg base CX0 "_law_one" ["_law_deck_here", "_law_items"] 2 (spOne K)) : Has P w K mg base CX0 "_law_number" P_law_number 3 spNum := by
  refine D.has sc_law_number (fun vs H Q E h => ?_) (fun f cdv A outer s H vs Q E hr h => ?_)
  · obtain ⟨d, c, n, rfl, _⟩ := h
    rfl
  obtain ⟨d, c, n, rfl, D1, hn, k⟩ := h
  refine ⟨_, (pss_cons (ps_par (i := 1) (j := 2) (by rfl) sc_law_number.nd rfl rfl (by decide) rfl rfl (pa_cons (pe_f G_law_draw (hr.mono (by omega)) (by rfl) pass0 (pa_cons (pv 0) (pa_cons pe_int pa_nil))) (pa_cons (pe_f G_law_one (hr.mono (by omega)) (by rfl) pass0 (pa_cons (pv 0) (pa_cons (pe_lst (pa_cons pe_int (pa_cons (pe_un un_neg pe_int) pa_nil))) pa_nil))) pa_nil)) (by rfl))
      (pss_cons (ps_if (pt_cmpR op_lt (pv 1) pe_int (nomark _)) (pss_one (ps_ret (pe_op op_mul (pv 2) (pe_f G_law_draw (hr.mono (by omega)) (by rfl) pass0 (pa_cons (pv 0) (pa_cons pe_int pa_nil))))))
        pss_nil)
      (pss_one (ps_ret (pe_op op_mul (pv 2) (pe_op op_add (pe_op op_mul (pe_op op_pow pe_int pe_int) (pe_f G_law_draw (hr.mono (by omega)) (by rfl) pass0 (pa_cons (pv 0) (pa_cons (pe_op op_pow pe_int pe_int) pa_nil)))) (pe_f G_law_draw (hr.mono (by omega)) (by rfl) pass0 (pa_cons (pv 0) (pa_cons (pe_op op_pow pe_int pe_int) pa_nil))))))))), ?_⟩
  walk_at "rd"
  refine spDraw.use D1 (by omega) (by omega) (by omega) fun H2 u u0 u1 D2 k2 => ?_
  walk_at "rd"
  refine ⟨by decide, fun p hp => ?_⟩
  have k3 : Kp [] H2 (upd H2 p (.lst [.int 1, .int (-1)])) := Kp.nil.new hp
  have D3 := D2.kp k3 (by simp) (by simp)
  have k23 : Kp [d, c] H (upd H2 p (.lst [.int 1, .int (-1)])) := k2.new hp
  have f3 := D2.fresh hp
  have h3 : upd H2 p (.lst [.int 1, .int (-1)]) p = some (.lst [.int 1, .int (-1)]) := upd_same
  generalize upd H2 p (.lst [.int 1, .int (-1)]) = H3 at k3 D3 h3 k23 ⊢
  walk_at "rd"
  refine spOne.list D3 (by omega) (SqL.of h3) f3.1 f3.2 (by decide) (by decide) fun H4 j x4 hx4 D4 k4 => ?_
  obtain ⟨sg, rfl, hsg⟩ : ∃ sg : Int, x4 = .int sg ∧ (sg = 1 ∨ sg = -1) := by
    match j, hx4 with
    | 0, h => cases h; exact ⟨1, rfl, .inl rfl⟩
    | 1, h => cases h; exact ⟨-1, rfl, .inr rfl⟩
    | j + 2, h => simp at h
  have n4 := D4.n0
  have k14 : Kp [d, c] H H4 := k23.trans k4
  walk_at "rd"
  have fin : ∀ (H' : Hp) (i n' : Int), Deck H' d c n' → n ≤ n' → n' ≤ n + 10 → Kp [d, c] H H' → i.natAbs < 2 ^ 199 → Q (.int (sg * i)) H' := fun H' i n' q1 q2 q3 q4 q5 => k _ _ n' q1 q2 q3 q4 (by
    rcases hsg with rfl | rfl
    · rw [Int.one_mul]; omega
    · rw [Int.neg_one_mul, Int.natAbs_neg]; omega)
  refine ifd (fun _ => ?_) (fun _ => ?_)
  · walk_at "rd"
    refine spDraw.use D4 (by omega) (by omega) (by omega) fun H5 u5 u50 u51 D5 k5 => ?_
    walk_at "rd"
    · exact fin _ _ _ D5 (by omega) (by omega) (k14.trans k5) (by omega)
    · right
      omega
  · walk_at "rd"
    rotate_left
    · exact c_pow (by decide) (by decide) (by decide)
    · exact c_pow (by decide) (by decide) (by decide)
    rw [show (10 : Int) ^ Int.toNat 9 = 1000000000 from rfl]
    refine spDraw.use D4 (by omega) (by omega) (by omega) fun H5 u5 u50 u51 D5 k5 => ?_
    walk_at "rd"
    rotate_left
    · exact c_pow (by decide) (by decide) (by decide)
    · right
      omega
    rw [show (10 : Int) ^ Int.toNat 9 = 1000000000 from rfl]
    refine spDraw.use D5 (by omega) (by omega) (by omega) fun H6 u6 u60 u61 D6 k6 => ?_
    walk_at "rd"
    · rw [show (10 : Int) ^ Int.toNat 50 = 100000000000000000000000000000000000000000000000000 from by decide +kernel]
      exact fin _ _ _ D6 (by omega) (by omega) ((k14.trans k5).trans k6) (by omega)
    · left
      omega
abbrev s_law_readings : Stmt := topS 28
abbrev N_law_readings : List Str := ["_law_deck_here", "_law_many", "_law_found", "_law_k"]
abbrev P_law_readings : List Str := ["_law_deck_here"]
theorem sc_law_readings : FnScope N_law_readings P_law_readings (defScope s_law_readings) :=
  ⟨rfl, rfl, rfl, by decide +kernel, rfl, by decide +kernel, by decide +kernel⟩
theorem ok__law_readings (D : Df K mg "_law_readings" s_law_readings P_law_readings) (B : Blt mg) (G_law_draw : Has P w K mg base CX0 "_law_draw" ["_law_deck_here", "_law_many"] 1 spDraw)
    (G_law_one : Has P w K mg base CX0 "_law_one" ["_law_deck_here", "_law_items"] 2 (spOne K)) : Has P w K mg base CX0 "_law_readings" P_law_readings 3 (spRdsS K) := by
  refine D.has sc_law_readings (fun vs H Q E h => ?_) (fun f cdv A outer s H vs Q E hr h => ?_)
  · obtain ⟨d, c, n, rfl, _⟩ := h
    rfl
  obtain ⟨d, c, n, rfl, D1, hn, k⟩ := h
  refine ⟨_, (pss_cons (ps_set (i := 1) sc_law_readings.nd rfl (Or.inl rfl) (pe_f G_law_one (hr.mono (by omega)) (by rfl) pass0 (pa_cons (pv 0) (pa_cons (pe_lst (pa_cons pe_int (pa_cons pe_int (pa_cons pe_int (pa_cons pe_int (pa_cons pe_int pa_nil)))))) pa_nil))))
      (pss_cons (ps_set (i := 2) sc_law_readings.nd rfl (Or.inl rfl) (pe_lst pa_nil))
      (pss_cons (ps_for PassesOwn.never rfl (pi_range1 (by rfl) B.range (pa_cons (pv 1) pa_nil)) (pg_name (i := 3) sc_law_readings.nd rfl (Or.inl rfl))
        (pss_one (ps_expr (pe_bm PySem.F.plainAttrs_list PySem.F.slot_list_append PySem.F.type_list_append mt_append (pv 2) (pa_cons (pe_f G_law_one (hr.mono (by omega)) (by rfl) pass0 (pa_cons (pv 0) (pa_cons (pe_lst (pa_cons pe_int (pa_cons pe_int (pa_cons (pe_un un_neg pe_int) (pa_cons (pe_op op_sub (pe_f G_law_draw (hr.mono (by omega)) (by rfl) pass0 (pa_cons (pv 0) (pa_cons pe_int pa_nil))) pe_int) (pa_cons (pe_op op_pow pe_int pe_int) pa_nil)))))) pa_nil))) pa_nil)))))
      (pss_one (ps_ret (pe_callTy c_tup (by rfl) B.tuple (by decide +kernel) (pa_cons (pv 2) pa_nil))))))), ?_⟩
  walk_at "rd"
  refine ⟨by decide, fun p hp => ?_⟩
  have k3 : Kp [d, c] H (upd H p (.lst [.int 0, .int 3, .int 9, .int 20, .int 40])) := (Kp.refl D1.ls).new hp
  have D3 := D1.kp (Kp.nil.new (o := .lst [.int 0, .int 3, .int 9, .int 20, .int 40]) hp) (by simp) (by simp)
  have f3 := D1.fresh hp
  have h3 : upd H p (.lst [.int 0, .int 3, .int 9, .int 20, .int 40]) p = some (.lst [.int 0, .int 3, .int 9, .int 20, .int 40]) := upd_same
  generalize upd H p (.lst [.int 0, .int 3, .int 9, .int 20, .int 40]) = H3 at k3 D3 h3 ⊢
  walk_at "rd"
  refine spOne.list D3 (by omega) (SqL.of h3) f3.1 f3.2 (by decide) (by decide) fun H4 j x4 hx4 D4 k4 => ?_
  obtain ⟨mn, rfl, hm0, hm1⟩ : ∃ mn : Int, x4 = .int mn ∧ 0 ≤ mn ∧ mn ≤ 40 := by
    match j, hx4 with
    | 0, h => cases h; exact ⟨0, rfl, by omega, by omega⟩
    | 1, h => cases h; exact ⟨3, rfl, by omega, by omega⟩
    | 2, h => cases h; exact ⟨9, rfl, by omega, by omega⟩
    | 3, h => cases h; exact ⟨20, rfl, by omega, by omega⟩
    | 4, h => cases h; exact ⟨40, rfl, by omega, by omega⟩
    | j + 5, h => simp at h
  have n4 := D4.n0
  have k14 : Kp [d, c] H H4 := k3.trans k4
  walk_at "rd"
  refine ⟨by decide, fun q hq => ?_⟩
  have fq := D4.fresh hq
  have k5 : Kp [d, c] H (upd H4 q (.lst [])) := k14.new hq
  have D5 := D4.kp (Kp.nil.new (o := .lst []) hq) (by simp) (by simp)
  have hq5 : upd H4 q (.lst []) q = some (.lst []) := upd_same
  have hq0 : H q = none := k14.free D4.ls hq
  generalize upd H4 q (.lst []) = H5 at k5 D5 hq5 ⊢
  walk_at "rd"
  refine r_ForR (fun i σ H' => ∃ (n' : Int) (x : Option V) (rs : List Int), σ = [some (.ref d), some (.int mn), some (.ref q), x] ∧ Deck H' d c n' ∧ n' ≤ n + 1 + 2 * i ∧ n ≤ n' ∧ Kp [d, c] H H' ∧ H' q = some (.lst (rs.map V.int)) ∧ (∀ r ∈ rs, r.natAbs < 2 ^ 599) ∧ rs.length = i) (by omega) (by omega)
    ⟨_, none, [], rfl, D5, by omega, by omega, k5, hq5, (fun r hr => nomatch hr), rfl⟩ ?_ ?_
  · rintro i σ H6 hi ⟨n6, x, rs, rfl, D6, m1, m2, k6, hq6, hr6, hl6⟩
    walk_at "rd"
    refine spDraw.use D6 (by omega) (by omega) (by omega) fun H7 u u0 u1 D7 k7 => ?_
    have hq7 := k7.get hq6 (by simp [fq.1, fq.2])
    walk_at "rd"
    rotate_left
    · exact c_pow (by decide) (by decide) (by decide)
    refine ⟨by simp [sizeLine_eq], fun p8 hp8 => ?_⟩
    have h20 : (10 : Int) ^ Int.toNat 20 = 100000000000000000000 := by decide +kernel
    rw [h20]
    have k8 : Kp [] H7 (upd H7 p8 (.lst [.int 0, .int 1, .int (-1), .int (u - 49), .int 100000000000000000000])) := Kp.nil.new hp8
    have D8 := D7.kp k8 (by simp) (by simp)
    have f8 := D7.fresh hp8
    have h8 : upd H7 p8 (.lst [.int 0, .int 1, .int (-1), .int (u - 49), .int 100000000000000000000]) p8 = some (.lst [.int 0, .int 1, .int (-1), .int (u - 49), .int 100000000000000000000]) := upd_same
    have k68 : Kp [d, c] H (upd H7 p8 (.lst [.int 0, .int 1, .int (-1), .int (u - 49), .int 100000000000000000000])) := (k6.trans k7).new hp8
    have hq8 := k8.get hq7 (by simp)
    generalize upd H7 p8 (.lst [.int 0, .int 1, .int (-1), .int (u - 49), .int 100000000000000000000]) = H8 at k8 D8 h8 k68 hq8 ⊢
    walk_at "rd"
    refine spOne.list D8 (by omega) (SqL.of h8) f8.1 f8.2 (by simp) (by simp) fun H9 j x9 hx9 D9 k9 => ?_
    obtain ⟨r, rfl, hr0⟩ : ∃ r : Int, x9 = .int r ∧ r.natAbs < 2 ^ 599 := by
      have big : ∀ z : Int, z.natAbs < 2 ^ 70 → z.natAbs < 2 ^ 599 := fun z h => Nat.lt_of_lt_of_le h (two_le (by decide))
      match j, hx9 with
      | 0, h => cases h; exact ⟨_, rfl, big _ (by omega)⟩
      | 1, h => cases h; exact ⟨_, rfl, big _ (by omega)⟩
      | 2, h => cases h; exact ⟨_, rfl, big _ (by omega)⟩
      | 3, h => cases h; exact ⟨_, rfl, big _ (by omega)⟩
      | 4, h => cases h; exact ⟨_, rfl, big _ (by omega)⟩
      | j + 5, h => simp at h
    have hq9 := k9.get hq8 (by simp [fq.1, fq.2])
    walk_at "rd"
    · refine ⟨_, _, rs ++ [r], rfl, D9.kp (kpW hq9) (by simp [Ne.symm fq.1]) (by simp [Ne.symm fq.2]), by omega, by omega, (k68.trans k9).own hq0, by rw [upd_same, List.map_append]; rfl, ?_, by rw [List.length_append, hl6]; rfl⟩
      intro z hz
      rcases List.mem_append.mp hz with m | m
      · exact hr6 z m
      · rw [List.mem_singleton.mp m]
        exact hr0
    · rw [List.length_map, sizeLine_eq]
      omega
  · rintro σ H6 ⟨n6, x, rs, rfl, D6, m1, m2, k6, hq6, hr6, hl6⟩
    walk_at "rd"
    refine r_tupL (SqL.of hq6) fun t ht => ?_
    have kt : Kp [] H6 (upd H6 t (.tup (rs.map V.int))) := Kp.nil.new ht
    exact k _ t rs n6 (D6.kp kt (by simp) (by simp)) m2 (by omega) (k6.new ht) (SqT.of upd_same) hr6 (by omega)
abbrev s_law_by_sums : Stmt := topS 29
abbrev N_law_by_sums : List Str := ["_law_told", "_law_readings_here", "_law_found", "_law_item", "_law_many", "_law_reading"]
abbrev P_law_by_sums : List Str := ["_law_told", "_law_readings_here"]
theorem sc_law_by_sums : FnScope N_law_by_sums P_law_by_sums (defScope s_law_by_sums) :=
  ⟨rfl, rfl, rfl, by decide +kernel, rfl, by decide +kernel, by decide +kernel⟩
theorem ok__law_by_sums (D : Df K mg "_law_by_sums" s_law_by_sums P_law_by_sums) (B : Blt mg) : Has P w K mg base CX0 "_law_by_sums" P_law_by_sums 1 (spBySum K) := by
  refine D.has sc_law_by_sums (fun vs H Q E h => ?_) (fun f cdv A outer s H vs Q E hr h => ?_)
  · obtain ⟨v, b, n, rs, bl, rfl, _⟩ := h
    rfl
  obtain ⟨v, b, n, rs, bl, rfl, hd, hv, hn, hw, hb, br, hrl, k⟩ := h
  have hok : (runR [] n bl).2.ok (200 + 12 * Sm.wts bl) (1 + Sm.wts bl) := Sm.goL_ok [] 4 bl 0 (st0 n) 200 1 hv (st0_ok hn) (by omega)
  unfold smD at hd
  unfold rnD at k
  generalize runR [] n bl = R at k hok hd
  obtain ⟨wo, st⟩ := R
  dsimp only at k hok hd
  have hsl := hok.sl
  obtain ⟨a0, v0, v1, v2, rfl, hT, d0, d1, d2⟩ := Dt.is3 hd
  obtain ⟨a3, xs3, rfl, hT3, hL3⟩ := d0.items
  obtain rfl := d2.isInt
  have hl3 : xs3.length = st.said.length := by rw [hL3.len, List.length_map]
  refine ⟨_, (pss_cons (ps_set (i := 2) sc_law_by_sums.nd rfl (Or.inl rfl) (pe_lst pa_nil))
      (pss_cons (ps_for PassesOwn.never rfl (pi_tup (pe_ix ix_tup (pv 0) pe_int (fun _ _ => rfl))) (pg_name (i := 3) sc_law_by_sums.nd rfl (Or.inl rfl))
        (pss_cons (ps_if (pt_not (pt_val (pe_callB c_is2 (by rfl) B.isinstance (by decide +kernel) (pa_cons (pv 3) (pa_cons (pe_ty (T := "str") (by rfl) B.str (by decide +kernel)) pa_nil))))) (pss_one (ps_set (i := 3) sc_law_by_sums.nd rfl (Or.inl rfl) (pe_op op_add (pe_ix ix_tup (pv 3) pe_int (fun _ _ => rfl)) (pe_callB (cr_sum (by rfl)) (by rfl) B.sum (by decide +kernel) (pa_cons (pe_lc (own := [("_law_many", 4), ("_law_reading", 5)]) (g := gTup K 2 (gCons (gName 4) (gCons (gName 5) (gNil)))) (by rfl) sc_law_by_sums.nd (RZ.pi_zipA (by rfl) B.zip (pa_cons (pe_ix ix_tup (pv 3) pe_int (fun _ _ => rfl)) (pa_cons (pv 1) pa_nil))) (blkOk_by (own := [("_law_many", 4), ("_law_reading", 5)]) (N := N_law_by_sums) (sc := defScope s_law_by_sums) (by decide +kernel)) (fun _ _ _ _ _ => (pg_tupK (K := K) rfl rfl (pgs_cons (pg_name (i := 4) sc_law_by_sums.nd rfl (Or.inl rfl)) (pgs_cons (pg_name (i := 5) sc_law_by_sums.nd rfl (Or.inl rfl)) pgs_nil)))) (fun _ _ _ _ _ => pts_nil) (fun _ _ _ _ _ => (pe_op op_mulW (pv 4) (pv 5)))) pa_nil)))))
        pss_nil)
      (pss_one (ps_expr (pe_bm PySem.F.plainAttrs_list PySem.F.slot_list_append PySem.F.type_list_append mt_append (pv 2) (pa_cons (pv 3) pa_nil))))))
      (pss_one (ps_ret (pe_tup (pa_cons (pe_callTy c_tup (by rfl) B.tuple (by decide +kernel) (pa_cons (pv 2) pa_nil)) (pa_cons (pe_ix ix_tup (pv 0) pe_int (fun _ _ => rfl)) (pa_cons (pe_ix ix_tup (pv 0) pe_int (fun _ _ => rfl)) pa_nil)))))))), ?_⟩
  walk_at "rd"
  refine ⟨by decide, fun q hq => ?_⟩
  have kq : Kp [] H (upd H q (.lst [])) := Kp.nil.new hq
  have hq0 : upd H q (.lst []) q = some (.lst []) := upd_same
  generalize upd H q (.lst []) = Hq at kq hq0 ⊢
  have hTq := sqT_kp kq hT
  walk_at "rd"
  refine r_ForT (sqT_kp kq hT3) (fun i σ H' => ∃ (us : List V) (x3 : Option V), σ = [some (.ref a0), some (.ref b), some (.ref q), x3, none, none] ∧ Kp [] H H' ∧ H' q = some (.lst us) ∧ DtL K H' us ((st.said.take i).map (toD rs st.made.length)))
    ⟨[], none, rfl, kq, hq0, DtL.nil⟩ (fun i σ H' ⟨_, _, _, q1, _⟩ => sqT_kp q1 hT3) ?_ ?_
  · rintro i u σ H3 hu ⟨us, x3, rfl, k3, hq3, hL⟩
    obtain ⟨du, hdu, hud⟩ := hL3.get hu
    rw [List.getElem?_map] at hdu
    obtain ⟨t, ht, rfl⟩ := Option.map_eq_some_iff.mp hdu
    have hud3 := hud.kp k3
    have hi : i < st.said.length := (List.getElem?_eq_some_iff.mp ht).1
    have hvl : us.length = i := by rw [hL.len, List.length_map, List.length_take]; omega
    have htk : (st.said.take (i + 1)).map (toD rs st.made.length) = (st.said.take i).map (toD rs st.made.length) ++ [toD rs st.made.length t] := by rw [List.take_add_one, ht, List.map_append]; rfl
    cases t with
    | inl wx =>
      obtain rfl := Dt.isStr hud3
      have hw : Dw [] K H3 (.str wx) (.str wx) := .str wx
      walk_at "rd"
      · refine ⟨us ++ [.str wx], _, rfl, k3.own hq, upd_same, ?_⟩
        rw [htk]
        exact (hL.kp (kpW hq3)).snoc (.str _)
      · rw [hvl, sizeLine_eq]
        omega
    | inr sv =>
      have hs := hok.said sv (List.mem_of_getElem? ht)
      have hud4 : Dt K H3 u (.tuple [.int sv.n, .tuple ((mulI sv st.made.length).map PyData.int)]) := by rw [← mulI_D]; exact hud3
      obtain ⟨a1, w0, w1, rfl, hT1, e0, e1⟩ := Dt.is2 hud4
      obtain rfl := e0.isInt
      obtain ⟨a2, xs2, rfl, hT2, hL2⟩ := e1.items
      have hx2 : xs2 = (mulI sv st.made.length).map V.int := ints_of hL2
      subst hx2
      have hb3 := sqT_kp k3 hb
      walk_at "rd"
      refine r_is2tF hT1 ?_
      walk_at "rd"
      with_reducible refine r_lcZip ?_
      walk_at "rd"
      refine r_LcZipM hT2 hb3 fun p hp => ⟨fun l H' => Kp [] H3 H' ∧ H' p = some (.lst (((zipM (mulI sv st.made.length) rs).take l).map V.int)), ⟨Kp.nil.new hp, upd_same⟩, fun l H' ⟨z1, _⟩ => ⟨sqT_kp z1 hT2, sqT_kp z1 hb3⟩, ?_, ?_⟩
      · rintro l x y T H4 hx hy ⟨k4, hp4⟩ hTn
        rw [List.getElem?_map] at hx hy
        obtain ⟨m0, hm0, rfl⟩ := Option.map_eq_some_iff.mp hx
        obtain ⟨r0, hr0, rfl⟩ := Option.map_eq_some_iff.mp hy
        have k5 : Kp [] H4 (upd H4 T (.tup [.int m0, .int r0])) := Kp.nil.new hTn
        have hp5 := k5.get hp4 (by simp)
        have hT5 : SqT K (upd H4 T (.tup [.int m0, .int r0])) T [.int m0, .int r0] := SqT.of upd_same
        generalize upd H4 T (.tup [.int m0, .int r0]) = H5 at k5 hp5 hT5 ⊢
        have hzl : (zipM (mulI sv st.made.length) rs)[l]? = some (m0 * r0) := by
          unfold zipM
          rw [List.getElem?_zipWith, hm0, hr0]
        have hll : l < 40 := by
          have := (List.getElem?_eq_some_iff.mp hr0).1
          omega
        walk_at "rd"
        rotate_left
        · refine wide_mul (a := 560) (b := 600) ?_ (br r0 (List.mem_of_getElem? hr0)) (by decide) (by decide) (by decide)
          have hm := List.mem_of_getElem? hm0
          unfold mulI at hm
          obtain ⟨j, _, rfl⟩ := List.mem_map.mp hm
          exact Nat.lt_of_lt_of_le (hs.get _) (two_le (by omega))
        refine r_LcEnd hp5 (by rw [List.length_map, List.length_take, sizeLine_eq]; omega) ⟨(k4.trans k5).own hp, ?_⟩
        rw [upd_same, List.take_add_one, hzl, List.map_append]
        rfl
      · rintro H4 ⟨k4, hp4⟩
        have hzn : min ((mulI sv st.made.length).map V.int).length (rs.map V.int).length = (zipM (mulI sv st.made.length) rs).length := by
          unfold zipM
          rw [List.length_map, List.length_map, List.length_zipWith]
        rw [hzn, List.take_length] at hp4
        have hq4 := k4.get hq3 (by simp)
        walk_at "rd"
        refine ⟨p, zipM (mulI sv st.made.length) rs, rfl, SqL.of hp4, ?_⟩
        walk_at "rd"
        · rw [toldI_zip]
          refine ⟨us ++ [.int (toldI sv.n (mulI sv st.made.length) rs)], _, rfl, (k3.trans k4).own hq, upd_same, ?_⟩
          rw [htk]
          exact ((hL.kp k4).kp (kpW hq4)).snoc (.int _)
        · rw [hvl, sizeLine_eq]
          omega
  · rintro σ H3 ⟨us, x3, rfl, k3, hq3, hL⟩
    rw [hl3, List.take_length] at hL
    have hT0 := sqT_kp k3 hT
    walk_at "rd"
    refine r_tupL (SqL.of hq3) fun t ht => ?_
    have k4 : Kp [] H3 (upd H3 t (.tup us)) := Kp.nil.new ht
    have hD4 := (hL.kp k4).tup (upd_same (H := H3) (a := t))
    generalize upd H3 t (.tup us) = H4 at k4 hD4 ⊢
    have hT4 := sqT_kp k4 hT0
    walk_at "rd"
    refine ⟨by simp [sizeLine_eq], fun q5 hq5 => ?_⟩
    have k6 : Kp [] H4 (upd H4 q5 (.tup [.ref t, v1, .int (st.made.length : Nat)])) := Kp.nil.new hq5
    exact k _ _ (k3.trans (k4.trans k6)) ((DtL.cons (hD4.kp k6) (DtL.cons (d1.kp (k3.trans (k4.trans k6))) (DtL.cons (.int _) DtL.nil))).tup upd_same)
abbrev s_law_cut : Stmt := topS 30
abbrev N_law_cut : List Str := ["_law_readings_here", "_law_many"]
abbrev P_law_cut : List Str := ["_law_readings_here"]
theorem sc_law_cut : FnScope N_law_cut P_law_cut (defScope s_law_cut) :=
  ⟨rfl, rfl, rfl, by decide +kernel, rfl, by decide +kernel, by decide +kernel⟩
theorem ok__law_cut (D : Df K mg "_law_cut" s_law_cut P_law_cut) (B : Blt mg) : Has P w K mg base CX0 "_law_cut" P_law_cut 1 (spCut K) := by
  refine D.has sc_law_cut (fun vs H Q E h => ?_) (fun f cdv A outer s H vs Q E hr h => ?_)
  · obtain ⟨b, rs, rfl, _⟩ := h
    rfl
  obtain ⟨b, rs, rfl, hb, hrl, k⟩ := h
  refine ⟨_, (pss_cons (ps_set (i := 1) sc_law_cut.nd rfl (Or.inl rfl) (pe_callB c_len (by rfl) B.len (by decide +kernel) (pa_cons (pv 0) pa_nil)))
      (pss_cons (ps_while PassesOwn.never (PW.pt (pw_and (pt_cmpR op_gt (pv 1) pe_int (nomark _)) (pw_and1 (pt_cmpR op_eq (pe_ix ix_tup (pv 0) (pe_op op_sub (pv 1) pe_int) (fun _ _ => rfl)) pe_int (nomark _))))) (pss_one (ps_set (i := 1) sc_law_cut.nd rfl (Or.inl rfl) (pe_op op_sub (pv 1) pe_int))))
      (pss_one (ps_ret (pe_slice sl_tupA (pv 0) po_none (po_some (pv 1))))))), ?_⟩
  walk_at "rd"
  refine r_while (fun m σ H' => ∃ j : Nat, m = j ∧ σ = [some (.ref b), some (.int (j : Nat))] ∧ H' = H ∧ j ≤ rs.length ∧ ∀ i, j ≤ i → (rs[i]?).getD 0 = 0) rs.length ⟨rs.length, rfl, by rw [List.length_map]; rfl, rfl, Nat.le_refl _, fun i hi => getD_out hi⟩ ?_
  rintro m σ H' ⟨j, rfl, rfl, rfl, hj, h0⟩
  have fin : ∀ (H2 : Hp) (z : V), Kp [] H' H2 → Dt K H2 z (.tuple (cutD (rs.map PyData.int) none (some (m : Nat)))) → Q z H2 := by
    intro H2 z k2 hz
    rw [cutD_to _ _ (by rw [List.length_map]; exact hj), ← List.map_take] at hz
    obtain ⟨a, xs, rfl, hT, hL⟩ := hz.items
    rw [ints_of hL] at hT
    exact k H2 a m k2 hT h0
  have hbd : Dt K H' (.ref b) (.tuple (rs.map PyData.int)) := .tup hb (by simp) (DtL.ints rs).all
  walk_at "rd"
  refine ifd (fun c1 => ?_) (fun c1 => ?_)
  · obtain ⟨m, rfl⟩ : ∃ q, m = q + 1 := ⟨m - 1, by omega⟩
    have hlt : m < rs.length := by omega
    have hat : atI (rs.map V.int) (((m + 1 : Nat) : Int) - 1) = some (.int rs[m]) := by
      rw [show (((m + 1 : Nat) : Int) - 1) = (m : Nat) by omega]
      exact atI_nat (by rw [List.getElem?_map, List.getElem?_eq_getElem hlt]; rfl)
    walk_at "rd"
    rw [dec_int]
    refine ifd (fun c2 => ?_) (fun c2 => ?_)
    · refine r_turn ?_
      walk_at "rd"
      refine ⟨m, by omega, m, rfl, by rw [show (((m + 1 : Nat) : Int) - 1) = (m : Nat) by omega]; rfl, rfl, by omega, fun i hi => ?_⟩
      by_cases e : i = m
      · subst e
        rw [List.getElem?_eq_getElem hlt]
        exact c2
      · exact h0 i (by omega)
    · walk_at "rd"
      exact r_slD hbd fun H2 z k2 hz => fin H2 z k2 hz
  · walk_at "rd"
    exact r_slD hbd fun H2 z k2 hz => fin H2 z k2 hz
abbrev s_law_numbers : Stmt := topS 31
abbrev N_law_numbers : List Str := ["_law_told", "_law_item"]
abbrev P_law_numbers : List Str := ["_law_told"]
theorem sc_law_numbers : FnScope N_law_numbers P_law_numbers (defScope s_law_numbers) :=
  ⟨rfl, rfl, rfl, by decide +kernel, rfl, by decide +kernel, by decide +kernel⟩
theorem ok__law_numbers (D : Df K mg "_law_numbers" s_law_numbers P_law_numbers) (B : Blt mg) : Has P w K mg base CX0 "_law_numbers" P_law_numbers 1 (spNums K) := by
  refine D.has sc_law_numbers (fun vs H Q E h => ?_) (fun f cdv A outer s H vs Q E hr h => ?_)
  · obtain ⟨v, n, rs, bl, rfl, _⟩ := h
    rfl
  obtain ⟨v, n, rs, bl, rfl, hd, hv, hn, hw, k⟩ := h
  have hok : (runR [] n bl).2.ok (200 + 12 * Sm.wts bl) (1 + Sm.wts bl) := Sm.goL_ok [] 4 bl 0 (st0 n) 200 1 hv (st0_ok hn) (by omega)
  unfold rnD at hd
  unfold numsI at k
  generalize runR [] n bl = R at k hok hd
  obtain ⟨wo, st⟩ := R
  dsimp only at k hok hd
  have hsl := hok.sl
  obtain ⟨a0, v0, v1, v2, rfl, hT, d0, d1, d2⟩ := Dt.is3 hd
  obtain ⟨a3, xs3, rfl, hT3, hL3⟩ := d0.items
  obtain rfl := d2.isInt
  have hl3 : xs3.length = st.said.length := by rw [hL3.len, List.length_map]
  refine ⟨_, (pss_one (ps_ret (pe_lc (own := [("_law_item", 1)]) (g := gName 1) (by rfl) sc_law_numbers.nd (pi_tup (pe_ix ix_tup (pv 0) pe_int (fun _ _ => rfl))) (blkOk_by (own := [("_law_item", 1)]) (N := N_law_numbers) (sc := defScope s_law_numbers) (by decide +kernel)) (fun _ _ _ _ _ => (pg_name (i := 1) sc_law_numbers.nd rfl (Or.inl rfl))) (fun _ _ _ _ _ => (pts_one (pt_not (pt_val (pe_callB (c_is2K (K := K) rfl) (by rfl) B.isinstance (by decide +kernel) (pa_cons (pv 1) (pa_cons (pe_ty (T := "str") (by rfl) B.str (by decide +kernel)) pa_nil))))))) (fun _ _ _ _ _ => (pv 1))))), ?_⟩
  walk_at "rd"
  refine r_LcT hT3 fun q hq => ⟨fun i H' => Kp [] H H' ∧ H' q = some (.lst (((svsOf (st.said.take i)).map fun s => toldI s.n (mulI s st.made.length) rs).map V.int)), ⟨Kp.nil.new hq, upd_same⟩, fun i H' ⟨q1, _⟩ => sqT_kp q1 hT3, ?_, ?_⟩
  · rintro i u H3 hu ⟨k3, hq3⟩
    obtain ⟨du, hdu, hud⟩ := hL3.get hu
    rw [List.getElem?_map] at hdu
    obtain ⟨t, ht, rfl⟩ := Option.map_eq_some_iff.mp hdu
    have hud3 := hud.kp k3
    have hi : i < st.said.length := (List.getElem?_eq_some_iff.mp ht).1
    have htk : svsOf (st.said.take (i + 1)) = svsOf (st.said.take i) ++ svsOf [t] := by
      rw [List.take_add_one, ht]
      unfold svsOf
      rw [List.filterMap_append]
      rfl
    have hsl' : (svsOf (st.said.take i)).length ≤ i := by
      unfold svsOf
      refine Nat.le_trans (List.length_filterMap_le _ _) ?_
      rw [List.length_take]
      omega
    cases t with
    | inl wx =>
      obtain rfl := Dt.isStr hud3
      have hw : Dw [] K H3 (.str wx) (.str wx) := .str wx
      walk_at "rd"
      refine ⟨k3, ?_⟩
      rw [htk, hq3]
      show _ = some (HO.lst (List.map V.int (List.map _ (_ ++ []))))
      rw [List.append_nil]
    | inr sv =>
      obtain rfl := Dt.isInt (i := toldI sv.n (mulI sv st.made.length) rs) hud3
      have hw : Dw [] K H3 (.int (toldI sv.n (mulI sv st.made.length) rs)) (.int (toldI sv.n (mulI sv st.made.length) rs)) := .int _
      walk_at "rd"
      refine r_LcEnd hq3 (by rw [List.length_map, List.length_map, sizeLine_eq]; omega) ⟨k3.own hq, ?_⟩
      rw [upd_same, htk, List.map_append, List.map_append]
      rfl
  · rintro H3 ⟨k3, hq3⟩
    rw [hl3, List.take_length] at hq3
    exact k _ q k3 hq hq3
abbrev s_law_added : Stmt := topS 32
abbrev N_law_added : List Str := ["_law_program_here", "_law_number_here", "_law_one_here", "_law_other", "_law_both", "_law_k", "_law_rows", "_law_readings_here", "_law_first", "_law_second", "_law_third", "_law_none"]
abbrev P_law_added : List Str := ["_law_program_here", "_law_number_here", "_law_one_here", "_law_other"]
theorem sc_law_added : FnScope N_law_added P_law_added (defScope s_law_added) :=
  ⟨rfl, rfl, rfl, by decide +kernel, rfl, by decide +kernel, by decide +kernel⟩
theorem ok__law_added (D : Df K mg "_law_added" s_law_added P_law_added) (B : Blt mg) (Grun : Has P w K mg base CX0 "run" ["program", "number", "readings"] 20 (spRun K)) (G_law_numbers : Has P w K mg base CX0 "_law_numbers" ["_law_told"] 1 (spNums K)) :
    Has P w K mg base CX0 "_law_added" P_law_added 21 (spAddd K) := by
  refine D.has sc_law_added (fun vs H Q E h => ?_) (fun f cdv A outer s H vs Q E hr h => ?_)
  · obtain ⟨v, a, b, n, one, other, bl, rfl, _⟩ := h
    rfl
  obtain ⟨v, a, b, n, one, other, bl, rfl, hd, hv, hn, hw, hz, ha, hra, hla, hb, hrb, hlb, k⟩ := h
  have had : Dt K H (.ref a) (.tuple (one.map PyData.int)) := .tup ha (by simp) (DtL.ints one).all
  have hbd : Dt K H (.ref b) (.tuple (other.map PyData.int)) := .tup hb (by simp) (DtL.ints other).all
  refine ⟨_, (pss_cons (ps_set (i := 4) sc_law_added.nd rfl (Or.inl rfl) (pe_callTy c_tup (by rfl) B.tuple (by decide +kernel) (pa_cons (pe_lc (own := [("_law_k", 5)]) (g := gName 5) (by rfl) sc_law_added.nd (pi_range1 (by rfl) B.range (pa_cons (pe_callB (call_min2 rfl) (by rfl) B.min (by decide +kernel) (pa_cons (pe_callB c_len (by rfl) B.len (by decide +kernel) (pa_cons (pv 2) pa_nil)) (pa_cons (pe_callB c_len (by rfl) B.len (by decide +kernel) (pa_cons (pv 3) pa_nil)) pa_nil))) pa_nil)) (blkOk_by (own := [("_law_k", 5)]) (N := N_law_added) (sc := defScope s_law_added) (by decide +kernel)) (fun _ _ _ _ _ => (pg_name (i := 5) sc_law_added.nd rfl (Or.inl rfl))) (fun _ _ _ _ _ => pts_nil) (fun _ _ _ _ _ => (pe_op op_add (pe_ix (ix_tupK (K := K) rfl) (pv 2) (pv 5) (fun _ _ => rfl)) (pe_ix (ix_tupK (K := K) rfl) (pv 3) (pv 5) (fun _ _ => rfl))))) pa_nil)))
      (pss_cons (ps_set (i := 6) sc_law_added.nd rfl (Or.inl rfl) (pe_lst (pa_cons (pe_slice sl_tupA (pv 2) po_none (po_some (pe_callB c_len (by rfl) B.len (by decide +kernel) (pa_cons (pv 4) pa_nil)))) (pa_cons (pe_slice sl_tupA (pv 3) po_none (po_some (pe_callB c_len (by rfl) B.len (by decide +kernel) (pa_cons (pv 4) pa_nil)))) (pa_cons (pv 4) (pa_cons (pe_tup pa_nil) pa_nil))))))
      (pss_cons (ps_setLc (i := 6) (own := [("_law_readings_here", 7)]) (g := gName 7) (by rfl) sc_law_added.nd rfl rfl (sw_true rfl rfl rfl (by decide +kernel)) (pi_list (pv 6)) (blkOk_by (own := [("_law_readings_here", 7)]) (N := N_law_added) (sc := defScope s_law_added) (by decide +kernel)) (fun _ _ _ _ _ => (pg_name (i := 7) sc_law_added.nd rfl (Or.inl rfl))) (fun _ _ _ _ _ => pts_nil) (fun _ _ _ _ _ => (pe_f G_law_numbers (hr.mono (by omega)) (by rfl) pass0 (pa_cons (pe_f Grun (hr.mono (by omega)) (by rfl) pass0 (pa_cons (pv 0) (pa_cons (pv 1) (pa_cons (pv 7) pa_nil)))) pa_nil))))
      (pss_cons (ps_for PassesOwn.never rfl (pi_zip4 (by rfl) B.zip (pa_cons (pe_ix ix_list (pv 6) pe_int (fun _ _ => rfl)) (pa_cons (pe_ix ix_list (pv 6) pe_int (fun _ _ => rfl)) (pa_cons (pe_ix ix_list (pv 6) pe_int (fun _ _ => rfl)) (pa_cons (pe_ix ix_list (pv 6) pe_int (fun _ _ => rfl)) pa_nil))))) (pg_tup rfl (pgs_cons (pg_name (i := 8) sc_law_added.nd rfl (Or.inl rfl)) (pgs_cons (pg_name (i := 9) sc_law_added.nd rfl (Or.inl rfl)) (pgs_cons (pg_name (i := 10) sc_law_added.nd rfl (Or.inl rfl)) (pgs_cons (pg_name (i := 11) sc_law_added.nd rfl (Or.inl rfl)) pgs_nil)))))
        (pss_one (ps_if (pt_cmpR op_ne (pe_op op_add (pv 8) (pv 9)) (pe_op op_add (pv 10) (pv 11)) (nomark _)) (pss_one (ps_ret pe_bl))
        pss_nil)))
      (pss_one (ps_ret (pe_chain4 op_eq op_eq op_eq (pe_callB c_len (by rfl) B.len (by decide +kernel) (pa_cons (pe_ix ix_list (pv 6) pe_int (fun _ _ => rfl)) pa_nil)) (pe_callB c_len (by rfl) B.len (by decide +kernel) (pa_cons (pe_ix ix_list (pv 6) pe_int (fun _ _ => rfl)) pa_nil)) (pe_callB c_len (by rfl) B.len (by decide +kernel) (pa_cons (pe_ix ix_list (pv 6) pe_int (fun _ _ => rfl)) pa_nil)) (pe_callB c_len (by rfl) B.len (by decide +kernel) (pa_cons (pe_ix ix_list (pv 6) pe_int (fun _ _ => rfl)) pa_nil))))))))), ?_⟩
  walk_at "rd"
  have hmn : (if (((other.map V.int).length : Nat) : Int) < (((one.map V.int).length : Nat) : Int) then (((other.map V.int).length : Nat) : Int) else (((one.map V.int).length : Nat) : Int)) = ((min one.length other.length : Nat) : Int) := by
    rw [List.length_map, List.length_map]
    split <;> omega
  refine ⟨_, _, rfl, ?_⟩
  rw [hmn]
  have hBl : (List.zipWith (· + ·) one other).length = min one.length other.length := List.length_zipWith
  have hBb : ∀ r ∈ List.zipWith (· + ·) one other, r.natAbs < 2 ^ 600 := by
    intro r hr
    obtain ⟨i, hi, rfl⟩ := List.getElem_of_mem hr
    rw [List.getElem_zipWith]
    rw [hBl] at hi
    have h1 := hra one[i] (List.getElem_mem _)
    have h2 := hrb other[i] (List.getElem_mem _)
    have h3 : (2 : Nat) ^ 600 = 2 ^ 599 + 2 ^ 599 := by rw [Nat.pow_succ 2 599, Nat.mul_two]
    have h4 := Int.natAbs_add_le one[i] other[i]
    rw [h3]
    exact Nat.lt_of_le_of_lt h4 (Nat.add_lt_add h1 h2)
  have lift : ∀ x : Int, x.natAbs < 2 ^ 599 → x.natAbs < 2 ^ 600 := fun x h => Nat.lt_of_lt_of_le h (two_le (by decide))
  have h40 : min one.length other.length ≤ 40 := by omega
  walk_at "rd"
  refine r_LcR (by omega) (by omega) fun p hp => ⟨fun i H' => Kp [] H H' ∧ H' p = some (.lst (((List.zipWith (· + ·) one other).take i).map V.int)), ⟨Kp.nil.new hp, upd_same⟩, ?_, ?_⟩
  · rintro i H1 hi ⟨k1, hp1⟩
    have hi : i < min one.length other.length := by omega
    have i1 : i < one.length := by omega
    have i2 : i < other.length := by omega
    have ha1 := sqT_kp k1 ha
    have hb1 := sqT_kp k1 hb
    have at1 : atI (one.map V.int) (i : Int) = some (.int one[i]) := atI_nat (by rw [List.getElem?_map, List.getElem?_eq_getElem i1]; rfl)
    have at2 : atI (other.map V.int) (i : Int) = some (.int other[i]) := atI_nat (by rw [List.getElem?_map, List.getElem?_eq_getElem i2]; rfl)
    have hz : (List.zipWith (· + ·) one other)[i]? = some (one[i] + other[i]) := by rw [List.getElem?_zipWith, List.getElem?_eq_getElem i1, List.getElem?_eq_getElem i2]
    walk_at "rd"
    refine r_LcEnd hp1 (by rw [List.length_map, List.length_take, sizeLine_eq]; omega) ⟨k1.own hp, ?_⟩
    rw [upd_same, List.take_add_one, hz, List.map_append]
    rfl
  rintro H1 ⟨k1, hp1⟩
  rw [Int.toNat_natCast, List.take_of_length_le (Nat.le_of_eq hBl)] at hp1
  walk_at "rd"
  refine r_tupL (SqL.of hp1) fun t ht => ?_
  have k2 : Kp [] H (upd H1 t (.tup ((List.zipWith (· + ·) one other).map V.int))) := k1.new ht
  have ht2 : SqT K (upd H1 t (.tup ((List.zipWith (· + ·) one other).map V.int))) t ((List.zipWith (· + ·) one other).map V.int) := SqT.of upd_same
  generalize upd H1 t (.tup ((List.zipWith (· + ·) one other).map V.int)) = H2 at k2 ht2 ⊢
  have hln : ((List.zipWith (· + ·) one other).map V.int).length = min one.length other.length := by rw [List.length_map]; exact hBl
  walk_at "rd"
  refine r_slD (had.kp k2) fun H3 z3 k3 hz3 => ?_
  rw [hln, cutD_to _ _ (by rw [List.length_map]; omega), ← List.map_take] at hz3
  have ht3 := sqT_kp k3 ht2
  walk_at "rd"
  refine r_slD ((hbd.kp k2).kp k3) fun H4 z4 k4 hz4 => ?_
  rw [hln, cutD_to _ _ (by rw [List.length_map]; omega), ← List.map_take] at hz4
  have ht4 := sqT_kp k4 ht3
  walk_at "rd"
  refine ⟨by simp [sizeLine_eq], fun p5 hp5 => ?_⟩
  have k5 : Kp [] H4 (upd H4 p5 (.tup [])) := Kp.nil.new hp5
  have h5 : SqT K (upd H4 p5 (.tup [])) p5 (([] : List Int).map V.int) := SqT.of upd_same
  generalize upd H4 p5 (.tup []) = H5 at k5 h5 ⊢
  obtain ⟨c3, xs3, rfl, hT3, hL3⟩ := ((hz3.kp k4).kp k5).items
  obtain ⟨c4, xs4, rfl, hT4, hL4⟩ := (hz4.kp k5).items
  rw [ints_of hL3] at hT3
  rw [ints_of hL4] at hT4
  have ht5 := sqT_kp k5 ht4
  walk_at "rd"
  refine ⟨by simp [sizeLine_eq], fun p6 hp6 => ?_⟩
  have k6 : Kp [] H5 (upd H5 p6 (.lst [.ref c3, .ref c4, .ref t, .ref p5])) := Kp.nil.new hp6
  have h6 : upd H5 p6 (.lst [.ref c3, .ref c4, .ref t, .ref p5]) p6 = some (.lst [.ref c3, .ref c4, .ref t, .ref p5]) := upd_same
  have e3 := sqT_kp k6 hT3
  have e4 := sqT_kp k6 hT4
  have et := sqT_kp k6 ht5
  have e5 := sqT_kp k6 h5
  generalize upd H5 p6 (.lst [.ref c3, .ref c4, .ref t, .ref p5]) = H6 at k6 h6 e3 e4 et e5 ⊢
  have k06 : Kp [] H H6 := (k2.trans k3).trans (k4.trans (k5.trans k6))
  have hd6 := hd.kp k06
  have four : ∀ (i : Nat) (x : V), ([.ref c3, .ref c4, .ref t, .ref p5] : List V)[i]? = some x → ∃ (c : Addr) (rs : List Int), x = .ref c ∧ [one.take (min one.length other.length), other.take (min one.length other.length), List.zipWith (· + ·) one other, []][i]? = some rs ∧ SqT K H6 c (rs.map V.int) ∧ ∀ r ∈ rs, r.natAbs < 2 ^ 600 := by
    intro i x hx
    match i, hx with
    | 0, hx => cases hx; exact ⟨c3, _, rfl, rfl, e3, fun r hr => lift _ (hra r (List.mem_of_mem_take hr))⟩
    | 1, hx => cases hx; exact ⟨c4, _, rfl, rfl, e4, fun r hr => lift _ (hrb r (List.mem_of_mem_take hr))⟩
    | 2, hx => cases hx; exact ⟨t, _, rfl, rfl, et, hBb⟩
    | 3, hx => cases hx; exact ⟨p5, _, rfl, rfl, e5, fun r hr => nomatch hr⟩
    | j + 4, hx => simp at hx
  walk_at "rd"
  refine r_LcL (SqL.of h6) fun q hq => ⟨fun i H' => ∃ qs : List Addr, Kp [] H6 H' ∧ H' q = some (.lst (qs.map V.ref)) ∧ qs.length = i ∧ ∀ (j : Nat) (c : Addr) (rs : List Int), qs[j]? = some c → [one.take (min one.length other.length), other.take (min one.length other.length), List.zipWith (· + ·) one other, []][j]? = some rs → c ≠ q ∧ H' c = some (.lst ((numsI n bl rs).map V.int)),
    ⟨[], Kp.nil.new hq, upd_same, rfl, fun j c rs e => by simp at e⟩, fun i H' ⟨_, z1, _⟩ => SqL.of (z1.get h6 (by simp)), ?_, ?_⟩
  · rintro i x H7 hx ⟨qs, k7, hq7, hl7, hn7⟩
    obtain ⟨c, rs, rfl, hrs, hT, hbd'⟩ := four i x hx
    have hi4 : i < 4 := by
      have := (List.getElem?_eq_some_iff.mp hx).1
      simpa using this
    walk_at "rd"
    refine ⟨v, c, n, rs, bl, rfl, hd6.kp k7, hv, hn, hw, hz, sqT_kp k7 hT, hbd', fun H8 z8 k8 hz8 => ?_⟩
    walk_at "rd"
    refine ⟨z8, n, rs, bl, rfl, hz8, hv, hn, hw, fun H9 q9 k9 hn9 hq9 => ?_⟩
    have hq89 := (k8.trans k9).get hq7 (by simp)
    have nq : q9 ≠ q := fun z => by
      rw [z, k8.get hq7 (by simp)] at hn9
      cases hn9
    refine r_LcEnd hq89 (by rw [List.length_map, hl7, sizeLine_eq]; omega) ⟨qs ++ [q9], (k7.trans (k8.trans k9)).own hq, by rw [upd_same, List.map_append]; rfl, by rw [List.length_append, hl7]; rfl, fun j c' rs' ec er => ?_⟩
    by_cases hj : j < qs.length
    · rw [List.getElem?_append_left hj] at ec
      obtain ⟨y1, y2⟩ := hn7 j c' rs' ec er
      exact ⟨y1, by rw [upd_ne y1]; exact (k8.trans k9).get y2 (by simp)⟩
    · rw [List.getElem?_append_right (by omega)] at ec
      have hj0 : j - qs.length = 0 := by
        have := (List.getElem?_eq_some_iff.mp ec).1
        simp at this
        omega
      rw [hj0] at ec
      cases ec
      obtain rfl : j = i := by omega
      rw [hrs] at er
      cases er
      exact ⟨nq, by rw [upd_ne nq]; exact hq9⟩
  rintro H7 ⟨qs, k7, hq7, hl7, hn7⟩
  obtain ⟨q0, q1, q2, q3, rfl⟩ : ∃ q0 q1 q2 q3, qs = [q0, q1, q2, q3] := by
    match qs, hl7 with
    | [q0, q1, q2, q3], _ => exact ⟨q0, q1, q2, q3, rfl⟩
  have f0 := (hn7 0 q0 _ rfl rfl).2
  have f1 := (hn7 1 q1 _ rfl rfl).2
  have f2 := (hn7 2 q2 _ rfl rfl).2
  have f3 := (hn7 3 q3 _ rfl rfl).2
  have hq7 : H7 q = some (.lst [.ref q0, .ref q1, .ref q2, .ref q3]) := hq7
  have k07 := k06.trans k7
  clear hn7 four
  have hL : ∀ rs, ((numsI n bl rs).map V.int).length = (svsOf (runR [] n bl).2.said).length := fun rs => by rw [List.length_map, numsI_len]
  walk_at "rd"
  with_reducible refine r_zip4 ?_
  walk_at "rd"
  refine r_Zip4 (SqL.of f0) (SqL.of f1) (SqL.of f2) (SqL.of f3) (by rw [hL, hL]) (by rw [hL, hL]) (by rw [hL, hL])
    (fun i σ H' => ∃ y8 y9 y10 y11 : Option V, σ = [some v, some (.int n), some (.ref a), some (.ref b), some (.ref t), none, some (.ref q), none, y8, y9, y10, y11] ∧ Kp [] H7 H') ⟨_, _, _, _, rfl, Kp.nil⟩
    (fun i σ H' ⟨_, _, _, _, _, z⟩ => ⟨SqL.of (z.get f0 (by simp)), SqL.of (z.get f1 (by simp)), SqL.of (z.get f2 (by simp)), SqL.of (z.get f3 (by simp))⟩) ?_ ?_
  · rintro i x y z u T σ H8 hx hy hz hu ⟨y8, y9, y10, y11, rfl, k8⟩ hT
    rw [List.getElem?_map] at hx hy hz hu
    obtain ⟨x0, hx0, rfl⟩ := Option.map_eq_some_iff.mp hx
    obtain ⟨y0, hy0, rfl⟩ := Option.map_eq_some_iff.mp hy
    obtain ⟨z0, hz0, rfl⟩ := Option.map_eq_some_iff.mp hz
    obtain ⟨u0, hu0, rfl⟩ := Option.map_eq_some_iff.mp hu
    have hadd := numsI_add hx0 hy0 hz0 hu0
    have k9 : Kp [] H8 (upd H8 T (.tup [.int x0, .int y0, .int z0, .int u0])) := Kp.nil.new hT
    have hT9 : SqT K (upd H8 T (.tup [.int x0, .int y0, .int z0, .int u0])) T [.int x0, .int y0, .int z0, .int u0] := SqT.of upd_same
    generalize upd H8 T (.tup [.int x0, .int y0, .int z0, .int u0]) = H9 at k9 hT9 ⊢
    walk_at "rd"
    refine ifn (fun c => absurd (by rw [hadd]) c) (fun _ => ?_)
    walk_at "rd"
    exact ⟨_, _, _, _, rfl, k8.trans k9⟩
  · rintro σ H8 ⟨y8, y9, y10, y11, rfl, k8⟩
    have g0 := k8.get f0 (by simp)
    have g1 := k8.get f1 (by simp)
    have g2 := k8.get f2 (by simp)
    have g3 := k8.get f3 (by simp)
    have gq := k8.get hq7 (by simp)
    walk_at "rd"
    with_reducible refine r_chain4 ?_
    walk_at "rd"
    rw [hL, hL, dec_int]
    refine ifd (fun _ => ?_) (fun c => absurd rfl c)
    walk_at "rd"
    rw [hL, dec_int]
    refine ifd (fun _ => ?_) (fun c => absurd rfl c)
    walk_at "rd"
    rw [hL, dec_int, decide_eq_true rfl]
    exact k _ (k07.trans k8)
abbrev slaw : Stmt := topS 33
abbrev Nlaw : List Str := ["_law_script", "_law_deck_here", "_law_turn", "_law_program_here", "_law_k", "_law_number_here", "_law_readings_here", "_law_told", "_law_due", "_law_some", "_law_one_here"]
abbrev Plaw : List Str := ["_law_script"]
theorem sclaw : FnScope Nlaw Plaw (defScope slaw) :=
  ⟨rfl, rfl, rfl, by decide +kernel, rfl, by decide +kernel, by decide +kernel⟩
theorem ok_law (D : Df K mg "law" slaw Plaw) (B : Blt mg) (hM : ∃ mm, base.Ns sysModules mm)
    (G_law_deck : Has P w K mg base CX0 "_law_deck" ["_law_script"] 1 (spDeck K)) (G_law_names : Has P w K mg base CX0 "_law_names" ["_law_deck_here"] 3 spNmV)
    (G_law_program : Has P w K mg base CX0 "_law_program" ["_law_deck_here", "_law_names_here"] 16 (spPgV K)) (G_law_number : Has P w K mg base CX0 "_law_number" ["_law_deck_here"] 3 spNum) (G_law_readings : Has P w K mg base CX0 "_law_readings" ["_law_deck_here"] 3 (spRdsS K))
    (Grun : Has P w K mg base CX0 "run" ["program", "number", "readings"] 20 (spRun K)) (Gsums_of : Has P w K mg base CX0 "sums_of" ["program", "number"] 19 (spSums K))
    (G_law_by_sums : Has P w K mg base CX0 "_law_by_sums" ["_law_told", "_law_readings_here"] 1 (spBySum K)) (G_law_cut : Has P w K mg base CX0 "_law_cut" ["_law_readings_here"] 1 (spCut K)) (G_law_added : Has P w K mg base CX0 "_law_added" ["_law_program_here", "_law_number_here", "_law_one_here", "_law_other"] 21 (spAddd K)) :
    Has P w K mg base CX0 "law" Plaw 22 (spLaw K) := by
  refine D.has sclaw (fun vs H Q E h => ?_) (fun f cdv A outer s H vs Q E hr h => ?_)
  · obtain ⟨a, ns, rfl, _⟩ := h
    rfl
  obtain ⟨a, ns, rfl, hS, hl, k⟩ := h
  refine ⟨_, (pss_cons (ps_set (i := 1) sclaw.nd rfl (Or.inl rfl) (pe_f G_law_deck (hr.mono (by omega)) (by rfl) pass0 (pa_cons (pv 0) pa_nil)))
      (pss_cons (ps_for PassesOwn.never rfl (pi_range1 (by rfl) B.range (pa_cons pe_int pa_nil)) (pg_name (i := 2) sclaw.nd rfl (Or.inl rfl))
        (pss_cons (ps_set (i := 3) sclaw.nd rfl (Or.inr rfl) (pe_f G_law_program (hr.mono (by omega)) (by rfl) pass0 (pa_cons (pv 1) (pa_cons (pe_f G_law_names (hr.mono (by omega)) (by rfl) pass0 (pa_cons (pv 1) pa_nil)) pa_nil))))
      (pss_one (ps_for PassesOwn.never rfl (pi_range1 (by rfl) B.range (pa_cons pe_int pa_nil)) (pg_name (i := 4) sclaw.nd rfl (Or.inl rfl))
        (pss_cons (ps_asg (pe_tup (pa_cons (pe_f G_law_number (hr.mono (by omega)) (by rfl) pass0 (pa_cons (pv 1) pa_nil)) (pa_cons (pe_f G_law_readings (hr.mono (by omega)) (by rfl) pass0 (pa_cons (pv 1) pa_nil)) pa_nil))) (pg_tup rfl (pgs_cons (pg_name (i := 5) sclaw.nd rfl (Or.inr rfl)) (pgs_cons (pg_name (i := 6) sclaw.nd rfl (Or.inl rfl)) pgs_nil))))
      (pss_cons (ps_asg (pe_tup (pa_cons (pe_f Gsums_of (hr.mono (by omega)) (by rfl) pass0 (pa_cons (pv 3) (pa_cons (pv 5) pa_nil))) (pa_cons (pe_callB (c_repr3 hr hM) (by rfl) B.repr (by decide +kernel) (pa_cons (pe_f Grun (hr.mono (by omega)) (by rfl) pass0 (pa_cons (pv 3) (pa_cons (pv 5) (pa_cons (pv 6) pa_nil)))) pa_nil)) pa_nil))) (pg_tup rfl (pgs_cons (pg_name (i := 7) sclaw.nd rfl (Or.inl rfl)) (pgs_cons (pg_name (i := 8) sclaw.nd rfl (Or.inr rfl)) pgs_nil))))
      (pss_cons (ps_if (pt_cmpR op_ne (pe_callB (c_repr3 hr hM) (by rfl) B.repr (by decide +kernel) (pa_cons (pe_f G_law_by_sums (hr.mono (by omega)) (by rfl) pass0 (pa_cons (pv 7) (pa_cons (pv 6) pa_nil))) pa_nil)) (pv 8) (nomark _)) (pss_one (ps_ret pe_bl))
        pss_nil)
      (pss_cons (ps_set (i := 9) sclaw.nd rfl (Or.inl rfl) (pe_lst (pa_cons (pe_op op_catA (pv 6) (pe_tup (pa_cons pe_int (pa_cons pe_int pa_nil)))) (pa_cons (pe_f G_law_cut (hr.mono (by omega)) (by rfl) pass0 (pa_cons (pv 6) pa_nil)) pa_nil))))
      (pss_cons (ps_if (pt_cmpR op_ge (pe_callB c_len (by rfl) B.len (by decide +kernel) (pa_cons (pv 6) pa_nil)) (pe_ix ix_tup (pv 7) pe_int (fun _ _ => rfl)) (nomark _)) (pss_one (ps_set (i := 9) sclaw.nd rfl (Or.inl rfl) (pe_op op_cat (pv 9) (pe_lst (pa_cons (pe_op op_catA (pv 6) (pe_tup (pa_cons pe_int (pa_cons (pe_un un_neg pe_int) pa_nil)))) (pa_cons (pe_slice sl_tupA (pv 6) po_none (po_some (pe_ix ix_tup (pv 7) pe_int (fun _ _ => rfl)))) pa_nil))))))
        pss_nil)
      (pss_cons (ps_if (pt_cmpR (op_neNil hr.h64) (pe_lc (own := [("_law_one_here", 10)]) (g := gName 10) (by rfl) sclaw.nd (pi_list (pv 9)) (blkOk_by (own := [("_law_one_here", 10)]) (N := Nlaw) (sc := defScope slaw) (by decide +kernel)) (fun _ _ _ _ _ => (pg_name (i := 10) sclaw.nd rfl (Or.inl rfl))) (fun _ _ _ _ _ => (pts_one (pt_cmpR op_ne (pe_callB (c_repr3K rfl hr hM) (by rfl) B.repr (by decide +kernel) (pa_cons (pe_f Grun (hr.mono (by omega)) (by rfl) pass0 (pa_cons (pv 3) (pa_cons (pv 5) (pa_cons (pv 10) pa_nil)))) pa_nil)) (pv 8) (nomark _)))) (fun _ _ _ _ _ => (pv 10))) (pe_lst pa_nil) (nomark _)) (pss_one (ps_ret pe_bl))
        pss_nil)
      (pss_one (ps_if (pt_not (pt_val (pe_f G_law_added (hr.mono (by omega)) (by rfl) pass0 (pa_cons (pv 3) (pa_cons (pv 5) (pa_cons (pv 6) (pa_cons (pe_f G_law_readings (hr.mono (by omega)) (by rfl) pass0 (pa_cons (pv 1) pa_nil)) pa_nil))))))) (pss_one (ps_ret pe_bl))
        pss_nil))))))))))))
      (pss_one (ps_ret pe_bl)))), ?_⟩
  walk_at "rd"
  refine ⟨a, ns, rfl, hS, hl, fun H1 d c hd hc D1 k1 => ?_⟩
  walk_at "rd"
  refine r_ForR (fun i σ H' => ∃ (n' : Int) (x2 x3 x4 x5 x6 x7 x8 x9 : Option V), σ = [some (.ref a), some (.ref d), x2, x3, x4, x5, x6, x7, x8, x9, none] ∧ Deck H' d c n' ∧ n' ≤ 1 + 7000 * i) (by omega) (by omega) ⟨_, none, none, none, none, none, none, none, none, rfl, D1, by omega⟩ ?_ ?_
  · rintro i σ H2 hi ⟨n2, x2, x3, x4, x5, x6, x7, x8, x9, rfl, D2, hn2⟩
    have hi6 : i < 5 := hi
    clear D1 k1 hd hc
    walk_at "rd"
    refine ⟨d, c, _, rfl, D2, by omega, fun H3 nm xs n3 hnm D3 q1 q2 k3 N3 => ?_⟩
    have fnm : nm ≠ d ∧ nm ≠ c := D2.fresh hnm
    walk_at "rd"
    refine ⟨d, c, nm, n3, xs, rfl, D3, by omega, N3, fnm.1, fnm.2, fun H4 v4 x n4 D4 q3 q4 k4 hv4 ok4 => ?_⟩
    have hwt := pg_wts ok4
    have hsz := ok4.size
    have hxv : VdB 4 x := ok4.vd
    walk_at "rd"
    refine r_ForR (fun j σ H' => ∃ (n' : Int) (y4 y5 y6 y7 y8 y9 : Option V), σ = [some (.ref a), some (.ref d), some (.int i), some v4, y4, y5, y6, y7, y8, y9, none] ∧ Deck H' d c n' ∧ n' ≤ n4 + 300 * j ∧ Dt K H' v4 (.tuple (Sm.ds x))) (by omega) (by omega)
      ⟨n4, _, _, _, _, _, _, rfl, D4, by omega, hv4⟩ ?_ ?_
    · rintro j σ H6 hj ⟨n6, y4, y5, y6, y7, y8, y9, rfl, D6, hn6, hv6⟩
      have hj4 : j < 3 := hj
      walk_at "rd"
      refine ⟨d, c, n6, rfl, D6, by omega, fun H7 nr n7 D7 q7 q8 k7 hnr => ?_⟩
      walk_at "rd"
      refine ⟨d, c, n7, rfl, D7, by omega, fun H8 b rs n8 D8 q9 q10 k8 hb8 hrs hrl => ?_⟩
      have hv8 := (hv6.kp k7).kp k8
      have hrs6 : ∀ r ∈ rs, r.natAbs < 2 ^ 600 := fun r h => Nat.lt_of_lt_of_le (hrs r h) (two_le (by decide))
      have sh := rnD_shw (fix := []) (rs := rs) (n := nr) (bl := x) hxv hnr hwt hrs6 hrl
      walk_at "rd"
      refine ⟨by simp [sizeLine_eq], fun pa hpa => ?_⟩
      have kA : Kp [] H8 (upd H8 pa (.tup [.int nr, .ref b])) := Kp.nil.new hpa
      have hA : SqT K (upd H8 pa (.tup [.int nr, .ref b])) pa [.int nr, .ref b] := SqT.of upd_same
      generalize upd H8 pa (.tup [.int nr, .ref b]) = HA at kA hA ⊢
      have hvA := hv8.kp kA
      have hbA := sqT_kp kA hb8
      walk_at "rd"
      refine ⟨v4, nr, x, rfl, hvA, hxv, hnr, by omega, by omega, fun H9 z9 k9 hz9 => ?_⟩
      have hb9 := sqT_kp k9 hbA
      walk_at "rd"
      refine ⟨v4, b, nr, rs, x, rfl, hvA.kp k9, hxv, hnr, hwt, by omega, hb9, hrs6, fun Ha za ka hza => ?_⟩
      walk_at "rd"
      refine r_repr3 hza.dw sh.toD (by omega) (by omega) ?_
      walk_at "rd"
      refine ⟨by simp [sizeLine_eq], fun pb hpb => ?_⟩
      have kB : Kp [] Ha (upd Ha pb (.tup [z9, .str (rnD [] nr x rs).shown])) := Kp.nil.new hpb
      have hB : SqT K (upd Ha pb (.tup [z9, .str (rnD [] nr x rs).shown])) pb [z9, .str (rnD [] nr x rs).shown] := SqT.of upd_same
      generalize upd Ha pb (.tup [z9, .str (rnD [] nr x rs).shown]) = HB at kB hB ⊢
      have k9B := ka.trans kB
      have hbB := sqT_kp k9B hb9
      have hzB := hz9.kp k9B
      have hvB := (hvA.kp k9).kp k9B
      have k8B := (kA.trans k9).trans k9B
      walk_at "rd"
      refine ⟨z9, b, nr, rs, x, rfl, hzB, hxv, hnr, hwt, hbB, hrs6, hrl, fun Hb zb kb hzb => ?_⟩
      walk_at "rd"
      refine r_repr3 hzb.dw sh.toD (by omega) (by omega) ?_
      have hbd : Dt K Hb (.ref b) (.tuple (rs.map PyData.int)) := .tup (sqT_kp kb hbB) (by simp) (DtL.ints rs).all
      have z9b := hzB.kp kb
      unfold smD at z9b
      obtain ⟨a9, w0, w1, w2, rfl, hT9, _, _, d9⟩ := Dt.is3 z9b
      obtain rfl := d9.isInt
      have small : ∀ z : Int, z.natAbs < 2 ^ 10 → z.natAbs < 2 ^ 600 := fun z h => Nat.lt_of_lt_of_le h (two_le (by decide))
      walk_at "rd"
      refine ⟨by simp [sizeLine_eq], fun p1 hp1 => ?_⟩
      have e1 : Kp [] Hb (upd Hb p1 (.tup [.int 0, .int 0])) := Kp.nil.new hp1
      have u1 : Dt K (upd Hb p1 (.tup [.int 0, .int 0])) (.ref p1) (.tuple (([0, 0] : List Int).map PyData.int)) := Dt.mk2 upd_same (.int _) (.int _)
      generalize upd Hb p1 (.tup [.int 0, .int 0]) = Hc at e1 u1 ⊢
      refine r_catA (K := K) (hbd.kp e1) u1 (by rw [List.length_map]; simp; omega) fun Hd v1 e2 hv1 => ?_
      have g1 : Gd K nr x rs Hd v1 := Gd.app hv1 hrs6 (fun r hr => by simp at hr; subst hr; exact small 0 (by decide)) (.inl fun r hr => by simpa using hr)
      have hbD := sqT_kp ((kb.trans e1).trans e2) hbB
      walk_at "rd"
      refine ⟨b, rs, rfl, hbD, hrl, fun He v2 m e3 hv2 hm2 => ?_⟩
      have g2 : Gd K nr x rs He (.ref v2) := Gd.take (m := m) (.tup hv2 (by simp) (DtL.ints _).all) hrs6 (.inl hm2)
      have g12 := g1.kp e3
      walk_at "rd"
      refine ⟨by simp [sizeLine_eq], fun p3 hp3 => ?_⟩
      have e4 : Kp [] He (upd He p3 (.lst [v1, .ref v2])) := Kp.nil.new hp3
      have h4 : upd He p3 (.lst [v1, .ref v2]) p3 = some (.lst [v1, .ref v2]) := upd_same
      have g14 := g12.kp e4
      have g24 := g2.kp e4
      generalize upd He p3 (.lst [v1, .ref v2]) = Hf at e4 h4 g14 g24 ⊢
      have kbf : Kp [] Hb Hf := (e1.trans e2).trans (e3.trans e4)
      have hTf := sqT_kp kbf hT9
      have hbf := sqT_kp kbf (sqT_kp kb hbB)
      have hbdf := hbd.kp kbf
      walk_at "rds"
      with_reducible refine r_seqJ (fun σ H' => ∃ (p : Addr) (vs : List V), σ = [some (.ref a), some (.ref d), some (.int i), some v4, some (.int j), some (.int nr), some (.ref b), some (.ref a9), some (.str (rnD [] nr x rs).shown), some (.ref p), none] ∧ Kp [] Hf H' ∧ H' p = some (.lst vs) ∧ vs.length ≤ 4 ∧ ∀ v ∈ vs, Gd K nr x rs H' v) (fun nx' kx => ?_) ?_
      · walk_at "rd"
        rw [List.length_map]
        refine ifd (fun c1 => ?_) (fun c1 => ?_)
        · have hml : (runR [] nr x).2.made.length ≤ rs.length := by omega
          walk_at "rd"
          refine ⟨by simp [sizeLine_eq], fun p5 hp5 => ?_⟩
          have e5 : Kp [] Hf (upd Hf p5 (.tup [.int 5, .int (-7)])) := Kp.nil.new hp5
          have u5 : Dt K (upd Hf p5 (.tup [.int 5, .int (-7)])) (.ref p5) (.tuple (([5, -7] : List Int).map PyData.int)) := Dt.mk2 upd_same (.int _) (.int _)
          generalize upd Hf p5 (.tup [.int 5, .int (-7)]) = Hg at e5 u5 ⊢
          refine r_catA (K := K) (hbdf.kp e5) u5 (by rw [List.length_map]; simp; omega) fun Hh v6 e6 hv6' => ?_
          have g6 : Gd K nr x rs Hh v6 := Gd.app hv6' hrs6 (fun r hr => by
            simp at hr
            rcases hr with rfl | rfl
            · exact small 5 (by decide)
            · exact small (-7) (by decide)) (.inr hml)
          have hTh := sqT_kp (e5.trans e6) hTf
          walk_at "rd"
          refine r_slD ((hbdf.kp e5).kp e6) fun Hi v7 e7 hv7 => ?_
          rw [cutD_to _ _ (by rw [List.length_map]; exact hml), ← List.map_take] at hv7
          have g7 : Gd K nr x rs Hi v7 := Gd.take hv7 hrs6 (.inr (Nat.le_refl _))
          have g67 := g6.kp e7
          walk_at "rd"
          refine ⟨by simp [sizeLine_eq], fun p8 hp8 => ?_⟩
          have e8 : Kp [] Hi (upd Hi p8 (.lst [v6, v7])) := Kp.nil.new hp8
          have h8 : upd Hi p8 (.lst [v6, v7]) p8 = some (.lst [v6, v7]) := upd_same
          have g68 := g67.kp e8
          have g78 := g7.kp e8
          generalize upd Hi p8 (.lst [v6, v7]) = Hj at e8 h8 g68 g78 ⊢
          have kfj := (e5.trans e6).trans (e7.trans e8)
          refine r_cat (kfj.get h4 (by simp)) h8 (by simp [sizeLine_eq]) fun pc hpc => ?_
          have ec : Kp [] Hj (upd Hj pc (.lst ([v1, .ref v2] ++ [v6, v7]))) := Kp.nil.new hpc
          walk_at "rd"
          refine kx _ _ ⟨pc, [v1, .ref v2, v6, v7], rfl, kfj.trans ec, upd_same, by simp, fun v hv => ?_⟩
          simp only [List.mem_cons, List.not_mem_nil, or_false] at hv
          rcases hv with rfl | rfl | rfl | rfl
          · exact (g14.kp kfj).kp ec
          · exact (g24.kp kfj).kp ec
          · exact g68.kp ec
          · exact g78.kp ec
        · walk_at "rd"
          refine kx _ _ ⟨p3, [v1, .ref v2], rfl, Kp.nil, h4, by simp, fun v hv => ?_⟩
          simp only [List.mem_cons, List.not_mem_nil, or_false] at hv
          rcases hv with rfl | rfl
          · exact g14
          · exact g24
      rintro σ Hk ⟨pk, vs, rfl, kfk, hpk, hvl, hgd⟩
      have kBk := (kb.trans kbf).trans kfk
      have hvk := hvB.kp kBk
      have hbk := sqT_kp kBk hbB
      walk_at "rd"
      refine r_LcL (SqL.of hpk) fun q hq => ⟨fun l H' => Kp [] Hk H' ∧ H' q = some (.lst []), ⟨Kp.nil.new hq, upd_same⟩, fun l H' ⟨z1, _⟩ => SqL.of (z1.get hpk (by simp)), ?_, ?_⟩
      · rintro l u Hl hu ⟨kl, hql⟩
        obtain ⟨rs', hd', hb', he'⟩ := (hgd u (List.mem_of_getElem? hu)).kp kl
        obtain ⟨c', xs', rfl, hT', hL'⟩ := hd'.items
        rw [ints_of hL'] at hT'
        walk_at "rd"
        refine ⟨v4, c', nr, rs', x, rfl, hvk.kp kl, hxv, hnr, hwt, by omega, hT', hb', fun Hm zm km hzm => ?_⟩
        rw [he'] at hzm
        walk_at "rd"
        refine r_repr3 hzm.dw sh.toD (by omega) (by omega) ?_
        walk_at "rd"
        exact ⟨kl.trans km, km.get hql (by simp)⟩
      · rintro Hl ⟨kl, hql⟩
        walk_at "rd"
        refine ⟨by decide, fun pn hpn => ?_⟩
        have en : Kp [] Hl (upd Hl pn (.lst [])) := Kp.nil.new hpn
        have hn' : upd Hl pn (.lst []) pn = some (.lst []) := upd_same
        have hql' := en.get hql (by simp)
        generalize upd Hl pn (.lst []) = Hn at en hn' hql' ⊢
        have kkn := kl.trans en
        have hvn := hvk.kp kkn
        have hbn := sqT_kp kkn hbk
        have Dn := D8.kp ((k8B.trans kBk).trans kkn) (by simp) (by simp)
        walk_at "rd"
        refine ite2 (fun c1 => absurd c1 (by decide)) (fun _ => ?_)
        walk_at "rd"
        refine ⟨d, c, n8, rfl, Dn, by omega, fun Ho b2 rs2 no Do q11 q12 ko hb2 hrs2 hrl2 => ?_⟩
        walk_at "rd"
        refine ⟨v4, b, b2, nr, rs, rs2, x, rfl, hvn.kp ko, hxv, hnr, hwt, by omega, sqT_kp ko hbn, hrs, hrl, hb2, hrs2, hrl2, fun Hp_ kp => ?_⟩
        walk_at "rd"
        exact ⟨no, _, _, _, _, _, _, rfl, Do.kp kp (by simp) (by simp), by omega, (hvn.kp ko).kp kp⟩
    · rintro σ H6 ⟨n6, y4, y5, y6, y7, y8, y9, rfl, D6, hn6, hv6⟩
      have hn6 : n6 ≤ n4 + 900 := hn6
      walk_at "rd"
      exact ⟨_, _, _, _, _, _, _, _, _, rfl, D6, by omega⟩
  · rintro σ H3 ⟨n3, x2, x3, x4, x5, x6, x7, x8, x9, rfl, D3, hn3⟩
    walk_at "rd"
    exact k _
/-- the maker of programs within all bounds -/
theorem g2_program (Ddr : Df K mg "_law_draw" s_law_draw P_law_draw) (Don : Df K mg "_law_one" s_law_one P_law_one) (Dex : Df K mg "_law_expression" s_law_expression P_law_expression) (Dte : Df K mg "_law_test" s_law_test P_law_test)
    (Dpl : Df K mg "_law_plain" s_law_plain P_law_plain) (Dro : Df K mg "_law_row" s_law_row P_law_row) (Dbl : Df K mg "_law_block" s_law_block P_law_block) (Dpr : Df K mg "_law_program" s_law_program P_law_program) (B : Blt mg) :
    Has P w K mg base CX0 "_law_program" P_law_program 16 (spPgV K) ∧ Has P w K mg base CX0 "_law_expression" P_law_expression 5 (spExVA K) := by
  have Gdr := ok_law_draw (P := P) (w := w) (base := base) Ddr B
  have Gon := ok_law_one Don B Gdr
  have Gex : Has P w K mg base CX0 "_law_expression" P_law_expression 5 (spExVA K) := Has.any (ι := { m : Nat // 1 ≤ m ∧ m ≤ 3 }) ⟨1, by omega⟩ fun i => (ok_law_expression Dex B Gdr Gon i.1 i.2.1 i.2.2).mono (by have := i.2.2; omega)
  have Gte := ok_law_test Dte B Gdr Gon Gex
  have Gpl := ok_law_plain Dpl B Gdr Gon Gex
  have all : ∀ e, Has P w K mg base CX0 "_law_block" P_law_block (2 * e + 7) (spBlV K e) := by
    intro e
    induction e with
    | zero => exact ok_law_block (lv := 6) Dbl B (by omega) Gdr ((Dro.void (sp := fun _ _ _ _ => False) fun _ _ _ _ h => h).mono (by omega)) fun m h => by omega
    | succ e ih =>
      refine ok_law_block (lv := 2 * e + 8) Dbl B (by omega) Gdr (ok_law_row (lv := 2 * e + 7) Dro B (by omega) Gdr Gon Gte Gpl ih) fun m h => ?_
      obtain rfl : e = m := by omega
      rfl
  exact ⟨ok_law_program (lv := 15) Dpr B (by omega) Gdr Gex (all 4), Gex⟩
structure CTop (mg : Str → Option Value) (K : PySem.W.Frag) (C : Addr) : Prop where
  T : CT K C
  mks : PySem.W.makesIn K C = true
  kc : PySem.W.keepIn K (.ref C) = true
  at_ : mg "Course" = some (.ref C)
  d0 : DfM K C "__init__" "Course.__init__" sCourse___init__ PCourse___init__
  d1 : DfM K C "reading" "Course.reading" sCourse_reading PCourse_reading
  d2 : DfM K C "worth" "Course.worth" sCourse_worth PCourse_worth
  d3 : DfM K C "truth" "Course.truth" sCourse_truth PCourse_truth
  d4 : DfM K C "do" "Course.do" sCourse_do PCourse_do
  d5 : DfM K C "choose" "Course.choose" sCourse_choose PCourse_choose
  d6 : DfM K C "again" "Course.again" sCourse_again PCourse_again
  d7 : DfM K C "go" "Course.go" sCourse_go PCourse_go
theorem rn_course {C : Addr} (X : CTop mg K C) (B : Blt mg) (gI : ∃ t, mg "INPUT" = some (.str "n" t)) (gN : ∃ t, mg "NOTHING" = some (.int 0 t)) (gU : ∃ t, mg "UNSURE" = some (.str "unsure" t))
    (Dbl : Df K mg "blocks_of" sblocks_of Pblocks_of) (Dpl : Df K mg "places_in" splaces_in Pplaces_in) (Dad : Df K mg "added" sadded Padded) (Dws : Df K mg "whole_sum" swhole_sum Pwhole_sum)
    (Dmu : Df K mg "multiples_of" smultiples_of Pmultiples_of) (Dco : Df K mg "course_of" scourse_of Pcourse_of) : Has P w K mg base CX0 "course_of" Pcourse_of 18 (spCourse K) := by
  obtain ⟨_, gI⟩ := gI
  obtain ⟨_, gN⟩ := gN
  obtain ⟨_, gU⟩ := gU
  have Gbl := ok_blocks_of (P := P) (w := w) (base := base) Dbl B
  have Gad := ok_added (P := P) (w := w) (base := base) Dad B
  have Gws := ok_whole_sum (P := P) (w := w) (base := base) Dws B
  have Gpl : ∀ n, Has P w K mg base CX0 "places_in" Pplaces_in (n + 2) (spPlaces K n) := by
    intro n
    induction n with
    | zero => exact ok_places_in1 (lv := 1) Dpl B (by omega) Gbl ((Dpl.void (sp := fun _ _ _ _ => False) fun _ _ _ _ h => h).mono (by omega)) fun m h => by omega
    | succ n ih =>
      exact ok_places_in1 (lv := n + 2) Dpl B (by omega) Gbl ih fun m h => by
        obtain rfl : n = m := by omega
        rfl
  have G0 := ok_Course_init X.d0 B X.T gI Gws
  have G1 := ok_Course_reading X.d1 B X.T gN Gws
  have G2 : ∀ n, HasM P w K mg base CX0 C "worth" PCourse_worth (n + 2) (spWorth K C n) := by
    intro n
    induction n with
    | zero => exact (X.d2.void (sp := spWorth K C 0) (fun _ _ _ _ ⟨_, _, _, _, _, _, _, _, _, _, _, _, _, _, _, h, _⟩ => h.elim)).mono (by omega)
    | succ n ih =>
      exact ok_Course_worth1 (lv := n + 2) X.d2 B X.T (by omega) gN Gws Gad G1 ih fun m h => by
        obtain rfl : n = m := by omega
        rfl
  have G3 : ∀ n, HasM P w K mg base CX0 C "truth" PCourse_truth (n + 6) (spTruth K C n) := by
    intro n
    induction n with
    | zero => exact ok_Course_truth1 (lv := 5) X.d3 B X.T (by omega) Gad (G2 3) ((X.d3.void (sp := fun _ _ _ _ => False) fun _ _ _ _ h => h).mono (by omega)) fun m h => by omega
    | succ n ih =>
      exact ok_Course_truth1 (lv := n + 6) X.d3 B X.T (by omega) Gad (G2 3) ih fun m h => by
        obtain rfl : n = m := by omega
        rfl
  have G4 := ok_Course_do X.d4 B X.T (G2 3)
  have G7 : ∀ n, n ≤ 5 → HasM P w K mg base CX0 C "go" PCourse_go (2 * n + 9) (spGo K C n) := by
    intro n
    induction n with
    | zero => exact fun _ => ok_Course_go (m := 0) (lv := 8) X.d7 B X.T (by omega) (by omega) (Gpl 4) G4 ((X.d5.void (sp := fun _ _ _ _ => False) fun _ _ _ _ h => h).mono (by omega)) ((X.d6.void (sp := fun _ _ _ _ => False) fun _ _ _ _ h => h).mono (by omega)) fun m h => by omega
    | succ n ih =>
      intro hn
      have g := ih (by omega)
      exact ok_Course_go (m := 0) (lv := 2 * n + 10) X.d7 B X.T (by omega) hn (Gpl 4) G4 (ok_Course_choose (lv := 2 * n + 9) X.d5 B X.T (by omega) (by omega) gU (Gpl 4) (G3 2) g) (ok_Course_again (lv := 2 * n + 9) X.d6 B X.T (by omega) g) fun m h => by
        obtain rfl : n = m := by omega
        exact ⟨rfl, rfl⟩
  have Gmu := ok_multiples_of (P := P) (w := w) (base := base) Dmu B
  exact ok_course_of Dco B X.T (HasC.of G0 X.mks X.kc X.at_) (G7 4 (by omega)) Gmu
end
end Aw
open PySem PySem.W PyProof.Rows in
set_option maxRecDepth 100000 in
set_option maxHeartbeats 0 in
theorem PySem.Challenge.cw_anewread_k34_whole_runs_by_sums_holds : PySem.Challenge.rw_anewread_k34_whole_runs_by_sums.Holds := by
  w_on; o_law; k_head; (case hw => w_witness2)
  k_fill
  refine Aw.walkG (k := 22) (l := PySem.Challenge.rw_anewread_k34_whole_runs_by_sums) (x := "_law_script") rfl rfl rfl ⟨⟨rfl, by decide, by decide⟩, rfl⟩ (fun w h Y => PySem.W.kIn_of Y) ?F ?Q
  case Q => rfl
  case F =>
    intro w mg h KX G base _ _ hSys
    have Dblocks_of : Aw.Df (L2.KOf KX) mg "blocks_of" Aw.sblocks_of Aw.Pblocks_of := by
      unfold L2.KOf
      refine' Aw.df_mk KX G ?a ?l ?c ?k ?b
      (case a => k_is)
      (case l => k_is)
      (case c => k_is)
      (case k => k_is)
      (case b => exact fun _ _ _ _ _ _ us hl => match us, hl with | [_], _ => rfl)
    have Dadded : Aw.Df (L2.KOf KX) mg "added" Aw.sadded Aw.Padded := by
      unfold L2.KOf
      refine' Aw.df_mk KX G ?a ?l ?c ?k ?b
      (case a => k_is)
      (case l => k_is)
      (case c => k_is)
      (case k => k_is)
      (case b => exact fun _ _ _ _ _ _ us hl => match us, hl with | [_, _, _], _ => rfl)
    have Dwhole_sum : Aw.Df (L2.KOf KX) mg "whole_sum" Aw.swhole_sum Aw.Pwhole_sum := by
      unfold L2.KOf
      refine' Aw.df_mk KX G ?a ?l ?c ?k ?b
      (case a => k_is)
      (case l => k_is)
      (case c => k_is)
      (case k => k_is)
      (case b => exact fun _ _ _ _ _ _ us hl => match us, hl with | [_], _ => rfl)
    have Dplaces_in : Aw.Df (L2.KOf KX) mg "places_in" Aw.splaces_in Aw.Pplaces_in := by
      unfold L2.KOf
      refine' Aw.df_mk KX G ?a ?l ?c ?k ?b
      (case a => k_is)
      (case l => k_is)
      (case c => k_is)
      (case k => k_is)
      (case b => exact fun _ _ _ _ _ _ us hl => match us, hl with | [_], _ => rfl)
    have Dmultiples_of : Aw.Df (L2.KOf KX) mg "multiples_of" Aw.smultiples_of Aw.Pmultiples_of := by
      unfold L2.KOf
      refine' Aw.df_mk KX G ?a ?l ?c ?k ?b
      (case a => k_is)
      (case l => k_is)
      (case c => k_is)
      (case k => k_is)
      (case b => exact fun _ _ _ _ _ _ us hl => match us, hl with | [_, _], _ => rfl)
    have Dcourse_of : Aw.Df (L2.KOf KX) mg "course_of" Aw.scourse_of Aw.Pcourse_of := by
      unfold L2.KOf
      refine' Aw.df_mk KX G ?a ?l ?c ?k ?b
      (case a => k_is)
      (case l => k_is)
      (case c => k_is)
      (case k => k_is)
      (case b => exact fun _ _ _ _ _ _ us hl => match us, hl with | [_, _, _], _ => rfl)
    have Dsums_of : Aw.Df (L2.KOf KX) mg "sums_of" Aw.ssums_of Aw.Psums_of := by
      unfold L2.KOf
      refine' Aw.df_mk KX G ?a ?l ?c ?k ?b
      (case a => k_is)
      (case l => k_is)
      (case c => k_is)
      (case k => k_is)
      (case b => exact fun _ _ _ _ _ _ us hl => match us, hl with | [_, _], _ => rfl)
    have Dtold_number : Aw.Df (L2.KOf KX) mg "told_number" Aw.stold_number Aw.Ptold_number := by
      unfold L2.KOf
      refine' Aw.df_mk KX G ?a ?l ?c ?k ?b
      (case a => k_is)
      (case l => k_is)
      (case c => k_is)
      (case k => k_is)
      (case b => exact fun _ _ _ _ _ _ us hl => match us, hl with | [_, _], _ => rfl)
    have Drun_of : Aw.Df (L2.KOf KX) mg "run_of" Aw.srun_of Aw.Prun_of := by
      unfold L2.KOf
      refine' Aw.df_mk KX G ?a ?l ?c ?k ?b
      (case a => k_is)
      (case l => k_is)
      (case c => k_is)
      (case k => k_is)
      (case b => exact fun _ _ _ _ _ _ us hl => match us, hl with | [_, _, _, _], _ => rfl)
    have Drun : Aw.Df (L2.KOf KX) mg "run" Aw.srun Aw.Prun := by
      unfold L2.KOf
      refine' Aw.df_mk KX G ?a ?l ?c ?k ?b
      (case a => k_is)
      (case l => k_is)
      (case c => k_is)
      (case k => k_is)
      (case b => exact fun _ _ _ _ _ _ us hl => match us, hl with | [_, _, _], _ => rfl)
    have D_law_deck : Aw.Df (L2.KOf KX) mg "_law_deck" Aw.s_law_deck Aw.P_law_deck := by
      unfold L2.KOf
      refine' Aw.df_mk KX G ?a ?l ?c ?k ?b
      (case a => k_is)
      (case l => k_is)
      (case c => k_is)
      (case k => k_is)
      (case b => exact fun _ _ _ _ _ _ us hl => match us, hl with | [_], _ => rfl)
    have D_law_draw : Aw.Df (L2.KOf KX) mg "_law_draw" Aw.s_law_draw Aw.P_law_draw := by
      unfold L2.KOf
      refine' Aw.df_mk KX G ?a ?l ?c ?k ?b
      (case a => k_is)
      (case l => k_is)
      (case c => k_is)
      (case k => k_is)
      (case b => exact fun _ _ _ _ _ _ us hl => match us, hl with | [_, _], _ => rfl)
    have D_law_one : Aw.Df (L2.KOf KX) mg "_law_one" Aw.s_law_one Aw.P_law_one := by
      unfold L2.KOf
      refine' Aw.df_mk KX G ?a ?l ?c ?k ?b
      (case a => k_is)
      (case l => k_is)
      (case c => k_is)
      (case k => k_is)
      (case b => exact fun _ _ _ _ _ _ us hl => match us, hl with | [_, _], _ => rfl)
    have D_law_names : Aw.Df (L2.KOf KX) mg "_law_names" Aw.s_law_names Aw.P_law_names := by
      unfold L2.KOf
      refine' Aw.df_mk KX G ?a ?l ?c ?k ?b
      (case a => k_is)
      (case l => k_is)
      (case c => k_is)
      (case k => k_is)
      (case b => exact fun _ _ _ _ _ _ us hl => match us, hl with | [_], _ => rfl)
    have D_law_expression : Aw.Df (L2.KOf KX) mg "_law_expression" Aw.s_law_expression Aw.P_law_expression := by
      unfold L2.KOf
      refine' Aw.df_mk KX G ?a ?l ?c ?k ?b
      (case a => k_is)
      (case l => k_is)
      (case c => k_is)
      (case k => k_is)
      (case b => exact fun _ _ _ _ _ _ us hl => match us, hl with | [_, _, _], _ => rfl)
    have D_law_test : Aw.Df (L2.KOf KX) mg "_law_test" Aw.s_law_test Aw.P_law_test := by
      unfold L2.KOf
      refine' Aw.df_mk KX G ?a ?l ?c ?k ?b
      (case a => k_is)
      (case l => k_is)
      (case c => k_is)
      (case k => k_is)
      (case b => exact fun _ _ _ _ _ _ us hl => match us, hl with | [_, _, _, _], _ => rfl)
    have D_law_plain : Aw.Df (L2.KOf KX) mg "_law_plain" Aw.s_law_plain Aw.P_law_plain := by
      unfold L2.KOf
      refine' Aw.df_mk KX G ?a ?l ?c ?k ?b
      (case a => k_is)
      (case l => k_is)
      (case c => k_is)
      (case k => k_is)
      (case b => exact fun _ _ _ _ _ _ us hl => match us, hl with | [_, _], _ => rfl)
    have D_law_row : Aw.Df (L2.KOf KX) mg "_law_row" Aw.s_law_row Aw.P_law_row := by
      unfold L2.KOf
      refine' Aw.df_mk KX G ?a ?l ?c ?k ?b
      (case a => k_is)
      (case l => k_is)
      (case c => k_is)
      (case k => k_is)
      (case b => exact fun _ _ _ _ _ _ us hl => match us, hl with | [_, _, _, _, _], _ => rfl)
    have D_law_block : Aw.Df (L2.KOf KX) mg "_law_block" Aw.s_law_block Aw.P_law_block := by
      unfold L2.KOf
      refine' Aw.df_mk KX G ?a ?l ?c ?k ?b
      (case a => k_is)
      (case l => k_is)
      (case c => k_is)
      (case k => k_is)
      (case b => exact fun _ _ _ _ _ _ us hl => match us, hl with | [_, _, _, _, _], _ => rfl)
    have D_law_program : Aw.Df (L2.KOf KX) mg "_law_program" Aw.s_law_program Aw.P_law_program := by
      unfold L2.KOf
      refine' Aw.df_mk KX G ?a ?l ?c ?k ?b
      (case a => k_is)
      (case l => k_is)
      (case c => k_is)
      (case k => k_is)
      (case b => exact fun _ _ _ _ _ _ us hl => match us, hl with | [_, _], _ => rfl)
    have D_law_number : Aw.Df (L2.KOf KX) mg "_law_number" Aw.s_law_number Aw.P_law_number := by
      unfold L2.KOf
      refine' Aw.df_mk KX G ?a ?l ?c ?k ?b
      (case a => k_is)
      (case l => k_is)
      (case c => k_is)
      (case k => k_is)
      (case b => exact fun _ _ _ _ _ _ us hl => match us, hl with | [_], _ => rfl)
    have D_law_readings : Aw.Df (L2.KOf KX) mg "_law_readings" Aw.s_law_readings Aw.P_law_readings := by
      unfold L2.KOf
      refine' Aw.df_mk KX G ?a ?l ?c ?k ?b
      (case a => k_is)
      (case l => k_is)
      (case c => k_is)
      (case k => k_is)
      (case b => exact fun _ _ _ _ _ _ us hl => match us, hl with | [_], _ => rfl)
    have D_law_by_sums : Aw.Df (L2.KOf KX) mg "_law_by_sums" Aw.s_law_by_sums Aw.P_law_by_sums := by
      unfold L2.KOf
      refine' Aw.df_mk KX G ?a ?l ?c ?k ?b
      (case a => k_is)
      (case l => k_is)
      (case c => k_is)
      (case k => k_is)
      (case b => exact fun _ _ _ _ _ _ us hl => match us, hl with | [_, _], _ => rfl)
    have D_law_cut : Aw.Df (L2.KOf KX) mg "_law_cut" Aw.s_law_cut Aw.P_law_cut := by
      unfold L2.KOf
      refine' Aw.df_mk KX G ?a ?l ?c ?k ?b
      (case a => k_is)
      (case l => k_is)
      (case c => k_is)
      (case k => k_is)
      (case b => exact fun _ _ _ _ _ _ us hl => match us, hl with | [_], _ => rfl)
    have D_law_numbers : Aw.Df (L2.KOf KX) mg "_law_numbers" Aw.s_law_numbers Aw.P_law_numbers := by
      unfold L2.KOf
      refine' Aw.df_mk KX G ?a ?l ?c ?k ?b
      (case a => k_is)
      (case l => k_is)
      (case c => k_is)
      (case k => k_is)
      (case b => exact fun _ _ _ _ _ _ us hl => match us, hl with | [_], _ => rfl)
    have D_law_added : Aw.Df (L2.KOf KX) mg "_law_added" Aw.s_law_added Aw.P_law_added := by
      unfold L2.KOf
      refine' Aw.df_mk KX G ?a ?l ?c ?k ?b
      (case a => k_is)
      (case l => k_is)
      (case c => k_is)
      (case k => k_is)
      (case b => exact fun _ _ _ _ _ _ us hl => match us, hl with | [_, _, _, _], _ => rfl)
    have Dlaw : Aw.Df (L2.KOf KX) mg "law" Aw.slaw Aw.Plaw := by
      unfold L2.KOf
      refine' Aw.df_mk KX G ?a ?l ?c ?k ?b
      (case a => k_is)
      (case l => k_is)
      (case c => k_is)
      (case k => k_is)
      (case b => exact fun _ _ _ _ _ _ us hl => match us, hl with | [_], _ => rfl)
    have B : Aw.Blt mg := by
      refine' ⟨PySem.W.mg_none_of KX G ?z0, PySem.W.mg_none_of KX G ?z1, PySem.W.mg_none_of KX G ?z2, PySem.W.mg_none_of KX G ?z3, PySem.W.mg_none_of KX G ?z4, PySem.W.mg_none_of KX G ?z5, PySem.W.mg_none_of KX G ?z6, PySem.W.mg_none_of KX G ?z7, PySem.W.mg_none_of KX G ?z8, PySem.W.mg_none_of KX G ?z9, PySem.W.mg_none_of KX G ?z10, PySem.W.mg_none_of KX G ?z11, PySem.W.mg_none_of KX G ?z12, PySem.W.mg_none_of KX G ?z13, PySem.W.mg_none_of KX G ?z14, PySem.W.mg_none_of KX G ?z15, PySem.W.mg_none_of KX G ?z16, PySem.W.mg_none_of KX G ?z17, PySem.W.mg_none_of KX G ?z18⟩
      all_goals k_is
    have gI : ∃ t, mg "INPUT" = some (.str "n" t) := by (refine' Aw.gstr_mk KX G ?z; (case z => k_is))
    have gN : ∃ t, mg "NOTHING" = some (.int 0 t) := by (refine' Aw.gint_mk KX G ?z; (case z => k_is))
    have gU : ∃ t, mg "UNSURE" = some (.str "unsure" t) := by (refine' Aw.gstr_mk KX G ?z; (case z => k_is))
    have XC : ∃ C, Aw.CTop mg (L2.KOf KX) C := by
      unfold L2.KOf
      refine' ⟨_, ⟨⟨?c1, ?c2, ?c3, ?c4⟩, Aw.na_mk ?n1, Aw.na_mk ?n2, Aw.na_mk ?n3, Aw.na_mk ?n4⟩, ?mk0, ?kc, PySem.W.mg_of KX G ?ta0, Aw.dfm_mk ?a0 ?l0 ?e0 ?k0 ?i0 ?b0, Aw.dfm_mk ?a1 ?l1 ?e1 ?k1 ?i1 ?b1, Aw.dfm_mk ?a2 ?l2 ?e2 ?k2 ?i2 ?b2, Aw.dfm_mk ?a3 ?l3 ?e3 ?k3 ?i3 ?b3, Aw.dfm_mk ?a4 ?l4 ?e4 ?k4 ?i4 ?b4, Aw.dfm_mk ?a5 ?l5 ?e5 ?k5 ?i5 ?b5, Aw.dfm_mk ?a6 ?l6 ?e6 ?k6 ?i6 ?b6, Aw.dfm_mk ?a7 ?l7 ?e7 ?k7 ?i7 ?b7⟩
      (case ta0 => k_is)
      (case c1 => k_is)
      (case c2 => k_is)
      (case c3 => k_is)
      (case c4 => k_is)
      (case n1 => k_is)
      (case n2 => k_is)
      (case n3 => k_is)
      (case n4 => k_is)
      (case mk0 => k_is)
      (case kc => k_is)
      (case a0 => k_is)
      (case l0 => k_is)
      (case e0 => k_is)
      (case k0 => k_is)
      (case i0 => k_is)
      (case b0 => exact fun _ _ _ _ _ _ us hl => match us, hl with | [_, _, _], _ => rfl)
      (case a1 => k_is)
      (case l1 => k_is)
      (case e1 => k_is)
      (case k1 => k_is)
      (case i1 => k_is)
      (case b1 => exact fun _ _ _ _ _ _ us hl => match us, hl with | [_, _], _ => rfl)
      (case a2 => k_is)
      (case l2 => k_is)
      (case e2 => k_is)
      (case k2 => k_is)
      (case i2 => k_is)
      (case b2 => exact fun _ _ _ _ _ _ us hl => match us, hl with | [_, _, _], _ => rfl)
      (case a3 => k_is)
      (case l3 => k_is)
      (case e3 => k_is)
      (case k3 => k_is)
      (case i3 => k_is)
      (case b3 => exact fun _ _ _ _ _ _ us hl => match us, hl with | [_, _, _], _ => rfl)
      (case a4 => k_is)
      (case l4 => k_is)
      (case e4 => k_is)
      (case k4 => k_is)
      (case i4 => k_is)
      (case b4 => exact fun _ _ _ _ _ _ us hl => match us, hl with | [_, _, _], _ => rfl)
      (case a5 => k_is)
      (case l5 => k_is)
      (case e5 => k_is)
      (case k5 => k_is)
      (case i5 => k_is)
      (case b5 => exact fun _ _ _ _ _ _ us hl => match us, hl with | [_, _, _], _ => rfl)
      (case a6 => k_is)
      (case l6 => k_is)
      (case e6 => k_is)
      (case k6 => k_is)
      (case i6 => k_is)
      (case b6 => exact fun _ _ _ _ _ _ us hl => match us, hl with | [_, _, _], _ => rfl)
      (case a7 => k_is)
      (case l7 => k_is)
      (case e7 => k_is)
      (case k7 => k_is)
      (case i7 => k_is)
      (case b7 => exact fun _ _ _ _ _ _ us hl => match us, hl with | [_, _, _], _ => rfl)
    obtain ⟨C, XC⟩ := XC
    have GC := Aw.rn_course (P := PySem.Challenge.pw_anewread_k34_whole_runs_by_sums) (w := w) (base := base) XC B gI gN gU Dblocks_of Dplaces_in Dadded Dwhole_sum Dmultiples_of Dcourse_of
    have GS := Aw.ok_sums_of Dsums_of B GC
    have GT := Aw.ok_told_number (P := PySem.Challenge.pw_anewread_k34_whole_runs_by_sums) (w := w) (base := base) Dtold_number B
    have GR := Aw.ok_run_of Drun_of B GC GT
    have GU := Aw.ok_run Drun B GR
    have G1 := Aw.ok_law_deck (P := PySem.Challenge.pw_anewread_k34_whole_runs_by_sums) (w := w) (base := base) D_law_deck B
    have G2 := Aw.ok_law_draw (P := PySem.Challenge.pw_anewread_k34_whole_runs_by_sums) (w := w) (base := base) D_law_draw B
    have G3 := Aw.ok_law_one D_law_one B G2
    have G4 := Aw.ok_law_names D_law_names B G2 G3
    have G5 := Aw.g2_program (P := PySem.Challenge.pw_anewread_k34_whole_runs_by_sums) (w := w) (base := base) D_law_draw D_law_one D_law_expression D_law_test D_law_plain D_law_row D_law_block D_law_program B
    have G6 := Aw.ok__law_number D_law_number B G2 G3
    have G7 := Aw.ok__law_readings D_law_readings B G2 G3
    have G8 := Aw.ok__law_by_sums (P := PySem.Challenge.pw_anewread_k34_whole_runs_by_sums) (w := w) (base := base) D_law_by_sums B
    have G9 := Aw.ok__law_cut (P := PySem.Challenge.pw_anewread_k34_whole_runs_by_sums) (w := w) (base := base) D_law_cut B
    have G10 := Aw.ok__law_numbers (P := PySem.Challenge.pw_anewread_k34_whole_runs_by_sums) (w := w) (base := base) D_law_numbers B
    have G11 := Aw.ok__law_added D_law_added B GU G10
    exact Aw.ok_law Dlaw B hSys G1 G4 G5.1 G6 G7 GU GS G8 G9 G11
