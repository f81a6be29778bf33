import PyProof.Rows.All
import Wide.All
import OpenK.AllK
import Wide.FinOn
import HandS.ForMost
import HandS.IsInst
import HandS.TupAny
import HandS.RaiseMore
import HandS.Conv
import HandS.WideBits
import HandS.More
import HandS.Style
import PyProof.NeKinds
import PyProof.StrLawsIn
import HandS.TupMul
import HandS.ReplaceLit
import HandS.ReplaceList
import HandS.NoneIn
import PySem.Challenge.RW_anewread_k28_single_statements
set_option Elab.async false
set_option linter.all false
set_option maxRecDepth 100000
set_option maxHeartbeats 4000000
set_option autoImplicit false
/-! calls with the guards known (so that repr of data may be asked), a def as it is had, repr -/
namespace Aw
open PySem PySem.Spec PyProof.Rows L2

structure RoomG (k : Nat) (A : Around) : Prop where
  r : Room k A
  g : A.guards = some []
theorem RoomG.mono {j k : Nat} {A : Around} (h : RoomG k A) (q : j ≤ k) : RoomG j A := ⟨h.r.mono q, h.g⟩
theorem RoomG.hu {k : Nat} {A : Around} (h : RoomG k A) : A.units + 1 < cLine := hu_of h.r
theorem RoomG.h64 {k : Nat} {A : Around} (h : RoomG k A) : A.units + 64 < cLine := h.r.units

/-- a def keeps its promise wherever nothing is being shown -/
structure FnG (P : Program) (w : World) (K : PySem.W.Frag) (mg : Str → Option Value) (base : Heap) (CX : CXT)
    (k : Nat) (f : Addr) (fd : FuncData) (ps : List Str) (sp : Sp) : Prop where
  len : ∀ vs H Q E, sp vs H Q E → vs.length = ps.length
  run : ∀ (A : Around) (outer : List Env) (s : Shared) (H : Hp) (args : Args) (us : List Value) (vs : List V)
    (Q : VK) (E : XK), RoomG k A → Env0 P w K mg base A outer s H → BindsTo s fd args (ps.zip us) → Vals vs us →
    sp vs H Q E → codeAny (model P w) A (.call (.ref f) args) (CR CX outer P w H s Q E) s

section
variable {P : Program} {w : World} {K : PySem.W.Frag} {mg : Str → Option Value} {base : Heap} {CX : CXT}

theorem FnG.mono {j k : Nat} {f : Addr} {fd : FuncData} {ps : List Str} {sp : Sp}
    (F : FnG P w K mg base CX j f fd ps sp) (h : j ≤ k) : FnG P w K mg base CX k f fd ps sp :=
  ⟨F.len, fun A o s H a us vs Q E hr => F.run A o s H a us vs Q E (hr.mono h)⟩

theorem fnG_of {k : Nat} {f : Addr} {nm qual : Str} {params : Arguments} {body : List Stmt} {scope : Scope}
    {dV kV doc pm cdv ct oc : Value} {an od : Option Addr} {osl : Array (Option Value)} {N ps : List Str} {sp : Sp}
    (lk : K.lookup f = some ⟨oc, od, .func (PySem.W.fnOf nm qual params body scope dV kV doc pm an cdv ct), osl⟩)
    (hcd : PySem.W.codeIn K cdv qual = true) (S : FnScope N ps scope)
    (len : ∀ vs H Q E, sp vs H Q E → vs.length = ps.length)
    (hb : ∀ (A : Around) (outer : List Env) (s : Shared) (H : Hp) (vs : List V) (Q : VK) (E : XK),
      RoomG k (A.deeper (envOfC qual scope s.heap.objs.size f cdv)) → sp vs H Q E →
      ∃ t, PSs (cxOf CX P w K mg base N qual scope f cdv A outer s H E) body t ∧
        t { nx := fun _ H' => Q .non H', rt := Q } (start N vs) H) :
    FnG P w K mg base CX (k + 1) f (PySem.W.fnOf nm qual params body scope dV kV doc pm an cdv ct) ps sp := by
  refine ⟨len, fun A outer s H args us vs Q E hr e0 hbd r hsp => ?_⟩
  have hl := len _ _ _ _ hsp
  have KX : K.In s.heap := e0.mod.kin.keeps fun b o e => (e0.bs b o e).1
  have lim : s.heap.NoLimit := e0.mod.nolimit.keeps fun b o e => (e0.bs b o e).1
  refine codeAny_call_function hr.r.depth (KX _ _ lk) rfl S.co S.gen rfl (PySem.W.codeRec_of KX hcd)
    (hbd _ _ _ _ ?_)
  refine wpAny_newFunctionEnv_cells S.kind (fun ⟨n, v⟩ hy => ?_) fun env he s1 x => ?_
  · rcases S.par n (List.of_mem_zip hy).1 with q | q
    · exact .inl q
    · exact .inr ⟨q, PySem.W.cellsFrom_some _ _ _ (.inl q)⟩
  subst he
  refine ⟨lim.keeps x.toInCall.keep, codeAny_func ?_⟩
  obtain ⟨t, ht, hq⟩ := hb A outer s H vs Q E ⟨hr.r.deeper _, hr.g⟩ hsp
  have I := inv_start (CX := CX) (E := E) (f := f) (cd := cdv) S hr.r.hd e0 hl r x
  refine wpAny_mono (ht.run [] s1 (start N vs) H _ I hq) (fun fl s' hs => ?_) fun e s' hs => hs
  cases fl with
  | ret u =>
    obtain ⟨v, σ', H', J, rv, q⟩ := hs
    exact ⟨v, H', J.os, J.bare, J.base, J.hok, rv, q⟩
  | next =>
    obtain ⟨σ', H', J, q⟩ := hs
    exact ⟨V.non, H', J.os, J.bare, J.base, J.hok, rfl, q⟩
  | brk => exact hs.elim fun _ h => h.elim fun _ h => h.2.elim
  | cont => exact hs.elim fun _ h => h.elim fun _ h => h.2.elim

/-- a def of the top, by its name -/
def Df (K : PySem.W.Frag) (mg : Str → Option Value) (x : Str) (st : Stmt) (ps : List Str) : Prop :=
  ∃ (f : Addr) (fd : FuncData), Fun K x x st f fd ∧ mg x = some (.ref f) ∧ Binds K fd ps []
/-- the def of this name keeps a promise -/
def Has (P : Program) (w : World) (K : PySem.W.Frag) (mg : Str → Option Value) (base : Heap) (CX : CXT) (x : Str)
    (ps : List Str) (k : Nat) (sp : Sp) : Prop :=
  ∃ (f : Addr) (fd : FuncData), (PySem.W.keepIn K (.ref f) = true ∧ ∃ oc od osl, K.lookup f = some ⟨oc, od, .func fd, osl⟩) ∧
    mg x = some (.ref f) ∧ Binds K fd ps [] ∧ FnG P w K mg base CX k f fd ps sp
theorem Has.any {ι : Type} {x : Str} {ps : List Str} {k : Nat} {sp : ι → Sp} (i₀ : ι) (h : ∀ i, Has P w K mg base CX x ps k (sp i)) :
    Has P w K mg base CX x ps k (fun vs H Q E => ∃ i, sp i vs H Q E) := by
  obtain ⟨f, fd, ⟨a, oc, od, osl, l⟩, b, c, _⟩ := h i₀
  have same : ∀ i, FnG P w K mg base CX k f fd ps (sp i) := by
    intro i
    obtain ⟨f', fd', ⟨_, oc', od', osl', l'⟩, b', _, d'⟩ := h i
    cases b.symm.trans b'
    cases l.symm.trans l'
    exact d'
  exact ⟨f, fd, ⟨a, oc, od, osl, l⟩, b, c, fun vs H Q E ⟨i, z⟩ => (same i).len _ _ _ _ z, fun A o s H ar us vs Q E hr he hb hv ⟨i, hs⟩ =>
    (same i).run A o s H ar us vs Q E hr he hb hv hs⟩
theorem Has.mono {x : Str} {ps : List Str} {j k : Nat} {sp : Sp} (h : Has P w K mg base CX x ps j sp) (q : j ≤ k) :
    Has P w K mg base CX x ps k sp := by
  obtain ⟨f, fd, a, b, c, d⟩ := h
  exact ⟨f, fd, a, b, c, d.mono q⟩
theorem Has.imp {x : Str} {ps : List Str} {k : Nat} {sp sp' : Sp} (h : Has P w K mg base CX x ps k sp)
    (q : ∀ vs H Q E, sp' vs H Q E → sp vs H Q E) : Has P w K mg base CX x ps k sp' := by
  obtain ⟨f, fd, a, b, c, d⟩ := h
  exact ⟨f, fd, a, b, c, fun vs H Q E z => d.len _ _ _ _ (q _ _ _ _ z), fun A o s H ar us vs Q E hr he hb hv hs =>
    d.run A o s H ar us vs Q E hr he hb hv (q _ _ _ _ hs)⟩
theorem Df.void {x : Str} {st : Stmt} {ps : List Str} {sp : Sp} (d : Df K mg x st ps) (h : ∀ vs H Q E, ¬ sp vs H Q E) :
    Has P w K mg base CX x ps 0 sp := by
  obtain ⟨f, fd, F, m, b⟩ := d
  have lk : ∃ oc od osl, K.lookup f = some ⟨oc, od, .func fd, osl⟩ := by
    obtain ⟨oc, od, kV, doc, pm, an, cdv, ct, osl, rfl, lk, hcd⟩ := F.ex
    exact ⟨oc, od, osl, lk⟩
  exact ⟨f, fd, ⟨F.kp, lk⟩, m, b, fun vs H Q E z => absurd z (h _ _ _ _), fun A o s H ar us vs Q E hr he hb hv hs =>
    absurd hs (h _ _ _ _)⟩
theorem Df.has {x : Str} {st : Stmt} {ps N : List Str} {k : Nat} {sp : Sp} (d : Df K mg x st ps)
    (S : FnScope N ps (defScope st)) (len : ∀ vs H Q E, sp vs H Q E → vs.length = ps.length)
    (hb : ∀ (f : Addr) (cdv : Value) (A : Around) (outer : List Env) (s : Shared) (H : Hp) (vs : List V) (Q : VK) (E : XK),
      RoomG k (A.deeper (envOfC x (defScope st) s.heap.objs.size f cdv)) → sp vs H Q E →
      ∃ t, PSs (cxOf CX0 P w K mg base N x (defScope st) f cdv A outer s H E).nox (defBody st) t ∧
        t { nx := fun _ H' => Q .non H', rt := Q } (start N vs) H) : Has P w K mg base CX0 x ps (k + 1) sp := by
  obtain ⟨f, fd, F, m, b⟩ := d
  obtain ⟨oc, od, kV, doc, pm, an, cdv, ct, osl, rfl, lk, hcd⟩ := F.ex
  refine ⟨f, _, ⟨F.kp, oc, od, osl, lk⟩, m, b, fnG_of lk hcd S len fun A outer s H vs Q E hr hsp => ?_⟩
  obtain ⟨t, h, q⟩ := hb f cdv A outer s H vs Q E hr hsp
  exact ⟨t, h.nox, q⟩
end

section
variable {X : Cx} {CX : CXT} {k : Nat} {ps : List Str} {sp : Sp} {E : XK} {x : Str} {p pos : Pos} {e : Expr}
  {es : List Expr} {t : TA}
theorem runG {f : Addr} {fd : FuncData} {pins : List (Addr × Obj)} {σ : L2.St} {H : Hp} {s : Shared} {Q : VK}
    {us : List Value} {vs : List V} (F : FnG X.prog X.w X.K X.mg X.base CX k f fd ps sp) (hr : RoomG k X.A)
    (hb : Binds X.K fd ps []) (hx : Passes CX X E) (I : Inv X pins σ H s) (r : Vals vs us) (h : sp vs H Q E) :
    wpAny (model X.prog X.w) X.A (call (.ref f) us) (EP X pins σ Q) X.xe s := by
  have hl : (us ++ []).length = ps.length := by
    rw [List.append_nil, ← r.length]
    exact F.len _ _ _ _ h
  have bb := hb s us I.kIn hl
  rw [List.append_nil] at bb
  refine wpAny_call (codeAny_mono (F.run X.A X.stack s H ⟨us, []⟩ us vs Q E hr I.env0 bb r h) fun r s' hq => ?_)
  match r, hq with
  | .error e, hq => exact hx pins σ H s e s' I hq
  | .ok (.ret u), hq => exact I.after hq
/-- f(e, ..) of a def by its name -/
theorem pe_f (F : Has X.prog X.w X.K X.mg X.base CX x ps k sp) (hr : RoomG k X.A) (hg : Gl X x) (hx : Passes CX X E)
    (ha : PA X (e :: es) t) (hdb : (x == ("__debug__" : Str)) = false := by decide)
    (he : starEach (e :: es) X.env = (false, eval e X.env) :: starEach es X.env := by rfl)
    (hpl : (backTo pos (starEach es X.env)).any (·.1) = false := by rfl) :
    PE X (.Call (.Name x p) (e :: es) [] pos) (tCall sp [] E t) := by
  obtain ⟨f, fd, ⟨hk, _⟩, hm, hb, F⟩ := F
  refine ⟨fun pins s σ H Q I h => wpAny_Call_Name_kw (ld_glob I hg hm ?_ hdb)⟩
  refine PySem.W.callWith_K (h₀ := X.base) I.ok.mod.kin hk (thn (ha.run pos pins s σ H _ I h) fun us s1 q => ?_) he hpl
  obtain ⟨vs, H1, I1, r, q⟩ := q
  rw [List.append_nil] at q
  exact ⟨I1.kIn, runG F hr hb hx I1 r q⟩
theorem pe_f0 (F : Has X.prog X.w X.K X.mg X.base CX x ps k sp) (hr : RoomG k X.A) (hg : Gl X x) (hx : Passes CX X E)
    (hdb : (x == ("__debug__" : Str)) = false := by decide) :
    PE X (.Call (.Name x p) [] [] pos) (tCall sp [] E tNil) := by
  obtain ⟨f, fd, ⟨hk, _⟩, hm, hb, F⟩ := F
  refine ⟨fun pins s σ H Q I h => wpAny_Call_Name_kw (ld_glob I hg hm ?_ hdb)⟩
  exact PySem.W.callWith_K0 I.kIn hk (runG (us := []) F hr hb hx I .nil h)

/-- repr of data -/
theorem call_reprD {k : Nat} (hr : RoomG k X.A) : CallR X (.builtin "repr") (fun xs H Q => ∃ a d, xs = [.ref a] ∧
    Dp X.K H (.ref a) d ∧ d.showable = true ∧ d.hasDict = false ∧ d.depth ≤ 100 ∧ d.shown.length ≤ sizeLine ∧
    Q (.str d.shown) H) := by
  intro pins s σ H xs us Q I r h
  obtain ⟨a, d, rfl, hd, h1, h2, h3, h4, q⟩ := h
  obtain ⟨u, rfl, r1⟩ := vals1 r
  cases (show u = Value.ref a from r1)
  obtain ⟨as, rd⟩ := Dp.reads I d _ _ hd r1
  have hu := hr.r.un
  refine repr_of_reads' rd h1 (PyData.noDict_hsm h2) hr.g (by omega) (fun _ _ e => e) (fun h' u tk hk => ?_) h4
  exact ⟨.str d.shown, H, I.kept hk, ⟨_, rfl⟩, q⟩
end
end Aw

/-! the end of a law by its def's promise -/
namespace Aw
open PySem PySem.Spec PyProof.Rows L2

def spLaw (K : PySem.W.Frag) : Sp := fun vs H Q _ => ∃ (a : Addr) (ns : List Int),
  vs = [.ref a] ∧ SqL K H a (ns.map V.int) ∧ ns.length ≤ 63 ∧ ∀ H', Q (.bl true) H'

theorem lawG_core {P : Program} {w : World} {K : PySem.W.Frag} {mg mb : Str → Option Value} {k : Nat} {fa a : Addr}
    {x : Str} {s : Shared} {vs : List Value} {ns : List Int} (KX : K.In s.heap) (hns : s.heap.Ns mainGlobals mg)
    (hb : s.heap.Ns builtinsNs mb) (hbb : ∀ x : Str, x ≠ "__name__" → mb x = bootBuiltins x)
    (hlim : s.heap.NoLimit) (hsm : ∃ mm, s.heap.Ns sysModules mm) (hg : s.gens = #[])
    (ha : s.heap.get? a = some { cls := .type "list", data := .seq vs.toArray }) (hl : ns.length ≤ 63)
    (hr : RoomG k callerA) (hfa : mg "law" = some (.ref fa))
    (F : ∀ base : Heap, K.In base → base.Ns mainGlobals mg → (∃ mm, base.Ns sysModules mm) → Has P w K mg base CX0 "law" [x] k (spLaw K))
    (H : Hp) (hO : Only H) (hS : SqL K H a (ns.map V.int)) (hok : HOk P w H s.heap) (hA : ∀ b, H b ≠ none → b = a)
    (hK : H a ≠ none → K.lookup a = none) :
    codeAny (model P w) callerA (.call (.ref fa) ⟨[.ref a], []⟩)
      (fun r s' => r = .ok (.ret (.bool true)) ∧ OldK s.heap s'.heap ∧ s'.os = s.os ∧ AllBare s'.gens) s := by
  have isA : ∀ {b : Addr} {u : HO}, H b = some u → b = a := fun {b u} q => hA b (by rw [q]; simp)
  have keepD : ∀ {b : Addr} {m : Str → Option Value}, s.heap.Ns b m → (hidT s.heap H).Ns b m := by
    rintro b m ⟨o, es, ep, e, d, r⟩
    refine ⟨o, es, ep, hidT_get e ?_, d, r⟩
    cases q : H b with
    | none => rfl
    | some u =>
      cases isA q
      rw [ha] at e
      cases e
      exact nomatch (show Data.seq vs.toArray _ = Data.dict es ep from d)
  have hKb : K.In (hidT s.heap H) := by
    intro b o e
    refine hidT_get (KX b o e) ?_
    cases q : H b with
    | none => rfl
    | some u =>
      cases isA q
      rw [hK (by rw [q]; simp)] at e
      cases e
  have hM : Mod K mg (hidT s.heap H) := by
    obtain ⟨mc, h1, h2⟩ := hlim
    exact ⟨hKb, keepD hns, ⟨mb, keepD hb, hbb⟩, ⟨mc, keepD h1, h2⟩⟩
  have e0 : Env0 P w K mg (hidT s.heap H) callerA [] s H := by
    refine ⟨rfl, hM, fun b o e => of_hidT e, Nat.le_of_eq (hidT_size _ _), trivial, fun b hb => ?_, hok, .of_eq hg⟩
    exact absurd (show b ∈ ([] : List Addr) from hb) (by simp)
  obtain ⟨f, fd, kp, m, bd, FN⟩ := F _ hKb (keepD hns) (hsm.elim fun mm h => ⟨mm, keepD h⟩)
  cases hfa.symm.trans m
  have bb := bd s [.ref a] KX rfl
  have hsp : spLaw K [.ref a] H (fun v _ => v = .bl true) (fun _ _ _ => False) := ⟨a, ns, rfl, hS, hl, fun _ => rfl⟩
  refine codeAny_mono (FN.run callerA [] s H ⟨[.ref a], []⟩ [.ref a] [.ref a] _ _ hr e0 bb (.cons rfl .nil) hsp) ?_
  intro r s' h
  match r, h with
  | .ok (.ret u), h =>
    obtain ⟨v, H', os, bare, un, hok', r', q⟩ := h
    cases (show v = .bl true from q)
    cases (show u = Value.bool true from r')
    refine ⟨rfl, OldK.of_keep fun b o e => ?_, os, bare⟩
    cases q : H b with
    | none => exact un.keep b o e q (fun z => absurd (show b ∈ ([] : List Addr) from z) (by simp)) (by simp)
    | some u =>
      rcases hO b with z | ⟨ob, xs, z⟩
      · rw [q] at z
        cases z
      · have e1 := (hok b _ z).1
        rw [e] at e1
        cases e1
        exact (hok' b _ (un.frzs b _ _ z)).1

theorem lawG {P : Program} {w : World} {K : PySem.W.Frag} {mg mb : Str → Option Value} {k : Nat} {fa a : Addr}
    {x : Str} {s : Shared} {vs : List Value} {ns : List Int} (KX : K.In s.heap) (hns : s.heap.Ns mainGlobals mg)
    (hb : s.heap.Ns builtinsNs mb) (hbb : ∀ x : Str, x ≠ "__name__" → mb x = bootBuiltins x)
    (hlim : s.heap.NoLimit) (hsm : ∃ mm, s.heap.Ns sysModules mm) (hg : s.gens = #[])
    (ha : s.heap.get? a = some { cls := .type "list", data := .seq vs.toArray }) (hi : IntsAre vs ns)
    (hl : ns.length ≤ 63) (hr : RoomG k callerA) (hfa : mg "law" = some (.ref fa))
    (F : ∀ base : Heap, K.In base → base.Ns mainGlobals mg → (∃ mm, base.Ns sysModules mm) → Has P w K mg base CX0 "law" [x] k (spLaw K)) :
    codeAny (model P w) callerA (.call (.ref fa) ⟨[.ref a], []⟩)
      (fun r s' => r = .ok (.ret (.bool true)) ∧ OldK s.heap s'.heap ∧ s'.os = s.os ∧ AllBare s'.gens) s := by
  have rv := vals_ints hi
  have h63 : (63 : Nat) ≤ sizeLine := by decide
  have lenV := hi.length
  have core := lawG_core KX hns hb hbb hlim hsm hg ha hl hr hfa F
  cases hk : K.lookup a with
  | some o =>
    have e := KX a o hk
    rw [ha] at e
    cases e
    refine core (fun _ => none) (fun _ => .inl rfl) (.inr ⟨_, vs.toArray, _, hk, rfl, rfl, rfl, ?_, by simpa using rv⟩)
      (fun b u z => nomatch (show (none : Option HO) = some u from z)) (fun b z => absurd rfl z) fun z => absurd rfl z
    rw [List.size_toArray, lenV]
    exact Nat.le_trans hl h63
  | none =>
    refine core (upd (fun _ => none) a (.frz { cls := .type "list", data := .seq vs.toArray } (.lst (ns.map V.int))))
      (fun b => ?_) (.inl (.inr ⟨_, upd_same⟩)) (fun b u z => ?_) (fun b z => ?_) fun _ => hk
    · by_cases hb : b = a
      · subst hb
        exact .inr ⟨_, _, upd_same⟩
      · exact .inl (upd_ne hb)
    · by_cases hb : b = a
      · subst hb
        rw [upd_same] at z
        cases z
        exact ⟨ha, by rw [List.length_map]; exact Nat.le_trans hl h63, vs, _, rv, ha⟩
      · rw [upd_ne hb] at z
        cases z
    · exact Classical.byContradiction fun hb => z (upd_ne hb)

theorem walkG {l : PySem.W.OpenLaw} {k : Nat} {q : Program} {loose : List Str}
    {XP : (Str → Option Value) → Heap → Prop} {YP : World → Heap → Prop} {d : DefRec} {K : Params → PySem.W.Frag}
    {x : Str} (hn : l.most = some 63) (hdf : d.params.defaults = []) (hnm : d.name = "law") (hr : RoomG k callerA)
    (hY : ∀ (w : World) (h : Heap), YP w h → (K w.params).In h)
    (F : ∀ (w : World) (mg : Str → Option Value) (h : Heap), (K w.params).In h → h.Ns mainGlobals mg →
      ∀ base : Heap, (K w.params).In base → base.Ns mainGlobals mg → (∃ mm, base.Ns sysModules mm) →
        Has l.prog w (K w.params) mg base CX0 "law" [x] k (spLaw (K w.params)))
    (hq : importsNone q = true) :
    PySem.W.WalkO q loose XP YP l.row.toRowW d [] (fun f vs => PySem.call f vs) := by
  refine Att.attach_call hn hdf fun w s₀ s₁ mg mb fa o pm cd doc a vs ns G Y ho hd hcd hmg hobj hints hlen hg => ?_
  have KX := hY w _ Y
  rw [hnm] at hmg
  exact lawG KX G.T.g G.T.b G.T.builtins G.T.nolimit ((G.T.seer hq).mods.imp fun _ h => h.1) hg hobj hints hlen hr hmg (F w mg _ KX G.T.g)
theorem df_mk {K : PySem.W.Frag} {h : Heap} {mg : Str → Option Value} {x : Str} {st : Stmt} {ps : List Str} {f : Addr}
    {oc kV doc pm cdv ct : Value} {od an : Option Addr} {osl : Array (Option Value)} (X : K.In h) (G : h.Ns mainGlobals mg)
    (a : PySem.W.nsIn K mainGlobals x = some (some (.ref f)))
    (l : K.lookup f = some ⟨oc, od, .func (PySem.W.fnOf x x (defArgs st) (defBody st) (defScope st) .none kV doc pm an cdv ct), osl⟩)
    (c : PySem.W.codeIn K cdv x = true) (k : PySem.W.keepIn K (.ref f) = true)
    (b : ∀ (kV doc pm : Value) (an : Option Addr) (cdv ct : Value) (us : List Value), us.length = ps.length →
      bindArgs (PySem.W.fnOf x x (defArgs st) (defBody st) (defScope st) .none kV doc pm an cdv ct) ⟨us, []⟩ = pure (ps.zip us)) :
    Df K mg x st ps := by
  have F := fun_mk (st := st) l c k
  exact ⟨f, _, F, PySem.W.mg_of X G a, F.binds b⟩
theorem gstr_mk {K : PySem.W.Frag} {h : Heap} {mg : Str → Option Value} {x z : Str} {t : Tok} (X : K.In h) (G : h.Ns mainGlobals mg)
    (a : PySem.W.nsIn K mainGlobals x = some (some (.str z t))) : ∃ t, mg x = some (.str z t) := ⟨t, PySem.W.mg_of X G a⟩
theorem gint_mk {K : PySem.W.Frag} {h : Heap} {mg : Str → Option Value} {x : Str} {z : Int} {t : Tok} (X : K.In h) (G : h.Ns mainGlobals mg)
    (a : PySem.W.nsIn K mainGlobals x = some (some (.int z t))) : ∃ t, mg x = some (.int z t) := ⟨t, PySem.W.mg_of X G a⟩
end Aw

/-! heaps: what is kept; data of tuples; the deck of a law; built-in names -/
namespace Aw
open PySem PySem.Spec L2

/-- names of built-ins that the top leaves alone -/
structure Blt (mg : Str → Option Value) : Prop where
  len : mg "len" = none
  int : mg "int" = none
  abs : mg "abs" = none
  str : mg "str" = none
  bool : mg "bool" = none
  range : mg "range" = none
  isinstance : mg "isinstance" = none
  tuple : mg "tuple" = none
  list : mg "list" = none
  repr : mg "repr" = none
  zip : mg "zip" = none
  enumerate : mg "enumerate" = none
  sum : mg "sum" = none
  min : mg "min" = none
  max : mg "max" = none
  all : mg "all" = none
  any : mg "any" = none
  sorted : mg "sorted" = none
  dict : mg "dict" = none

/-- what may be written -/
def Mut : HO → Prop
  | .tup _ => False
  | .frz _ _ => False
  | _ => True
/-- all but what stands at M is kept -/
def Kp (M : List Addr) (H H' : Hp) : Prop :=
  ∀ b o, H b = some o → (b ∈ M → Mut o) ∧ (b ∉ M → H' b = some o)
/-- lists stand at M -/
def Ls (M : List Addr) (H : Hp) : Prop := ∀ b ∈ M, ∃ xs, H b = some (.lst xs)
theorem Kp.refl {M : List Addr} {H : Hp} (h : Ls M H) : Kp M H H := fun b o e => ⟨fun m => by
  obtain ⟨xs, q⟩ := h b m
  rw [e] at q
  cases q
  trivial, fun _ => e⟩
/-- what may be written stands at M -/
def Ms (M : List Addr) (H : Hp) : Prop := ∀ b ∈ M, ∃ o, H b = some o ∧ Mut o
theorem Kp.reflM {M : List Addr} {H : Hp} (h : Ms M H) : Kp M H H := fun b o e => ⟨fun m => by
  obtain ⟨o', q, z⟩ := h b m
  rw [e] at q
  cases q
  exact z, fun _ => e⟩
theorem Ms.nil {H : Hp} : Ms [] H := fun b m => by cases m
theorem Ms.cons {M : List Addr} {H : Hp} {a : Addr} {o : HO} (e : H a = some o) (z : Mut o) (h : Ms M H) : Ms (a :: M) H := fun b m => by
  rcases List.mem_cons.mp m with rfl | m
  · exact ⟨o, e, z⟩
  · exact h b m
theorem Kp.nil {H : Hp} : Kp [] H H := fun b o e => ⟨fun m => (by cases m), fun _ => e⟩
theorem Kp.trans {M : List Addr} {H H1 H2 : Hp} (a : Kp M H H1) (b : Kp M H1 H2) : Kp M H H2 := fun c o e =>
  ⟨(a c o e).1, fun n => (b c o ((a c o e).2 n)).2 n⟩
theorem Kp.sub {M M' : List Addr} {H H1 : Hp} (a : Kp M H H1) (h : Ls M' H) (s : ∀ b ∈ M, b ∈ M') : Kp M' H H1 := fun c o e =>
  ⟨fun m => by
    obtain ⟨xs, q⟩ := h c m
    rw [e] at q
    cases q
    trivial, fun n => (a c o e).2 fun m => n (s c m)⟩
theorem Kp.subM {M M' : List Addr} {H H1 : Hp} (a : Kp M H H1) (h : Ms M' H) (s : ∀ b ∈ M, b ∈ M') : Kp M' H H1 := fun c o e =>
  ⟨fun m => by
    obtain ⟨o', q, z⟩ := h c m
    rw [e] at q
    cases q
    exact z, fun n => (a c o e).2 fun m => n (s c m)⟩
theorem Kp.same {H H1 : Hp} (a : Kp [] H H1) : Same H H1 := fun b o e => (a b o e).2 (by simp)
theorem Kp.of {H H1 : Hp} (a : Same H H1) : Kp [] H H1 := fun b o e => ⟨fun m => (by cases m), fun _ => a b o e⟩
theorem Kp.get {M : List Addr} {H H1 : Hp} {b : Addr} {o : HO} (a : Kp M H H1) (e : H b = some o) (n : b ∉ M) : H1 b = some o := (a b o e).2 n
theorem Kp.tup {M : List Addr} {H H1 : Hp} {b : Addr} {xs : List V} (a : Kp M H H1) (e : H b = some (.tup xs)) : H1 b = some (.tup xs) :=
  (a b _ e).2 fun m => (a b _ e).1 m
/-- a new object -/
theorem Kp.new {M : List Addr} {H H1 : Hp} {p : Addr} {o : HO} (a : Kp M H H1) (n : H1 p = none) : Kp M H (upd H1 p o) := fun b u e =>
  ⟨(a b u e).1, fun m => by
    have q := (a b u e).2 m
    rw [upd_ne (ne_of_none q n)]
    exact q⟩
theorem same_new {H : Hp} {p : Addr} {o : HO} (n : H p = none) : Same H (upd H p o) := fun b u e => by
  rw [upd_ne (ne_of_none e n)]
  exact e
/-- a write at M -/
theorem Kp.write {M : List Addr} {H H1 : Hp} {p : Addr} {o : HO} (a : Kp M H H1) (m : p ∈ M) : Kp M H (upd H1 p o) := fun b u e =>
  ⟨(a b u e).1, fun n => by
    have q := (a b u e).2 n
    rw [upd_ne (fun z : b = p => n (by rw [z]; exact m))]
    exact q⟩
/-- what was not there ahead may be written -/
theorem Kp.own {M : List Addr} {H H1 : Hp} {p : Addr} {o : HO} (a : Kp M H H1) (n : H p = none) : Kp M H (upd H1 p o) := fun b u e =>
  ⟨(a b u e).1, fun m => by
    rw [upd_ne (ne_of_none e n)]
    exact (a b u e).2 m⟩
theorem Kp.free {M : List Addr} {H H1 : Hp} {p : Addr} (a : Kp M H H1) (l : Ls M H1) (n : H1 p = none) : H p = none := by
  cases q : H p with
  | none => rfl
  | some o =>
    by_cases m : p ∈ M
    · obtain ⟨xs, z⟩ := l p m
      rw [n] at z
      cases z
    · rw [(a p o q).2 m] at n
      cases n

theorem Kp.freeM {M : List Addr} {H H1 : Hp} {p : Addr} (a : Kp M H H1) (l : Ms M H1) (n : H1 p = none) : H p = none := by
  cases q : H p with
  | none => rfl
  | some o =>
    by_cases m : p ∈ M
    · obtain ⟨o', z, _⟩ := l p m
      rw [n] at z
      cases z
    · rw [(a p o q).2 m] at n
      cases n
theorem sqT_kp {K : PySem.W.Frag} {M : List Addr} {H H1 : Hp} {b : Addr} {xs : List V} (a : Kp M H H1) (h : SqT K H b xs) : SqT K H1 b xs := by
  rcases h with (h | ⟨o, h⟩) | h
  · exact .inl (.inl (a.tup h))
  · exact .inl (.inr ⟨o, (a b _ h).2 fun m => (a b _ h).1 m⟩)
  · exact .inr h

theorem sqL_kp {K : PySem.W.Frag} {M : List Addr} {H H1 : Hp} {b : Addr} {xs : List V} (a : Kp M H H1) (n : b ∉ M) (h : SqL K H b xs) : SqL K H1 b xs := by
  rcases h with (h | ⟨o, h⟩) | h
  · exact .inl (.inl (a.get h n))
  · exact .inl (.inr ⟨o, a.get h n⟩)
  · exact .inr h

/-- data without lists -/
inductive Dt (K : PySem.W.Frag) (H : Hp) : V → PyData → Prop
  | non : Dt K H .non .none
  | bl (b : Bool) : Dt K H (.bl b) (.bool b)
  | int (i : Int) : Dt K H (.int i) (.int i)
  | str (x : Str) : Dt K H (.str x) (.str x)
  | tup {a : Addr} {xs : List V} {ds : List PyData} : SqT K H a xs → xs.length = ds.length →
      (∀ (i : Nat) (v : V) (d : PyData), xs[i]? = some v → ds[i]? = some d → Dt K H v d) → Dt K H (.ref a) (.tuple ds)
theorem Dt.kp {K : PySem.W.Frag} {M : List Addr} {H H1 : Hp} {v : V} {d : PyData} (a : Kp M H H1) (h : Dt K H v d) : Dt K H1 v d := by
  induction h with
  | non => exact .non
  | bl b => exact .bl b
  | int i => exact .int i
  | str x => exact .str x
  | tup s l _ ih => exact .tup (sqT_kp a s) l ih
theorem Dt.dp {K : PySem.W.Frag} {H : Hp} {v : V} {d : PyData} (h : Dt K H v d) : Dp K H v d := by
  induction h with
  | non => exact .non
  | bl b => exact .bl b
  | int i => exact .int i
  | str x => exact .str x
  | @tup a xs ds s l _ ih =>
    refine .tup s ?_
    clear s
    induction xs generalizing ds with
    | nil =>
      cases ds with
      | nil => exact .nil
      | cons d ds => cases l
    | cons x xs ihx =>
      cases ds with
      | nil => cases l
      | cons d ds =>
        refine .cons (ih 0 x d rfl rfl) (ihx (by simpa using l) (fun i => ?_) fun i => ?_)
        · rename_i q
          exact q (i + 1)
        · exact ih (i + 1)

/-! ### the deck of a law -/
structure Deck (H : Hp) (d c : Addr) (n : Int) : Prop where
  hd : H d = some (.lst [.ref c, .int n])
  hc : ∃ cs : List Int, H c = some (.lst (cs.map V.int)) ∧ (∀ x ∈ cs, 0 ≤ x) ∧ cs.length ≤ 63
  ne : d ≠ c
  n0 : 0 ≤ n
theorem Deck.ls {H : Hp} {d c : Addr} {n : Int} (D : Deck H d c n) : Ls [d, c] H := by
  intro b m
  rcases List.mem_cons.mp m with rfl | m
  · exact ⟨_, D.hd⟩
  · obtain ⟨cs, h, _⟩ := D.hc
    rw [List.mem_singleton.mp m]
    exact ⟨_, h⟩
theorem Deck.ls3 {H : Hp} {d c l : Addr} {n : Int} {xs : List V} (D : Deck H d c n) (h : H l = some (.lst xs)) : Ls [d, c, l] H := by
  intro b m
  rcases List.mem_cons.mp m with rfl | m
  · exact ⟨_, D.hd⟩
  rcases List.mem_cons.mp m with rfl | m
  · obtain ⟨cs, h, _⟩ := D.hc
    exact ⟨_, h⟩
  · rw [List.mem_singleton.mp m]
    exact ⟨_, h⟩
theorem Deck.fresh {H : Hp} {d c p : Addr} {n : Int} (D : Deck H d c n) (h : H p = none) : p ≠ d ∧ p ≠ c := by
  obtain ⟨cs, hc, _⟩ := D.hc
  exact ⟨Ne.symm (ne_of_none D.hd h), Ne.symm (ne_of_none hc h)⟩
theorem Deck.kp {M : List Addr} {H H1 : Hp} {d c : Addr} {n : Int} (D : Deck H d c n) (k : Kp M H H1) (hd : d ∉ M) (hc : c ∉ M) : Deck H1 d c n := by
  obtain ⟨cs, h, a, b⟩ := D.hc
  exact ⟨k.get D.hd hd, ⟨cs, k.get h hc, a, b⟩, D.ne, D.n0⟩

/-- a draw -/
def spDraw : Sp := fun vs H Q _ => ∃ (d c : Addr) (n m : Int), vs = [.ref d, .int m] ∧ Deck H d c n ∧ n < 10 ^ 12 ∧ 1 ≤ m ∧ m < 2 ^ 30 ∧
  ∀ (H' : Hp) (r : Int), 0 ≤ r → r < m → Deck H' d c (n + 1) → Kp [d, c] H H' → Q (.int r) H'
theorem spDraw.use {H : Hp} {Q : VK} {E : XK} {d c : Addr} {n m : Int} (D : Deck H d c n) (hn : n < 10 ^ 12) (h1 : 1 ≤ m) (h2 : m < 2 ^ 30)
    (k : ∀ (H' : Hp) (r : Int), 0 ≤ r → r < m → Deck H' d c (n + 1) → Kp [d, c] H H' → Q (.int r) H') : spDraw [.ref d, .int m] H Q E :=
  ⟨d, c, n, m, rfl, D, hn, h1, h2, k⟩
/-- the deck is made -/
def spDeck (K : PySem.W.Frag) : Sp := fun vs H Q _ => ∃ (a : Addr) (ns : List Int), vs = [.ref a] ∧ SqL K H a (ns.map V.int) ∧ ns.length ≤ 63 ∧
  ∀ (H' : Hp) (d c : Addr), H d = none → H c = none → Deck H' d c 0 → Kp [] H H' → Q (.ref d) H'
/-- one of the items of a list, of a text -/
def spOneL (K : PySem.W.Frag) : Sp := fun vs H Q _ => ∃ (d c a : Addr) (n : Int) (xs : List V), vs = [.ref d, .ref a] ∧ Deck H d c n ∧ n < 10 ^ 12 ∧ SqL K H a xs ∧ a ≠ d ∧ a ≠ c ∧
  1 ≤ xs.length ∧ xs.length < 2 ^ 30 ∧ ∀ (H' : Hp) (i : Nat) (x : V), xs[i]? = some x → Deck H' d c (n + 1) → Kp [d, c] H H' → Q x H'
def spOneS : Sp := fun vs H Q _ => ∃ (d c : Addr) (n : Int) (z : Str), vs = [.ref d, .str z] ∧ Deck H d c n ∧ n < 10 ^ 12 ∧
  1 ≤ z.length ∧ z.length ≤ 1000 ∧ ∀ (H' : Hp) (k : Nat), k ∈ z.cps.toList → Deck H' d c (n + 1) → Kp [d, c] H H' → Q (.str ⟨#[k]⟩) H'
def spOne (K : PySem.W.Frag) : Sp := fun vs H Q E => spOneL K vs H Q E ∨ spOneS vs H Q E
theorem spOne.list {K : PySem.W.Frag} {H : Hp} {Q : VK} {E : XK} {d c a : Addr} {n : Int} {xs : List V} (D : Deck H d c n) (hn : n < 10 ^ 12) (s : SqL K H a xs) (h1 : a ≠ d) (h2 : a ≠ c)
    (h3 : 1 ≤ xs.length) (h4 : xs.length < 2 ^ 30) (k : ∀ (H' : Hp) (i : Nat) (x : V), xs[i]? = some x → Deck H' d c (n + 1) → Kp [d, c] H H' → Q x H') : spOne K [.ref d, .ref a] H Q E :=
  .inl ⟨d, c, a, n, xs, rfl, D, hn, s, h1, h2, h3, h4, k⟩
theorem spOne.text {K : PySem.W.Frag} {H : Hp} {Q : VK} {E : XK} {d c : Addr} {n : Int} {z : Str} (D : Deck H d c n) (hn : n < 10 ^ 12) (h3 : 1 ≤ z.length) (h4 : z.length ≤ 1000)
    (k : ∀ (H' : Hp) (i : Nat), i ∈ z.cps.toList → Deck H' d c (n + 1) → Kp [d, c] H H' → Q (.str ⟨#[i]⟩) H') : spOne K [.ref d, .str z] H Q E :=
  .inr ⟨d, c, n, z, rfl, D, hn, h3, h4, k⟩
end Aw

/-! readings, one step each; named readings of calls -/
namespace Aw
open PySem PySem.Spec L2

section
variable {σ : L2.St} {H : Hp} {D : Ends} {Q : VK} {v x y : V} {i j : Nat} {t u : TS} {te ta tb tc : TE} {tt tu : TT} {ts : TA} {g : TG} {gs : TGs}

/-! ### statements -/
theorem r_seq (h : t { D with nx := u D } σ H) : tSeq t u D σ H := h
theorem r_next (h : D.nx σ H) : tNext D σ H := h
theorem r_asg (h : te σ H fun x H1 => g x σ H1 D.nx) : tAsg te g D σ H := h
theorem r_name {R : L2.St → Hp → Prop} (h : R (σ.set i (some v)) H) : gName i v σ H R := h
theorem r_sub {to ti : TE} {w : TSet} {R : L2.St → Hp → Prop} (h : to σ H fun o H1 => ti σ H1 fun i H2 => w o i v H2 fun H3 => R σ H3) : gSub to ti w v σ H R := h
theorem r_gtup {K : PySem.W.Frag} {n : Nat} {a : Addr} {xs : List V} {R : L2.St → Hp → Prop} (h : SqT K H a xs) (l : xs.length = n) (q : gs xs σ H R) : gTup K n gs (.ref a) σ H R := ⟨a, xs, rfl, h, l, q⟩
theorem r_gcons {R : L2.St → Hp → Prop} {xs : List V} (h : g x σ H fun σ' H' => gs xs σ' H' R) : gCons g gs (x :: xs) σ H R := ⟨x, xs, rfl, h⟩
theorem r_gnil {R : L2.St → Hp → Prop} (h : R σ H) : gNil [] σ H R := ⟨rfl, h⟩
theorem r_ifS (h : tt σ H fun b H1 => if b = true then t D σ H1 else u D σ H1) : tIfS tt t u D σ H := h
theorem r_ret (h : te σ H D.rt) : tRet te D σ H := h
theorem r_retN (h : D.rt .non H) : tRetN D σ H := h
theorem r_drop (h : te σ H fun _ H1 => D.nx σ H1) : tDrop te D σ H := h
theorem r_par (h : ts σ H fun vs H1 => ∃ v w, vs = [v, w] ∧ D.nx ((σ.set i (some v)).set j (some w)) H1) : tPar i j ts D σ H := h
theorem r_two {R : V → V → Prop} (h : R x y) : ∃ v w, [x, y] = [v, w] ∧ R v w := ⟨x, y, rfl, h⟩
theorem r_par3 {l : Nat} (h : ts σ H fun vs H1 => ∃ u v w, vs = [u, v, w] ∧ D.nx (((σ.set i (some u)).set j (some v)).set l (some w)) H1) : tPar3 i j l ts D σ H := h
theorem r_three {R : V → V → V → Prop} {z : V} (h : R x y z) : ∃ u v w, [x, y, z] = [u, v, w] ∧ R u v w := ⟨x, y, z, rfl, h⟩
theorem r_aug {ti : TIp} (e : σ[i]? = some (some x)) (h : te σ H fun y H1 => ti x y H1 fun z H2 => D.nx (σ.set i (some z)) H2) : tAug i te ti D σ H := ⟨x, e, h⟩
theorem r_ipI {f : Int → Int → Int} {a b : Int} (h : Q (.int (f a b)) H) : ipI f (.int a) (.int b) H Q := ⟨a, b, rfl, rfl, h⟩

/-! ### expressions -/
theorem r_var (e : σ[i]? = some (some v)) (h : Q v H) : tVar i σ H Q := ⟨v, e, h⟩
theorem r_C (h : Q v H) : tC v σ H Q := h
theorem r_op {r : R2} (h : ta σ H fun x H1 => tb σ H1 fun y H2 => r x y H2 Q) : tOp r ta tb σ H Q := h
theorem r_un {r : V → Hp → VK → Prop} (h : ta σ H fun x H1 => r x H1 Q) : tUn r ta σ H Q := h
theorem r_I0 {f : Int → Int → V} {a b : Int} (h : Q (f a b) H) : rI0 f (.int a) (.int b) H Q := ⟨a, b, rfl, rfl, h⟩
theorem r_I {C : Int → Int → Prop} {f : Int → Int → V} {a b : Int} (h : Q (f a b) H) (c : C a b) : rI C f (.int a) (.int b) H Q := ⟨a, b, rfl, rfl, c, h⟩
theorem r_U {f : Int → V} {a : Int} (h : Q (f a) H) : rU f (.int a) H Q := ⟨a, rfl, h⟩
theorem r_tup (h : ts σ H fun xs H1 => xs.length ≤ sizeLine ∧ ∀ p, H1 p = none → Q (.ref p) (upd H1 p (.tup xs))) : tTup ts σ H Q := h
theorem r_lst (h : ts σ H fun xs H1 => xs.length ≤ sizeLine ∧ ∀ p, H1 p = none → Q (.ref p) (upd H1 p (.lst xs))) : tLst ts σ H Q := h
theorem r_nil {R : List V → Hp → Prop} (h : R [] H) : tNil σ H R := h
theorem r_cons {R : List V → Hp → Prop} (h : te σ H fun x H1 => ts σ H1 fun xs H2 => R (x :: xs) H2) : tCons te ts σ H R := h
theorem r_call {sp : Sp} {E : XK} (h : ts σ H fun vs H1 => sp (vs ++ []) H1 Q E) : tCall sp [] E ts σ H Q := h
theorem r_CB {r : List V → Hp → VK → Prop} (h : ts σ H fun vs H1 => r vs H1 Q) : tCB r ts σ H Q := h
theorem r_BM {K : PySem.W.Frag} {T : String} {r : V → List V → Hp → VK → Prop} {to : TE} (h : to σ H fun x H1 => tyV K T x H1 ∧ ts σ H1 fun xs H2 => r x xs H2 Q) : tBM K T r to ts σ H Q := h
theorem r_BM0 {K : PySem.W.Frag} {T : String} {r : V → List V → Hp → VK → Prop} {to : TE} (h : to σ H fun x H1 => tyV K T x H1 ∧ r x [] H1 Q) : tBM0 K T r to σ H Q := h
theorem r_tyL {K : PySem.W.Frag} {a : Addr} {xs : List V} {R : Prop} (h : H a = some (.lst xs)) (q : R) : tyV K "list" (.ref a) H ∧ R := ⟨.inl ⟨rfl, _, SqL.of h⟩, q⟩
theorem r_M1 {r : V → List V → Hp → VK → Prop} {to : TE} (h : to σ H fun x H1 => (∃ a, x = .str a) ∧ te σ H1 fun y H2 => r x [y] H2 Q) : tM1 r to te σ H Q := h
theorem r_isS {z : Str} {R : Prop} (h : R) : (∃ a, V.str z = .str a) ∧ R := ⟨⟨z, rfl⟩, h⟩
theorem r_if (h : tt σ H fun c H1 => if c = true then ta σ H1 Q else tb σ H1 Q) : tIf tt ta tb σ H Q := h

/-- both ways of a conditional expression meet -/
theorem r_ifJ (R : V → Hp → Prop) (h : ∀ Q' : VK, (∀ x H', R x H' → Q' x H') → tIf tt ta tb σ H Q') (k : ∀ x H', R x H' → Q x H') : tIf tt ta tb σ H Q := h Q k
/-- the ways of a statement meet -/
theorem r_seqJ (R : L2.St → Hp → Prop) (h : ∀ nx' : L2.St → Hp → Prop, (∀ σ' H', R σ' H' → nx' σ' H') → t { D with nx := nx' } σ H) (k : ∀ σ' H', R σ' H' → u D σ' H') : tSeq t u D σ H := h (u D) k

/-! ### tests -/
def Bl (R : Bool → Hp → Prop) : V → Hp → Prop := fun x H => ∃ k, x = .bl k ∧ R k H
theorem r_bl {R : Bool → Hp → Prop} {b : Bool} (h : R b H) : Bl R (.bl b) H := ⟨b, rfl, h⟩
theorem r_test {R : Bool → Hp → Prop} (h : te σ H (Bl R)) : tTest te σ H R := h
theorem r_B {R : Bool → Hp → Prop} (h : te σ H (Bl R)) : tB te σ H R := h
theorem r_and {R : Bool → Hp → Prop} (h : tt σ H fun c H1 => if c = true then tu σ H1 R else R false H1) : tAnd tt tu σ H R := h
theorem r_or {R : Bool → Hp → Prop} (h : tt σ H fun c H1 => if c = true then R true H1 else tu σ H1 R) : tOr tt tu σ H R := h
theorem r_orP {R : Bool → Hp → Prop} {p q : Bool} (h1 : ∀ R' : Bool → Hp → Prop, R' p H → tt σ H R') (h2 : ∀ R' : Bool → Hp → Prop, R' q H → tu σ H R') (h : R (p || q) H) : tOr tt tu σ H R := by
  refine h1 _ ?_
  cases p with
  | true => exact iteT h
  | false => exact iteF (h2 _ h)
theorem r_andP {R : Bool → Hp → Prop} {p q : Bool} (h1 : ∀ R' : Bool → Hp → Prop, R' p H → tt σ H R') (h2 : ∀ R' : Bool → Hp → Prop, R' q H → tu σ H R') (h : R (p && q) H) : tAnd tt tu σ H R := by
  refine h1 _ ?_
  cases p with
  | true => exact iteT (h2 _ h)
  | false => exact iteF h
theorem r_not {R : Bool → Hp → Prop} (h : tt σ H fun c H1 => R (!c) H1) : tNot tt σ H R := h
theorem r_andV (h : ta σ H (Bl fun c H1 => if c = true then tb σ H1 Q else Q (.bl false) H1)) : tAndV ta tb σ H Q := h
theorem r_orV (h : ta σ H (Bl fun c H1 => if c = true then Q (.bl true) H1 else tb σ H1 Q)) : tOrV ta tb σ H Q := h
theorem r_notV (h : ta σ H (Bl fun c H1 => Q (.bl (!c)) H1)) : tNotV ta σ H Q := h
theorem r_chain {r r' : R2} (h : ta σ H fun x H1 => tb σ H1 fun y H2 => r x y H2 (Bl fun k H3 => if k = true then tc σ H3 fun w' H4 => r' y w' H4 Q else Q (.bl false) H3)) : tChain r r' ta tb tc σ H Q := h
theorem r_eq (s : scal x y = true) (h : Q (.bl (decide (x = y))) H) : rEq x y H Q := ⟨s, h⟩
theorem r_ne (s : scal x y = true) (h : Q (.bl (!decide (x = y))) H) : rNe x y H Q := ⟨s, h⟩
theorem r_eqT (e : x = y) (s : scal x y = true) (h : Q (.bl true) H) : rEq x y H Q := ⟨s, by rw [decide_eq_true e]; exact h⟩
theorem r_eqF (e : x ≠ y) (s : scal x y = true) (h : Q (.bl false) H) : rEq x y H Q := ⟨s, by rw [decide_eq_false e]; exact h⟩
theorem r_neT (e : x ≠ y) (s : scal x y = true) (h : Q (.bl true) H) : rNe x y H Q := ⟨s, by rw [decide_eq_false e]; exact h⟩
theorem r_neF (e : x = y) (s : scal x y = true) (h : Q (.bl false) H) : rNe x y H Q := ⟨s, by rw [decide_eq_true e]; exact h⟩
theorem ifd {p A B : Prop} [Decidable p] (h1 : p → A) (h2 : ¬ p → B) : if decide p = true then A else B :=
  ite2 (fun c => h1 (of_decide_eq_true c)) fun c => h2 fun q => c (decide_eq_true q)
theorem ifn {p A B : Prop} [Decidable p] (h1 : ¬ p → A) (h2 : p → B) : if (!decide p) = true then A else B := by
  by_cases h : p
  · rw [decide_eq_true h]
    exact iteF (h2 h)
  · rw [decide_eq_false h]
    exact iteT (h1 h)
theorem ifT {A B : Prop} (h : A) : if true = true then A else B := iteT h
theorem ifF {A B : Prop} (h : B) : if false = true then A else B := iteF h
theorem ifnT {A B : Prop} (h : B) : if (!true) = true then A else B := iteF h
theorem ifnF {A B : Prop} (h : A) : if (!false) = true then A else B := iteT h

theorem c_pow {i j : Int} (h : i.natAbs < 2 ^ 64) (h1 : 0 ≤ j) (h2 : j ≤ 1000000) : CPow i j := ⟨h1, h2, h⟩
theorem c_div {i j : Int} (h : 0 < j) (h1 : j < 1073741824) : CDiv i j := ⟨h, h1⟩
theorem c_mulL {i j : Int} (h : -(2 ^ 64) < i) (h1 : i < 2 ^ 64) : CMul i j := .inl ⟨h, h1⟩
theorem c_mulR {i j : Int} (h : -(2 ^ 64) < j) (h1 : j < 2 ^ 64) : CMul i j := .inr ⟨h, h1⟩

def rAddS : R2 := fun x y H Q => ∃ i j, x = .str i ∧ y = .str j ∧ i.length + j.length ≤ sizeLine ∧ Q (.str (i ++ j)) H
theorem op_addS {X : Cx} : OpR X (binaryOp .Add) rAddS := op_add_str
theorem r_addS {a b : Str} (h : Q (.str (a ++ b)) H) (l : a.length + b.length ≤ sizeLine) : rAddS (.str a) (.str b) H Q := ⟨a, b, rfl, rfl, l, h⟩

/-! ### subscripts -/
theorem r_ixL {K : PySem.W.Frag} {a : Addr} {xs : List V} {k : Int} (h : SqL K H a xs) (e : atI xs k = some v) (q : Q v H) : rIxL K (.ref a) (.int k) H Q := ⟨a, xs, k, v, rfl, rfl, h, e, q⟩
theorem r_ixT {K : PySem.W.Frag} {a : Addr} {xs : List V} {k : Int} (h : SqT K H a xs) (e : atI xs k = some v) (q : Q v H) : rIxT K (.ref a) (.int k) H Q := ⟨a, xs, k, v, rfl, rfl, h, e, q⟩
theorem r_ixS {z : Str} {k : Int} {c : Nat} (l : z.length ≤ sizeLine) (e : atI z.cps.toList k = some c) (q : Q (.str ⟨#[c]⟩) H) : rIxS (.str z) (.int k) H Q := ⟨z, k, c, rfl, rfl, l, e, q⟩
theorem r_ixD {K : PySem.W.Frag} {w : World} {a : Addr} {z : Str} (h : KDct K w a z v) (q : Q v H) : rIxD K w (.ref a) (.str z) H Q := ⟨a, z, v, rfl, rfl, h, q⟩
theorem r_setL {R : Hp → Prop} {a : Addr} {xs : List V} {k : Int} {m : Nat} (h : H a = some (.lst xs)) (e : ixN xs.length k = some m) (q : R (upd H a (.lst (xs.set m v)))) : rSetL (.ref a) (.int k) v H R := ⟨a, xs, k, m, rfl, rfl, h, e, q⟩
theorem r_append {a : Addr} {xs : List V} (h : H a = some (.lst xs)) (q : Q .non (upd H a (.lst (xs ++ [x])))) (l : xs.length < sizeLine) : rAppend (.ref a) [x] H Q := ⟨a, xs, x, rfl, rfl, h, l, q⟩
theorem r_extend {a b : Addr} {xs zs : List V} (h : H a = some (.lst xs)) (h2 : H b = some (.lst zs)) (q : Q .non (upd H a (.lst (xs ++ zs)))) (l : xs.length + zs.length ≤ sizeLine) : rExtend (.ref a) [.ref b] H Q := ⟨a, b, xs, zs, rfl, rfl, h, h2, l, q⟩
theorem r_cat {a b : Addr} {xs zs : List V} (h : H a = some (.lst xs)) (h2 : H b = some (.lst zs)) (l : xs.length + zs.length ≤ sizeLine) (q : ∀ p, H p = none → Q (.ref p) (upd H p (.lst (xs ++ zs)))) : rCat (.ref a) (.ref b) H Q := ⟨a, b, xs, zs, rfl, rfl, h, h2, l, q⟩
theorem r_eqD {K : PySem.W.Frag} {d e : PyData} (h1 : Dp K H x d) (h2 : Dp K H y e) (s1 : SeqAt.shaped d = true) (s2 : SeqAt.shaped e = true) (q : Q (.bl (PyData.eqv d e)) H) : rEqD K x y H Q := ⟨d, e, h1, h2, s1, s2, q⟩
theorem r_neD {K : PySem.W.Frag} {d e : PyData} (h1 : Dp K H x d) (h2 : Dp K H y e) (s1 : SeqAt.shaped d = true) (s2 : SeqAt.shaped e = true) (q : Q (.bl (!PyData.eqv d e)) H) : rNeD K x y H Q := ⟨d, e, h1, h2, s1, s2, q⟩

theorem at_nn {α : Type} {xs : List α} {r : Int} {v : α} (h0 : 0 ≤ r) (h : xs[r.toNat]? = some v) : atI xs r = some v := by
  have q := atI_nat h
  rw [Int.toNat_of_nonneg h0] at q
  exact q
theorem ix_nn {n : Nat} {r : Int} (h0 : 0 ≤ r) (h : r < n) : ixN n r = some r.toNat := by
  unfold ixN
  rw [if_pos h0, if_pos h]

/-! ### slices -/
theorem r_sl {r : V → Option Int → Option Int → Hp → VK → Prop} {tl th : TO} (h : te σ H fun x H1 => tl σ H1 fun l H2 => th σ H2 fun u H3 => r x l u H3 Q) : tSl r te tl th σ H Q := h
theorem r_noPart {R : Option Int → Hp → Prop} (h : R none H) : tNoPart σ H R := h
def PartI (R : Option Int → Hp → Prop) : V → Hp → Prop := fun x H1 => ∃ i, x = .int i ∧ R (some i) H1
theorem r_part {R : Option Int → Hp → Prop} (h : te σ H (PartI R)) : tPart te σ H R := h
theorem r_partI {R : Option Int → Hp → Prop} {k : Int} (h : R (some k) H) : PartI R (.int k) H := ⟨k, rfl, h⟩
theorem r_slL {K : PySem.W.Frag} {a : Addr} {xs : List V} {lo hi : Option Int} (s : SqL K H a xs) (h : ∀ p, H p = none → Q (.ref p) (upd H p (.lst (cutV xs lo hi)))) : rSlL K (.ref a) lo hi H Q := ⟨a, xs, rfl, s, h⟩
theorem r_slS {z : Str} {lo hi : Option Int} (h : Q (.str (cutS z lo hi)) H) (l : z.length ≤ sizeLine) : rSlS (.str z) lo hi H Q := ⟨z, rfl, l, h⟩
theorem cutV_map {α : Type} (f : α → V) (xs : List α) (lo hi : Option Int) : ∃ ys : List α, cutV (xs.map f) lo hi = ys.map f ∧ ys.length ≤ xs.length ∧ ∀ y ∈ ys, y ∈ xs := by
  unfold cutV
  rw [List.length_map, ← List.map_drop, ← List.map_take]
  refine ⟨_, rfl, ?_, fun y hy => List.mem_of_mem_drop (List.mem_of_mem_take hy)⟩
  rw [List.length_take, List.length_drop]
  omega

/-! ### dicts -/
theorem r_pnil {R : List (V × V) → Hp → Prop} (h : R [] H) : tPairs [] σ H R := h
theorem r_pcons {R : List (V × V) → Hp → Prop} {tk tv : TE} {r : List (TE × TE)} (h : tk σ H fun x H1 => tv σ H1 fun y H2 => tPairs r σ H2 fun ps H3 => R ((x, y) :: ps) H3) : tPairs ((tk, tv) :: r) σ H R := h
def DG (Q : VK) : V → V → Hp → Prop := fun x y H2 => ∃ a v, x = .ref a ∧ DGet H2 a y (some v) ∧ Q v H2
theorem r_dget {td ty : TE} (h : td σ H fun x H1 => ty σ H1 fun y H2 => DG Q x y H2) : tDGet td ty σ H Q := h
theorem r_DG {a : Addr} (h : DGet H a y (some v)) (q : Q v H) : DG Q (.ref a) y H := ⟨a, v, rfl, h, q⟩
theorem dget_k {a : Addr} {kvs : List (Key × V)} {z : Str} (e : H a = some (.dK kvs)) (q : valV kvs (Sum.inr z) = some v) : DGet H a (.str z) (some v) := by
  have h := DGet.k (k := Sum.inr z) e
  rw [q] at h
  exact h
theorem dget_i {a : Addr} {kvs : List (Key × V)} {z : Int} (e : H a = some (.dK kvs)) (q : valV kvs (Sum.inl z) = some v) : DGet H a (.int z) (some v) := by
  have h := DGet.k (k := Sum.inl z) e
  rw [q] at h
  exact h

/-! ### loops -/
/-- the turns of a walk -/
def Turns (J : It) (g : TG) (tb : TS) (D : Ends) (σ : L2.St) (H1 : Hp) : Prop := ∃ W : Nat → Nat → L2.St → Hp → Prop, (∃ m, W 0 m σ H1) ∧ ∀ i m σ H, W i m σ H →
  (J.stop i H ∧ D.nx σ H) ∨ (J.go i H ∧ ∃ N : L2.St → Hp → Prop, (∀ σ' H', N σ' H' → ∃ m', m' < m ∧ W (i + 1) m' σ' H') ∧ ∀ x H', J.yld i H x H' → g x σ H' fun σ2 H2 => tb { D with nx := N, ct := N, bk := D.nx } σ2 H2)
def ForT (K : PySem.W.Frag) (g : TG) (tb : TS) (D : Ends) (σ : L2.St) : V → Hp → Prop := fun x H1 => ∃ a, x = .ref a ∧ (∃ xs, SqT K H1 a xs) ∧ Turns (Itt K a) g tb D σ H1
def ForL (K : PySem.W.Frag) (g : TG) (tb : TS) (D : Ends) (σ : L2.St) : V → Hp → Prop := fun x H1 => ∃ a, x = .ref a ∧ (∃ xs, SqL K H1 a xs) ∧ Turns (Itl K a) g tb D σ H1
def ForR (g : TG) (tb : TS) (D : Ends) (σ : L2.St) : List V → Hp → Prop := fun vs H1 => ∃ j : Int, vs = [.int j] ∧ -(2 ^ 62) ≤ j ∧ j < 2 ^ 62 ∧ Turns (Itr 0 j.toNat) g tb D σ H1
def ForR2 (g : TG) (tb : TS) (D : Ends) (σ : L2.St) : List V → Hp → Prop := fun vs H1 => ∃ i j : Int, vs = [.int i, .int j] ∧ (-(2 ^ 62) ≤ i ∧ i < 2 ^ 62 ∧ -(2 ^ 62) ≤ j ∧ j < 2 ^ 62) ∧ Turns (Itr i (j - i).toNat) g tb D σ H1
section
variable {K : PySem.W.Frag} {tb : TS}
theorem r_forT (h : te σ H (ForT K g tb D σ)) : tFor (iTup K te) g tb D σ H := h
theorem r_forL (h : te σ H (ForL K g tb D σ)) : tFor (iList K te) g tb D σ H := h
theorem r_forR (h : ts σ H (ForR g tb D σ)) : tFor (iRng1 ts) g tb D σ H := h
theorem r_forR2 (h : ts σ H (ForR2 g tb D σ)) : tFor (iRng2 ts) g tb D σ H := h
theorem r_ForT {a : Addr} {xs : List V} (s : SqT K H a xs) (R : Nat → L2.St → Hp → Prop) (h0 : R 0 σ H) (hl : ∀ i σ H, R i σ H → SqT K H a xs)
    (hs : ∀ (i : Nat) x σ H, xs[i]? = some x → R i σ H → g x σ H fun σ2 H2 => tb { D with nx := R (i + 1), ct := R (i + 1), bk := D.nx } σ2 H2) (hd : ∀ σ H, R xs.length σ H → D.nx σ H) :
    ForT K g tb D σ (.ref a) H := ⟨a, rfl, ⟨xs, s⟩, for_tup R h0 (fun i σ H _ => hl i σ H) hs hd⟩
theorem r_ForL {a : Addr} {xs : List V} (s : SqL K H a xs) (R : Nat → L2.St → Hp → Prop) (h0 : R 0 σ H) (hl : ∀ i σ H, R i σ H → SqL K H a xs)
    (hs : ∀ (i : Nat) x σ H, xs[i]? = some x → R i σ H → g x σ H fun σ2 H2 => tb { D with nx := R (i + 1), ct := R (i + 1), bk := D.nx } σ2 H2) (hd : ∀ σ H, R xs.length σ H → D.nx σ H) :
    ForL K g tb D σ (.ref a) H := ⟨a, rfl, ⟨xs, s⟩, for_list R h0 (fun i σ H _ => hl i σ H) hs hd⟩
theorem r_ForR {n : Int} (R : Nat → L2.St → Hp → Prop) (h1 : -(2 ^ 62) ≤ n) (h2 : n < 2 ^ 62) (h0 : R 0 σ H)
    (hs : ∀ (i : Nat) σ H, i < n.toNat → R i σ H → g (.int (i : Int)) σ H fun σ2 H2 => tb { D with nx := R (i + 1), ct := R (i + 1), bk := D.nx } σ2 H2) (hd : ∀ σ H, R n.toNat σ H → D.nx σ H) :
    ForR g tb D σ [.int n] H := by
  refine ⟨n, rfl, h1, h2, for_range (lo := 0) (n := n.toNat) R h0 (fun i σ H hi p => ?_) hd⟩
  have z := hs i σ H hi p
  rw [← Int.zero_add (i : Int)] at z
  exact z
theorem r_ForR2 {lo hi : Int} (R : Nat → L2.St → Hp → Prop) (h1 : -(2 ^ 62) ≤ lo ∧ lo < 2 ^ 62 ∧ -(2 ^ 62) ≤ hi ∧ hi < 2 ^ 62) (h0 : R 0 σ H)
    (hs : ∀ (i : Nat) σ H, i < (hi - lo).toNat → R i σ H → g (.int (lo + i)) σ H fun σ2 H2 => tb { D with nx := R (i + 1), ct := R (i + 1), bk := D.nx } σ2 H2) (hd : ∀ σ H, R (hi - lo).toNat σ H → D.nx σ H) :
    ForR2 g tb D σ [.int lo, .int hi] H := ⟨lo, hi, rfl, h1, for_range (lo := lo) (n := (hi - lo).toNat) R h0 hs hd⟩
end

/-! ### comprehensions -/
def LcTurns (J : It) (g : TG) (tt : TT) (te : TE) (vs : List Nat) (σ : L2.St) (Q : VK) (H1 : Hp) : Prop := ∀ D, H1 D = none → ∃ W : Nat → Nat → Hp → Prop, (∃ m, W 0 m (upd H1 D (.lst []))) ∧ ∀ i m H, W i m H →
  (J.stop i H ∧ Q (.ref D) H) ∨ (J.go i H ∧ ∃ Nx : Hp → Prop, (∀ H', Nx H' → ∃ m', m' < m ∧ W (i + 1) m' H') ∧ ∀ x H', J.yld i H x H' → g x (wipe σ vs) H' fun σ2 H2 => wipe σ2 vs = wipe σ vs ∧ tt σ2 H2 fun b H3 =>
    if b = true then te σ2 H3 fun y H4 => ∃ acc, H4 D = some (.lst acc) ∧ acc.length < sizeLine ∧ Nx (upd H4 D (.lst (acc ++ [y]))) else Nx H3)
def LcT (K : PySem.W.Frag) (g : TG) (tt : TT) (te : TE) (vs : List Nat) (σ : L2.St) (Q : VK) : V → Hp → Prop := fun x H1 => ∃ a, x = .ref a ∧ (∃ xs, SqT K H1 a xs) ∧ LcTurns (Itt K a) g tt te vs σ Q H1
def LcL (K : PySem.W.Frag) (g : TG) (tt : TT) (te : TE) (vs : List Nat) (σ : L2.St) (Q : VK) : V → Hp → Prop := fun x H1 => ∃ a, x = .ref a ∧ (∃ xs, SqL K H1 a xs) ∧ LcTurns (Itl K a) g tt te vs σ Q H1
def LcR (g : TG) (tt : TT) (te : TE) (vs : List Nat) (σ : L2.St) (Q : VK) : List V → Hp → Prop := fun us H1 => ∃ j : Int, us = [.int j] ∧ -(2 ^ 62) ≤ j ∧ j < 2 ^ 62 ∧ LcTurns (Itr 0 j.toNat) g tt te vs σ Q H1
section
variable {K : PySem.W.Frag} {tt : TT} {vs : List Nat} {ti : TE}
theorem r_lcT (h : ti σ H (LcT K g tt te vs σ Q)) : tLc (iTup K ti) g tt te vs σ H Q := h
theorem r_lcL (h : ti σ H (LcL K g tt te vs σ Q)) : tLc (iList K ti) g tt te vs σ H Q := h
theorem r_lcR (h : ts σ H (LcR g tt te vs σ Q)) : tLc (iRng1 ts) g tt te vs σ H Q := h
/-- the end of a turn of a comprehension: the element y is taken -/
def LcEnd (D : Addr) (N : Hp → Prop) : VK := fun y H4 => ∃ acc, H4 D = some (.lst acc) ∧ acc.length < sizeLine ∧ N (upd H4 D (.lst (acc ++ [y])))
theorem r_LcEnd {D : Addr} {N : Hp → Prop} {acc : List V} (h : H D = some (.lst acc)) (l : acc.length < sizeLine) (q : N (upd H D (.lst (acc ++ [y])))) : LcEnd D N y H := ⟨acc, h, l, q⟩
def LcTurn (tt : TT) (te : TE) (vs : List Nat) (σ : L2.St) (D : Addr) (N : Hp → Prop) : L2.St → Hp → Prop := fun σ2 H2 => wipe σ2 vs = wipe σ vs ∧ tt σ2 H2 fun b H3 => if b = true then te σ2 H3 (LcEnd D N) else N H3
theorem r_LcL {a : Addr} {xs : List V} (s : SqL K H a xs) (h : ∀ p, H p = none → ∃ R : Nat → Hp → Prop, R 0 (upd H p (.lst [])) ∧ (∀ i H, R i H → SqL K H a xs) ∧
    (∀ (i : Nat) x H, xs[i]? = some x → R i H → g x (wipe σ vs) H (LcTurn tt te vs σ p (R (i + 1)))) ∧ ∀ H, R xs.length H → Q (.ref p) H) : LcL K g tt te vs σ Q (.ref a) H := by
  refine ⟨a, rfl, ⟨xs, s⟩, fun p hp => ?_⟩
  obtain ⟨R, h0, hl, hs, hd⟩ := h p hp
  exact lc_list R h0 (fun i H _ => hl i H) hs hd
theorem r_LcT {a : Addr} {xs : List V} (s : SqT K H a xs) (h : ∀ p, H p = none → ∃ R : Nat → Hp → Prop, R 0 (upd H p (.lst [])) ∧ (∀ i H, R i H → SqT K H a xs) ∧
    (∀ (i : Nat) x H, xs[i]? = some x → R i H → g x (wipe σ vs) H (LcTurn tt te vs σ p (R (i + 1)))) ∧ ∀ H, R xs.length H → Q (.ref p) H) : LcT K g tt te vs σ Q (.ref a) H := by
  refine ⟨a, rfl, ⟨xs, s⟩, fun p hp => ?_⟩
  obtain ⟨R, h0, hl, hs, hd⟩ := h p hp
  exact lc_tup R h0 (fun i H _ => hl i H) hs hd
theorem r_LcR {n : Int} (h1 : -(2 ^ 62) ≤ n) (h2 : n < 2 ^ 62) (h : ∀ p, H p = none → ∃ R : Nat → Hp → Prop, R 0 (upd H p (.lst [])) ∧
    (∀ (i : Nat) H, i < n.toNat → R i H → g (.int (i : Int)) (wipe σ vs) H (LcTurn tt te vs σ p (R (i + 1)))) ∧ ∀ H, R n.toNat H → Q (.ref p) H) : LcR g tt te vs σ Q [.int n] H := by
  refine ⟨n, rfl, h1, h2, fun p hp => ?_⟩
  obtain ⟨R, h0, hs, hd⟩ := h p hp
  refine lc_range (lo := 0) (n := n.toNat) R h0 (fun i H hi q => ?_) hd
  have z := hs i H hi q
  rw [← Int.zero_add (i : Int)] at z
  exact z
theorem r_LcTurn {D : Addr} {N : Hp → Prop} {σ2 : L2.St} (e : wipe σ2 vs = wipe σ vs) (h : tt σ2 H fun b H3 => if b = true then te σ2 H3 (LcEnd D N) else N H3) : LcTurn tt te vs σ D N σ2 H := ⟨e, h⟩
theorem r_yes {R : Bool → Hp → Prop} (h : R true H) : tYes σ H R := h
end

/-! ### in -/
theorem r_in {K : PySem.W.Frag} {a : Addr} {xs : List V} (h : SqL K H a xs ∨ SqT K H a xs) (f1 : flatV x = true) (f2 : xs.all flatV = true) (q : Q (.bl (inV x xs)) H) : rIn K false x (.ref a) H Q :=
  ⟨a, xs, rfl, h, f1, f2, by rw [if_neg Bool.false_ne_true]; exact q⟩
theorem r_inT {K : PySem.W.Frag} {a : Addr} {xs : List V} (h : SqL K H a xs ∨ SqT K H a xs) (f1 : flatV x = true) (f2 : xs.all flatV = true) (e : inV x xs = true) (q : Q (.bl true) H) : rIn K false x (.ref a) H Q :=
  ⟨a, xs, rfl, h, f1, f2, by rw [if_neg Bool.false_ne_true, e]; exact q⟩
theorem r_inF {K : PySem.W.Frag} {a : Addr} {xs : List V} (h : SqL K H a xs ∨ SqT K H a xs) (f1 : flatV x = true) (f2 : xs.all flatV = true) (e : inV x xs = false) (q : Q (.bl false) H) : rIn K false x (.ref a) H Q :=
  ⟨a, xs, rfl, h, f1, f2, by rw [if_neg Bool.false_ne_true, e]; exact q⟩
theorem kpW {a : Addr} {xs : List V} {o : HO} (h : H a = some (.lst xs)) : Kp [a] H (upd H a o) :=
  (Kp.refl (M := [a]) fun b m => ⟨xs, by rw [List.mem_singleton.mp m]; exact h⟩).write (by simp)
end

/-! ### calls by name of what they ask -/
section
variable {X : Cx} {H : Hp} {Q : VK}
def qAbs : List V → Hp → VK → Prop := fun xs H Q => ∃ i, xs = [.int i] ∧ Q (.int (if i < 0 then -i else i)) H
theorem c_abs : CallR X (.builtin "abs") qAbs := call_abs
theorem r_abs {i : Int} (h : Q (.int (if i < 0 then -i else i)) H) : qAbs [.int i] H Q := ⟨i, rfl, h⟩
def qInt : List V → Hp → VK → Prop := fun xs H Q => (∃ i, xs = [.int i] ∧ Q (.int i) H) ∨ ∃ k, xs = [.bl k] ∧ Q (.int (if k then 1 else 0)) H
theorem c_int : CallR X (.type "int") qInt := call_int1
theorem r_int {i : Int} (h : Q (.int i) H) : qInt [.int i] H Q := .inl ⟨i, rfl, h⟩
theorem r_intB {b : Bool} (h : Q (.int (if b then 1 else 0)) H) : qInt [.bl b] H Q := .inr ⟨b, rfl, h⟩
def qLen (K : PySem.W.Frag) : List V → Hp → VK → Prop := fun xs H Q => ∃ x n, xs = [x] ∧ LenV K x H n ∧ Q (.int n) H
theorem c_len : CallR X (.builtin "len") (qLen X.K) := call_len
theorem r_lenL {K : PySem.W.Frag} {a : Addr} {xs : List V} (h : SqL K H a xs) (q : Q (.int (xs.length : Nat)) H) : qLen K [.ref a] H Q := ⟨_, _, rfl, .inl ⟨_, h, rfl⟩, q⟩
theorem r_lenT {K : PySem.W.Frag} {a : Addr} {xs : List V} (h : SqT K H a xs) (q : Q (.int (xs.length : Nat)) H) : qLen K [.ref a] H Q := ⟨_, _, rfl, .inr ⟨_, h, rfl⟩, q⟩
theorem r_lenS {K : PySem.W.Frag} {z : Str} (q : Q (.int (z.length : Nat)) H) (h : z.length ≤ sizeLine) : qLen K [.str z] H Q := ⟨_, _, rfl, ⟨h, rfl⟩, q⟩
def qStr : List V → Hp → VK → Prop := fun xs H Q => (∃ i, xs = [.int i] ∧ i.natAbs.log2 < 1920 ∧ Q (.str (toString i)) H) ∨ ∃ a, xs = [.str a] ∧ Q (.str a) H
theorem c_str : CallR X (.type "str") qStr := call_str_int.or SkE.call_str_str
theorem r_strI {i : Int} (h : Q (.str (toString i)) H) (l : i.natAbs.log2 < 1920) : qStr [.int i] H Q := .inl ⟨i, rfl, l, h⟩
theorem r_strS {z : Str} (h : Q (.str z) H) : qStr [.str z] H Q := .inr ⟨z, rfl, h⟩
def qTup (K : PySem.W.Frag) : List V → Hp → VK → Prop := fun xs H Q => ∃ p ys, xs = [.ref p] ∧ ((SqL K H p ys ∧ ∀ l, H l = none → Q (.ref l) (upd H l (.tup ys))) ∨ (SqT K H p ys ∧ Q (.ref p) H))
theorem c_tup : CallR X (.type "tuple") (qTup X.K) := call_tuple_of
theorem r_tupL {K : PySem.W.Frag} {a : Addr} {xs : List V} (s : SqL K H a xs) (h : ∀ l, H l = none → Q (.ref l) (upd H l (.tup xs))) : qTup K [.ref a] H Q := ⟨a, xs, rfl, .inl ⟨s, h⟩⟩
theorem r_tupT {K : PySem.W.Frag} {a : Addr} {xs : List V} (s : SqT K H a xs) (h : Q (.ref a) H) : qTup K [.ref a] H Q := ⟨a, xs, rfl, .inr ⟨s, h⟩⟩
def qLst (K : PySem.W.Frag) : List V → Hp → VK → Prop := fun xs H Q => ∃ p ys, xs = [.ref p] ∧ (SqL K H p ys ∨ SqT K H p ys) ∧ ∀ l, H l = none → Q (.ref l) (upd H l (.lst ys))
theorem c_lst : CallR X (.type "list") (qLst X.K) := call_list_of
theorem r_lstL {K : PySem.W.Frag} {a : Addr} {xs : List V} (s : SqL K H a xs) (h : ∀ l, H l = none → Q (.ref l) (upd H l (.lst xs))) : qLst K [.ref a] H Q := ⟨a, xs, rfl, .inl s, h⟩
theorem r_lstT {K : PySem.W.Frag} {a : Addr} {xs : List V} (s : SqT K H a xs) (h : ∀ l, H l = none → Q (.ref l) (upd H l (.lst xs))) : qLst K [.ref a] H Q := ⟨a, xs, rfl, .inr s, h⟩
def qRepr (K : PySem.W.Frag) : List V → Hp → VK → Prop := fun xs H Q => ∃ a d, xs = [.ref a] ∧
    Dp K H (.ref a) d ∧ d.showable = true ∧ d.hasDict = false ∧ d.depth ≤ 100 ∧ d.shown.length ≤ sizeLine ∧ Q (.str d.shown) H
theorem c_repr {k : Nat} (hr : RoomG k X.A) : CallR X (.builtin "repr") (qRepr X.K) := call_reprD hr
end

/-! ### names of the top -/
section
variable {X : Cx} {x : Str} {pos : Pos}
theorem pe_ty {T : String} (hg : Gl X x) (hm : X.mg x = none) (hv : bootBuiltins x = some (.type T)) (hn : x ≠ "__name__" := by decide) (hd : (x == ("__debug__" : Str)) = false := by decide) : PE X (.Name x pos) (tC (.ty T)) := pe_bltn hg hm hv rfl hn hd
theorem pe_gref {a : Addr} (hg : Gl X x) (hm : X.mg x = some (.ref a)) (hd : (x == ("__debug__" : Str)) = false := by decide) : PE X (.Name x pos) (tC (.ref a)) := pe_glob hg hm rfl hd
theorem pe_gint {i : Int} {t : Tok} (hg : Gl X x) (hm : X.mg x = some (.int i t)) (hd : (x == ("__debug__" : Str)) = false := by decide) : PE X (.Name x pos) (tC (.int i)) := pe_glob hg hm ⟨t, rfl⟩ hd
theorem pe_gstr {z : Str} {t : Tok} (hg : Gl X x) (hm : X.mg x = some (.str z t)) (hd : (x == ("__debug__" : Str)) = false := by decide) : PE X (.Name x pos) (tC (.str z)) := pe_glob hg hm ⟨t, rfl⟩ hd
end

/-! ### isinstance of data -/
def tyD : PyData → String
  | .none => "NoneType"
  | .bool _ => "bool"
  | .int _ => "int"
  | .str _ => "str"
  | .list _ => "list"
  | .tuple _ => "tuple"
  | .dict _ => "dict"
def isaD (d : PyData) (n : String) : Bool := tyD d == n || (tyD d == "bool" && n == "int")
def qIs (K : PySem.W.Frag) : List V → Hp → VK → Prop := fun xs H Q => ∃ (x : V) (d : PyData) (n : String), xs = [x, .ty n] ∧ Dp K H x d ∧
  n ∈ ["int", "bool", "str", "tuple", "list", "dict"] ∧ Q (.bl (isaD d n)) H
theorem tyX_L {K : PySem.W.Frag} {H : Hp} {a : Addr} {xs : List V} (h : SqL K H a xs) : TyX K H (.ref a) (.type "list") := by
  rcases h with (h | ⟨o, h⟩) | ⟨o, its, n, h, c, _⟩
  · exact .base (.lst h)
  · exact .base (.frz h)
  · exact .kList h c
theorem tyX_T {K : PySem.W.Frag} {H : Hp} {a : Addr} {xs : List V} (h : SqT K H a xs) : TyX K H (.ref a) (.type "tuple") := by
  rcases h with (h | ⟨o, h⟩) | ⟨o, its, n, h, c, _⟩
  · exact .base (.tup h)
  · exact .fTuple h
  · exact .kTuple h c
section
variable {X : Cx} {H : Hp} {Q : VK}
def types : List String := ["int", "bool", "str", "tuple", "list", "dict"]
theorem kitAll : ∀ t ∈ "NoneType" :: types, ∀ n ∈ types, kitB t n = some (t == n || (t == "bool" && n == "int")) := by decide +kernel
theorem kitD (K : PySem.W.Frag) (d : PyData) (n : String) (h : n ∈ types) : PySem.W.kitOne K (.type (tyD d)) (.type n) = some (isaD d n) := by
  refine kit_ty (kitAll _ ?_ n h)
  cases d <;> simp [tyD, types]
theorem tyX_D {K : PySem.W.Frag} {x : V} {d : PyData} (h : Dp K H x d) : TyX K H x (.type (tyD d)) := by
  cases h with
  | non => exact .base .non
  | bl b => exact .base (.bl b)
  | int i => exact .base (.int i)
  | str z => exact .base (.str z)
  | lst s _ => exact tyX_L s
  | tup s _ => exact tyX_T s
theorem c_is : CallR X (.builtin "isinstance") (qIs X.K) := by
  intro pins s σ H xs us Q I r h
  obtain ⟨x, d, n, rfl, hd, hn, q⟩ := h
  exact call_isi pins s σ H _ us Q I r ⟨x, _, _, _, _, rfl, .ty n, tyX_D hd, kitD X.K d n hn, q⟩
theorem r_isT {K : PySem.W.Frag} {x : V} {d : PyData} {n : String} (h : Dp K H x d) (e : isaD d n = true) (hn : n ∈ types) (q : Q (.bl true) H) : qIs K [x, .ty n] H Q := ⟨x, d, n, rfl, h, hn, by rw [e]; exact q⟩
theorem r_isF {K : PySem.W.Frag} {x : V} {d : PyData} {n : String} (h : Dp K H x d) (e : isaD d n = false) (hn : n ∈ types) (q : Q (.bl false) H) : qIs K [x, .ty n] H Q := ⟨x, d, n, rfl, h, hn, by rw [e]; exact q⟩
end
end Aw

/-! texts with a bound; data that may be shown -/
namespace Aw
open PySem PySem.Spec L2

/-- a text of at most n signs -/
structure Sok (x : Str) (n : Nat) : Prop where
  ok : PyData.strOk x = true
  len : x.length ≤ n
theorem Sok.app {x y : Str} {m n : Nat} (a : Sok x m) (b : Sok y n) : Sok (x ++ y) (m + n) := by
  refine ⟨?_, ?_⟩
  · have h1 := a.ok
    have h2 := b.ok
    unfold PyData.strOk at *
    rw [Str.cps_append, Array.all_append, h1, h2]
    rfl
  · rw [Str.length_append]
    have := a.len
    have := b.len
    omega
theorem Sok.mono {x : Str} {m n : Nat} (a : Sok x m) (h : m ≤ n) : Sok x n := ⟨a.ok, Nat.le_trans a.len h⟩
theorem Sok.line {x : Str} {m : Nat} (a : Sok x m) (h : m ≤ 16777216) : x.length ≤ sizeLine := by
  rw [sizeLine_eq]
  exact Nat.le_trans a.len h
theorem Sok.lit {x : Str} {n : Nat} (h : (PyData.strOk x && decide (x.length ≤ n)) = true) : Sok x n := by
  rw [Bool.and_eq_true, decide_eq_true_eq] at h
  exact ⟨h.1, h.2⟩
theorem Sok.repr {x : Str} {n : Nat} (a : Sok x n) : (reprText x).length ≤ 10 * n + 2 := by
  have h := PySem.StrLaws.reprText_len x (fun c hc => by
    have q := a.ok
    unfold PyData.strOk at q
    rw [Array.all_eq_true_iff_forall_mem] at q
    have := of_decide_eq_true (q c (Array.mem_def.mpr hc))
    omega)
  have := a.len
  omega
/-- small ints as texts -/
theorem Sok.num : ∀ i : Int, -99 ≤ i → i ≤ 99 → Sok (Str.ofString (toString i)) 3 := by
  have h : ∀ n : Fin 199, (PyData.strOk (Str.ofString (toString ((n.val : Int) - 99))) && decide ((Str.ofString (toString ((n.val : Int) - 99))).length ≤ 3)) = true := by
    decide +kernel
  intro i h1 h2
  have q := h ⟨(i + 99).toNat, by omega⟩
  have e : (((i + 99).toNat : Nat) : Int) - 99 = i := by omega
  simp only [e] at q
  exact Sok.lit q

theorem log2_small {i : Int} (h1 : -(2 ^ 64) < i) (h2 : i < 2 ^ 64) : i.natAbs.log2 < 1920 := by
  by_cases h : i.natAbs = 0
  · rw [h]
    decide
  · exact Nat.lt_of_lt_of_le ((Nat.log2_lt h).mpr (show i.natAbs < 2 ^ 64 by omega)) (by decide)
/-! ### data that is shown -/
structure Shw (d : PyData) (k n : Nat) : Prop where
  sh : d.showable = true
  nd : d.hasDict = false
  dep : d.depth ≤ k
  len : d.shown.length ≤ n
theorem Shw.mono {d : PyData} {k n k' n' : Nat} (h : Shw d k n) (hk : k ≤ k') (hn : n ≤ n') : Shw d k' n' := ⟨h.sh, h.nd, Nat.le_trans h.dep hk, Nat.le_trans h.len hn⟩
theorem Shw.str {x : Str} {m k : Nat} (h : Sok x m) : Shw (.str x) k (10 * m + 2) :=
  ⟨by rw [PyData.showable], by rw [PyData.hasDict], by rw [PyData.depth]; exact Nat.zero_le _, by rw [PyData.shown]; exact h.repr⟩
theorem Shw.non {k : Nat} : Shw .none k 4 :=
  ⟨by rw [PyData.showable], by rw [PyData.hasDict], by rw [PyData.depth]; exact Nat.zero_le _, by rw [PyData.shown]; decide +kernel⟩
theorem Shw.bool {b : Bool} {k : Nat} : Shw (.bool b) k 5 :=
  ⟨by rw [PyData.showable], by rw [PyData.hasDict], by rw [PyData.depth]; exact Nat.zero_le _, by rw [PyData.shown]; cases b <;> decide +kernel⟩
theorem shownAll_len {ds : List PyData} {k n : Nat} (h : ∀ d ∈ ds, Shw d k n) : PyData.showableAll ds = true ∧ PyData.hasDictAll ds = false ∧ PyData.depthAll ds ≤ k ∧ (PyData.shownAll ds).length = ds.length ∧
    ((PyData.shownAll ds).map (·.length)).sum ≤ ds.length * n := by
  induction ds with
  | nil => exact ⟨by rw [PyData.showableAll], by rw [PyData.hasDictAll], by rw [PyData.depthAll]; exact Nat.zero_le _, by rw [PyData.shownAll]; rfl, by rw [PyData.shownAll]; exact Nat.zero_le _⟩
  | cons d r ih =>
    obtain ⟨a1, a2, a3, a4, a5⟩ := ih fun d hd => h d (List.mem_cons_of_mem _ hd)
    have q := h d (List.mem_cons_self ..)
    refine ⟨by rw [PyData.showableAll, q.sh, a1]; rfl, by rw [PyData.hasDictAll, q.nd, a2]; rfl, by rw [PyData.depthAll]; exact Nat.max_le.mpr ⟨q.dep, a3⟩, by rw [PyData.shownAll, List.length_cons, List.length_cons, a4], ?_⟩
    have := q.len
    rw [PyData.shownAll, List.map_cons, List.sum_cons, List.length_cons, Nat.add_mul, Nat.one_mul]
    omega
theorem Shw.list {ds : List PyData} {k n : Nat} (h : ∀ d ∈ ds, Shw d k n) : Shw (.list ds) (k + 1) (ds.length * (n + 2) + 3) := by
  obtain ⟨a1, a2, a3, a4, a5⟩ := shownAll_len h
  refine ⟨by rw [PyData.showable]; exact a1, by rw [PyData.hasDict]; exact a2, by rw [PyData.depth]; omega, ?_⟩
  rw [PyData.shown]
  have q := listText_len_le (PyData.shownAll ds)
  rw [a4] at q
  rw [Nat.mul_add]
  omega
theorem Shw.tup {ds : List PyData} {k n : Nat} (h : ∀ d ∈ ds, Shw d k n) : Shw (.tuple ds) (k + 1) (ds.length * (n + 2) + 3) := by
  obtain ⟨a1, a2, a3, a4, a5⟩ := shownAll_len h
  refine ⟨by rw [PyData.showable]; exact a1, by rw [PyData.hasDict]; exact a2, by rw [PyData.depth]; omega, ?_⟩
  rw [PyData.shown]
  have q := tupleText_len_le (PyData.shownAll ds)
  rw [a4] at q
  rw [Nat.mul_add]
  omega
theorem r_repr {K : PySem.W.Frag} {H : Hp} {Q : VK} {a : Addr} {d : PyData} {k n : Nat} (h : Dp K H (.ref a) d) (s : Shw d k n) (hk : k ≤ 100) (hn : n ≤ 16777216) (q : Q (.str d.shown) H) : qRepr K [.ref a] H Q :=
  ⟨a, d, rfl, h, s.sh, s.nd, Nat.le_trans s.dep hk, by rw [sizeLine_eq]; exact Nat.le_trans s.len hn, q⟩

/-! ### rows of data -/
structure DtL (K : PySem.W.Frag) (H : Hp) (vs : List V) (ds : List PyData) : Prop where
  len : vs.length = ds.length
  all : ∀ (i : Nat) (v : V) (d : PyData), vs[i]? = some v → ds[i]? = some d → Dt K H v d
theorem DtL.nil {K : PySem.W.Frag} {H : Hp} : DtL K H [] [] := ⟨rfl, fun i v d e => by simp at e⟩
theorem DtL.kp {K : PySem.W.Frag} {M : List Addr} {H H1 : Hp} {vs : List V} {ds : List PyData} (h : DtL K H vs ds) (a : Kp M H H1) : DtL K H1 vs ds := ⟨h.len, fun i v d e e' => (h.all i v d e e').kp a⟩
theorem DtL.snoc {K : PySem.W.Frag} {H : Hp} {vs : List V} {ds : List PyData} {v : V} {d : PyData} (h : DtL K H vs ds) (hv : Dt K H v d) : DtL K H (vs ++ [v]) (ds ++ [d]) := by
  refine ⟨by rw [List.length_append, List.length_append, h.len]; rfl, fun i u e q q' => ?_⟩
  by_cases hi : i < vs.length
  · rw [List.getElem?_append_left hi] at q
    rw [List.getElem?_append_left (by rw [← h.len]; exact hi)] at q'
    exact h.all i u e q q'
  · rw [List.getElem?_append_right (by omega)] at q
    rw [List.getElem?_append_right (by rw [← h.len]; omega), ← h.len] at q'
    have hlt := (List.getElem?_eq_some_iff.mp q).1
    rw [List.length_singleton] at hlt
    obtain h0 : i - vs.length = 0 := by omega
    rw [h0] at q q'
    cases q
    cases q'
    exact hv
theorem DtL.cons {K : PySem.W.Frag} {H : Hp} {vs : List V} {ds : List PyData} {v : V} {d : PyData} (hv : Dt K H v d) (h : DtL K H vs ds) : DtL K H (v :: vs) (d :: ds) := by
  refine ⟨by rw [List.length_cons, List.length_cons, h.len], fun i u e q q' => ?_⟩
  cases i with
  | zero =>
    cases q
    cases q'
    exact hv
  | succ i => exact h.all i u e (by simpa using q) (by simpa using q')
theorem DtL.tup {K : PySem.W.Frag} {H : Hp} {vs : List V} {ds : List PyData} {a : Addr} (h : DtL K H vs ds) (e : H a = some (.tup vs)) : Dt K H (.ref a) (.tuple ds) := .tup (SqT.of e) h.len h.all

/-! ### data taken apart and put together -/
section
variable {K : PySem.W.Frag} {H : Hp} {v : V}
theorem Dt.isInt {i : Int} (h : Dt K H v (.int i)) : v = .int i := by cases h; rfl
theorem Dt.isStr {x : Str} (h : Dt K H v (.str x)) : v = .str x := by cases h; rfl
theorem Dt.isNone (h : Dt K H v .none) : v = .non := by cases h; rfl
theorem Dt.isTup {ds : List PyData} (h : Dt K H v (.tuple ds)) : ∃ (a : Addr) (xs : List V), v = .ref a ∧ SqT K H a xs ∧ xs.length = ds.length ∧
    ∀ (i : Nat) (v : V) (d : PyData), xs[i]? = some v → ds[i]? = some d → Dt K H v d := by
  cases h with
  | tup s l q => exact ⟨_, _, rfl, s, l, q⟩
theorem Dt.is0 (h : Dt K H v (.tuple [])) : ∃ a : Addr, v = .ref a ∧ SqT K H a [] := by
  obtain ⟨a, xs, rfl, s, l, q⟩ := h.isTup
  obtain rfl : xs = [] := List.length_eq_zero_iff.mp l
  exact ⟨a, rfl, s⟩
theorem Dt.is1 {d : PyData} (h : Dt K H v (.tuple [d])) : ∃ (a : Addr) (x : V), v = .ref a ∧ SqT K H a [x] ∧ Dt K H x d := by
  obtain ⟨a, xs, rfl, s, l, q⟩ := h.isTup
  match xs, l, s, q with
  | [x], _, s, q => exact ⟨a, x, rfl, s, q 0 x d rfl rfl⟩
theorem Dt.is2 {d e : PyData} (h : Dt K H v (.tuple [d, e])) : ∃ (a : Addr) (x y : V), v = .ref a ∧ SqT K H a [x, y] ∧ Dt K H x d ∧ Dt K H y e := by
  obtain ⟨a, xs, rfl, s, l, q⟩ := h.isTup
  match xs, l, s, q with
  | [x, y], _, s, q => exact ⟨a, x, y, rfl, s, q 0 x d rfl rfl, q 1 y e rfl rfl⟩
theorem Dt.is3 {d e f : PyData} (h : Dt K H v (.tuple [d, e, f])) : ∃ (a : Addr) (x y z : V), v = .ref a ∧ SqT K H a [x, y, z] ∧ Dt K H x d ∧ Dt K H y e ∧ Dt K H z f := by
  obtain ⟨a, xs, rfl, s, l, q⟩ := h.isTup
  match xs, l, s, q with
  | [x, y, z], _, s, q => exact ⟨a, x, y, z, rfl, s, q 0 x d rfl rfl, q 1 y e rfl rfl, q 2 z f rfl rfl⟩
theorem Dt.is4 {d e f g : PyData} (h : Dt K H v (.tuple [d, e, f, g])) : ∃ (a : Addr) (x y z u : V), v = .ref a ∧ SqT K H a [x, y, z, u] ∧ Dt K H x d ∧ Dt K H y e ∧ Dt K H z f ∧ Dt K H u g := by
  obtain ⟨a, xs, rfl, s, l, q⟩ := h.isTup
  match xs, l, s, q with
  | [x, y, z, u], _, s, q => exact ⟨a, x, y, z, u, rfl, s, q 0 x d rfl rfl, q 1 y e rfl rfl, q 2 z f rfl rfl, q 3 u g rfl rfl⟩
theorem Dt.mk0 {a : Addr} (h : H a = some (.tup [])) : Dt K H (.ref a) (.tuple []) := .tup (SqT.of h) rfl fun i v d e => by simp at e
theorem Dt.mk1 {a : Addr} {x : V} {d : PyData} (h : H a = some (.tup [x])) (h0 : Dt K H x d) : Dt K H (.ref a) (.tuple [d]) :=
  .tup (SqT.of h) rfl fun i v d' e e' => by
    match i, e, e' with
    | 0, e, e' => cases e; cases e'; exact h0
theorem Dt.mk2 {a : Addr} {x y : V} {d e : PyData} (h : H a = some (.tup [x, y])) (h0 : Dt K H x d) (h1 : Dt K H y e) : Dt K H (.ref a) (.tuple [d, e]) :=
  .tup (SqT.of h) rfl fun i v d' e e' => by
    match i, e, e' with
    | 0, e, e' => cases e; cases e'; exact h0
    | 1, e, e' => cases e; cases e'; exact h1
theorem Dt.mk3 {a : Addr} {x y z : V} {d e f : PyData} (h : H a = some (.tup [x, y, z])) (h0 : Dt K H x d) (h1 : Dt K H y e) (h2 : Dt K H z f) : Dt K H (.ref a) (.tuple [d, e, f]) :=
  .tup (SqT.of h) rfl fun i v d' e e' => by
    match i, e, e' with
    | 0, e, e' => cases e; cases e'; exact h0
    | 1, e, e' => cases e; cases e'; exact h1
    | 2, e, e' => cases e; cases e'; exact h2
theorem Dt.mk4 {a : Addr} {x y z u : V} {d e f g : PyData} (h : H a = some (.tup [x, y, z, u])) (h0 : Dt K H x d) (h1 : Dt K H y e) (h2 : Dt K H z f) (h3 : Dt K H u g) : Dt K H (.ref a) (.tuple [d, e, f, g]) :=
  .tup (SqT.of h) rfl fun i v d' e e' => by
    match i, e, e' with
    | 0, e, e' => cases e; cases e'; exact h0
    | 1, e, e' => cases e; cases e'; exact h1
    | 2, e, e' => cases e; cases e'; exact h2
    | 3, e, e' => cases e; cases e'; exact h3
end
end Aw

/-! comparing with an empty row; data with lists and dicts; signs of texts -/
namespace Aw
open PySem PySem.Spec L2

/-! ### rows compared with an empty one -/
def rNil (K : PySem.W.Frag) (neg : Bool) : R2 := fun x y H Q => ∃ (a b : Addr) (xs : List V), x = .ref a ∧ y = .ref b ∧
  ((SqL K H a xs ∧ SqL K H b []) ∨ (SqT K H a xs ∧ SqT K H b [])) ∧ Q (.bl (xs.isEmpty != neg)) H
section
variable {X : Cx} {H : Hp} {Q : VK}
theorem vals_nil {us : List Value} (r : Vals [] us) : us = [] := by cases r; rfl
theorem op_eqNil (hu : X.A.units + 64 < cLine) : OpR X (compareOp .Eq) (rNil X.K false) := by
  intro pins s σ H x y v u Q I rx ry h
  obtain ⟨a, b, xs, rfl, rfl, h, q⟩ := h
  cases (show v = Value.ref a from rx)
  cases (show u = Value.ref b from ry)
  have hu' : X.A.units < cLine := by omega
  rcases h with ⟨ha, hb⟩ | ⟨ha, hb⟩
  · obtain ⟨its, r, ⟨o, n, e, c, _, d⟩, _⟩ := I.list ha
    obtain ⟨its2, r2, ⟨o2, n2, e2, c2, _, d2⟩, _⟩ := I.list hb
    obtain rfl := vals_nil r2
    have hl : s.heap.IsList a its.toArray := ⟨o, e, c, n, d⟩
    have hl2 : s.heap.IsList b #[] := ⟨o2, e2, c2, n2, d2⟩
    cases xs with
    | nil =>
      obtain rfl := vals_nil r
      exact PySem.SeqAt.eq_listAt (e := fun _ => true) hl hl2 rfl hu' (fun j h1 => absurd h1 (by simp)) ⟨.bl true, H, I, rfl, q⟩
    | cons x xs =>
      cases r with
      | cons r0 r1 => exact PySem.SeqAt.eq_list_lengthsAt hl hl2 (by simp) hu' ⟨.bl false, H, I, rfl, q⟩
  · obtain ⟨its, r, ⟨o, e, c, n, d⟩, _⟩ := I.tuple ha
    obtain ⟨its2, r2, ⟨o2, e2, c2, n2, d2⟩, _⟩ := I.tuple hb
    obtain rfl := vals_nil r2
    have hl : s.heap.IsTuple a its.toArray := ⟨o, e, c, n, d⟩
    have hl2 : s.heap.IsTuple b #[] := ⟨o2, e2, c2, n2, d2⟩
    refine PySem.SeqAt.eq_tupleAt (e := fun _ => true) hl hl2 hu' (fun j h1 h2 => absurd h2 (by simp)) ?_
    cases xs with
    | nil =>
      obtain rfl := vals_nil r
      exact ⟨.bl true, H, I, rfl, q⟩
    | cons x xs =>
      cases r with
      | cons r0 r1 => exact ⟨.bl false, H, I, rfl, q⟩
theorem op_neNil (hu : X.A.units + 64 < cLine) : OpR X (compareOp .NotEq) (rNil X.K true) := by
  intro pins s σ H x y v u Q I rx ry h
  obtain ⟨a, b, xs, rfl, rfl, h, q⟩ := h
  cases (show v = Value.ref a from rx)
  cases (show u = Value.ref b from ry)
  have hu' : X.A.units < cLine := by omega
  rcases h with ⟨ha, hb⟩ | ⟨ha, hb⟩
  · obtain ⟨its, r, ⟨o, n, e, c, _, d⟩, _⟩ := I.list ha
    obtain ⟨its2, r2, ⟨o2, n2, e2, c2, _, d2⟩, _⟩ := I.list hb
    obtain rfl := vals_nil r2
    have hl : s.heap.IsList a its.toArray := ⟨o, e, c, n, d⟩
    have hl2 : s.heap.IsList b #[] := ⟨o2, e2, c2, n2, d2⟩
    cases xs with
    | nil =>
      obtain rfl := vals_nil r
      exact PySem.SeqAt.RcNeAt.lists (e := fun _ => true) hl hl2 rfl hu' (fun j h1 => absurd h1 (by simp)) _ _ _ _ ⟨.bl false, H, I, rfl, q⟩
    | cons x xs =>
      cases r with
      | cons r0 r1 => exact PySem.SeqAt.RcNeAt.lists_lengths hl hl2 (by simp) hu' _ _ _ _ ⟨.bl true, H, I, rfl, q⟩
  · obtain ⟨its, r, ⟨o, e, c, n, d⟩, _⟩ := I.tuple ha
    obtain ⟨its2, r2, ⟨o2, e2, c2, n2, d2⟩, _⟩ := I.tuple hb
    obtain rfl := vals_nil r2
    have hl : s.heap.IsTuple a its.toArray := ⟨o, e, c, n, d⟩
    have hl2 : s.heap.IsTuple b #[] := ⟨o2, e2, c2, n2, d2⟩
    refine PySem.SeqAt.RcNeAt.tuples (e := fun _ => true) hl hl2 hu' (fun j h1 h2 => absurd h2 (by simp)) _ _ _ _ ?_
    cases xs with
    | nil =>
      obtain rfl := vals_nil r
      exact ⟨.bl false, H, I, rfl, q⟩
    | cons x xs =>
      cases r with
      | cons r0 r1 => exact ⟨.bl true, H, I, rfl, q⟩
theorem r_eqNL {K : PySem.W.Frag} {a b : Addr} {xs : List V} (h1 : SqL K H a xs) (h2 : SqL K H b []) (q : Q (.bl xs.isEmpty) H) : rNil K false (.ref a) (.ref b) H Q := ⟨a, b, xs, rfl, rfl, .inl ⟨h1, h2⟩, by simpa using q⟩
theorem r_eqNT {K : PySem.W.Frag} {a b : Addr} {xs : List V} (h1 : SqT K H a xs) (h2 : SqT K H b []) (q : Q (.bl xs.isEmpty) H) : rNil K false (.ref a) (.ref b) H Q := ⟨a, b, xs, rfl, rfl, .inr ⟨h1, h2⟩, by simpa using q⟩
theorem r_neNL {K : PySem.W.Frag} {a b : Addr} {xs : List V} (h1 : SqL K H a xs) (h2 : SqL K H b []) (q : Q (.bl (!xs.isEmpty)) H) : rNil K true (.ref a) (.ref b) H Q := ⟨a, b, xs, rfl, rfl, .inl ⟨h1, h2⟩, by simpa using q⟩
theorem r_neNT {K : PySem.W.Frag} {a b : Addr} {xs : List V} (h1 : SqT K H a xs) (h2 : SqT K H b []) (q : Q (.bl (!xs.isEmpty)) H) : rNil K true (.ref a) (.ref b) H Q := ⟨a, b, xs, rfl, rfl, .inr ⟨h1, h2⟩, by simpa using q⟩
end

/-! ### data with lists and dicts -/
def keyD : Key → PyData
  | .inl i => .int i
  | .inr x => .str x
/-- data, the lists and dicts of which are none of M -/
inductive Dw (M : List Addr) (K : PySem.W.Frag) (H : Hp) : V → PyData → Prop
  | non : Dw M K H .non .none
  | bl (b : Bool) : Dw M K H (.bl b) (.bool b)
  | int (i : Int) : Dw M K H (.int i) (.int i)
  | str (x : Str) : Dw M K H (.str x) (.str x)
  | tup {a : Addr} {xs : List V} {ds : List PyData} : SqT K H a xs → xs.length = ds.length →
      (∀ (i : Nat) (v : V) (d : PyData), xs[i]? = some v → ds[i]? = some d → Dw M K H v d) → Dw M K H (.ref a) (.tuple ds)
  | lst {a : Addr} {xs : List V} {ds : List PyData} : H a = some (.lst xs) → a ∉ M → xs.length = ds.length →
      (∀ (i : Nat) (v : V) (d : PyData), xs[i]? = some v → ds[i]? = some d → Dw M K H v d) → Dw M K H (.ref a) (.list ds)
  | dct {a : Addr} {kvs : List (Key × V)} {ps : List (PyData × PyData)} : H a = some (.dK kvs) → a ∉ M → kvs.length = ps.length →
      (∀ (i : Nat) (kv : Key × V) (p : PyData × PyData), kvs[i]? = some kv → ps[i]? = some p → p.1 = keyD kv.1) →
      (∀ (i : Nat) (kv : Key × V) (p : PyData × PyData), kvs[i]? = some kv → ps[i]? = some p → Dw M K H kv.2 p.2) → Dw M K H (.ref a) (.dict ps)
section
variable {K : PySem.W.Frag} {M : List Addr} {H H1 : Hp} {v : V} {d : PyData}
theorem Dw.kp (a : Kp M H H1) (h : Dw M K H v d) : Dw M K H1 v d := by
  induction h with
  | non => exact .non
  | bl b => exact .bl b
  | int i => exact .int i
  | str x => exact .str x
  | tup s l _ ih => exact .tup (sqT_kp a s) l ih
  | lst e n l _ ih => exact .lst (a.get e n) n l ih
  | dct e n l q _ ih => exact .dct (a.get e n) n l q ih
theorem Dw.kp0 (a : Kp [] H H1) (h : Dw M K H v d) : Dw M K H1 v d := by
  induction h with
  | non => exact .non
  | bl b => exact .bl b
  | int i => exact .int i
  | str x => exact .str x
  | tup s l _ ih => exact .tup (sqT_kp a s) l ih
  | lst e n l _ ih => exact .lst (a.get e (by simp)) n l ih
  | dct e n l q _ ih => exact .dct (a.get e (by simp)) n l q ih
theorem Dw.sub {M' : List Addr} (s : ∀ a ∈ M', a ∈ M) (h : Dw M K H v d) : Dw M' K H v d := by
  induction h with
  | non => exact .non
  | bl b => exact .bl b
  | int i => exact .int i
  | str x => exact .str x
  | tup s l _ ih => exact .tup s l ih
  | lst e n l _ ih => exact .lst e (fun m => n (s _ m)) l ih
  | dct e n l q _ ih => exact .dct e (fun m => n (s _ m)) l q ih
theorem Dw.nil (h : Dw M K H v d) : Dw [] K H v d := h.sub (by simp)
theorem Dt.dw (h : Dt K H v d) : Dw M K H v d := by
  induction h with
  | non => exact .non
  | bl b => exact .bl b
  | int i => exact .int i
  | str x => exact .str x
  | tup s l _ ih => exact .tup s l ih
theorem Dw.isTup {ds : List PyData} (h : Dw M K H v (.tuple ds)) : ∃ (a : Addr) (xs : List V), v = .ref a ∧ SqT K H a xs ∧ xs.length = ds.length ∧
    ∀ (i : Nat) (v : V) (d : PyData), xs[i]? = some v → ds[i]? = some d → Dw M K H v d := by
  cases h with
  | tup s l q => exact ⟨_, _, rfl, s, l, q⟩
theorem Dw.isStr {x : Str} (h : Dw M K H v (.str x)) : v = .str x := by cases h; rfl
theorem Dw.isInt {i : Int} (h : Dw M K H v (.int i)) : v = .int i := by cases h; rfl
theorem Dw.ty (h : Dw M K H v d) : TyX K H v (.type (tyD d)) := by
  cases h with
  | non => exact .base .non
  | bl b => exact .base (.bl b)
  | int i => exact .base (.int i)
  | str z => exact .base (.str z)
  | tup s _ _ => exact tyX_T s
  | lst e _ _ _ => exact .base (.lst e)
  | dct e _ _ _ _ => exact .base (.dK e)
end
def qIs2 (K : PySem.W.Frag) : List V → Hp → VK → Prop := fun xs H Q => ∃ (x : V) (d : PyData) (n : String), xs = [x, .ty n] ∧ TyX K H x (.type (tyD d)) ∧
  n ∈ types ∧ Q (.bl (isaD d n)) H
theorem c_is2 {X : Cx} : CallR X (.builtin "isinstance") (qIs2 X.K) := by
  intro pins s σ H xs us Q I r h
  obtain ⟨x, d, n, rfl, hd, hn, q⟩ := h
  exact call_isi pins s σ H _ us Q I r ⟨x, _, _, _, _, rfl, .ty n, hd, kitD X.K d n hn, q⟩
section
variable {K : PySem.W.Frag} {M : List Addr} {H : Hp} {Q : VK} {x : V} {d : PyData} {n : String}
theorem r_is2 (h : Dw M K H x d) (hn : n ∈ types) (q : Q (.bl (isaD d n)) H) : qIs2 K [x, .ty n] H Q := ⟨x, d, n, rfl, h.ty, hn, q⟩
theorem r_is2T (h : Dw M K H x d) (e : isaD d n = true) (hn : n ∈ types) (q : Q (.bl true) H) : qIs2 K [x, .ty n] H Q := ⟨x, d, n, rfl, h.ty, hn, by rw [e]; exact q⟩
theorem r_is2F (h : Dw M K H x d) (e : isaD d n = false) (hn : n ∈ types) (q : Q (.bl false) H) : qIs2 K [x, .ty n] H Q := ⟨x, d, n, rfl, h.ty, hn, by rw [e]; exact q⟩
theorem r_is2i {i : Int} (hn : n ∈ types) (q : Q (.bl (isaD (.int i) n)) H) : qIs2 K [.int i, .ty n] H Q := r_is2 (M := []) (.int i) hn q
theorem r_is2s {i : Str} (hn : n ∈ types) (q : Q (.bl (isaD (.str i) n)) H) : qIs2 K [.str i, .ty n] H Q := r_is2 (M := []) (.str i) hn q
end

/-! ### texts, sign by sign -/
theorem sign_in (x : Str) (c : Nat) : (!(Builtin.Str.occurrences x ⟨#[c]⟩ 0 x.length 1).isEmpty) = decide (c ∈ x.cps.toList) := StrLaws.found_one x c
def rInC : R2 := fun x y H Q => ∃ (c : Nat) (z : Str), x = .str ⟨#[c]⟩ ∧ y = .str z ∧ Q (.bl (decide (c ∈ z.cps.toList))) H
def rNotInC : R2 := fun x y H Q => ∃ (c : Nat) (z : Str), x = .str ⟨#[c]⟩ ∧ y = .str z ∧ Q (.bl (!decide (c ∈ z.cps.toList))) H
section
variable {X : Cx} {H : Hp} {Q : VK} {σ : L2.St}
theorem op_inC : OpR X (compareOp .In) rInC := by
  intro pins s σ H x y v u Q I rx ry h
  obtain ⟨c, z, rfl, rfl, q⟩ := h
  exact op_in_str pins s σ H _ _ v u Q I rx ry ⟨_, _, rfl, rfl, by rw [sign_in]; exact q⟩
theorem op_notinC : OpR X (compareOp .NotIn) rNotInC := by
  intro pins s σ H x y v u Q I rx ry h
  obtain ⟨c, z, rfl, rfl, q⟩ := h
  exact op_notin_str pins s σ H _ _ v u Q I rx ry ⟨_, _, rfl, rfl, by rw [sign_in]; exact q⟩
theorem r_inC {c : Nat} {z : Str} (q : Q (.bl (decide (c ∈ z.cps.toList))) H) : rInC (.str ⟨#[c]⟩) (.str z) H Q := ⟨c, z, rfl, rfl, q⟩
theorem r_notinC {c : Nat} {z : Str} (q : Q (.bl (!decide (c ∈ z.cps.toList))) H) : rNotInC (.str ⟨#[c]⟩) (.str z) H Q := ⟨c, z, rfl, rfl, q⟩

/-! ### turned about; the last one taken; sign by sign -/
def RevL (K : PySem.W.Frag) (Q : VK) : V → Hp → Prop := fun x H1 => ∃ a xs, x = .ref a ∧ SqL K H1 a xs ∧ ∀ p, H1 p = none → Q (.ref p) (upd H1 p (.lst xs.reverse))
theorem r_revL {K : PySem.W.Frag} {te : TE} (h : te σ H (RevL K Q)) : tRevL K te σ H Q := h
theorem r_RevL {K : PySem.W.Frag} {a : Addr} {xs : List V} (s : SqL K H a xs) (h : ∀ p, H p = none → Q (.ref p) (upd H p (.lst xs.reverse))) : RevL K Q (.ref a) H := ⟨a, xs, rfl, s, h⟩
theorem r_pop {a : Addr} {xs : List V} {y : V} (h : H a = some (.lst (xs ++ [y]))) (q : Q y (upd H a (.lst xs))) : rPop (.ref a) [] H Q :=
  ⟨a, _, y, rfl, rfl, h, by simp, by rw [List.dropLast_concat]; exact q⟩
def LcS (g : TG) (tt : TT) (te : TE) (vs : List Nat) (σ : L2.St) (Q : VK) : V → Hp → Prop := fun v H1 => ∃ x, v = .str x ∧ LcTurns (Its x) g tt te vs σ Q H1
section
variable {g : TG} {tt : TT} {te ti : TE} {vs : List Nat}
theorem r_lcS (h : ti σ H (LcS g tt te vs σ Q)) : tLc (iStr ti) g tt te vs σ H Q := h
theorem r_LcS {x : Str} (h : ∀ p, H p = none → ∃ R : Nat → Hp → Prop, R 0 (upd H p (.lst [])) ∧
    (∀ (i : Nat) (c : Nat) H, x.cps.toList[i]? = some c → R i H → g (.str ⟨#[c]⟩) (wipe σ vs) H (LcTurn tt te vs σ p (R (i + 1)))) ∧ ∀ H, R x.cps.toList.length H → Q (.ref p) H) : LcS g tt te vs σ Q (.str x) H := by
  refine ⟨x, rfl, fun p hp => ?_⟩
  obtain ⟨R, h0, hs, hd⟩ := h p hp
  refine ⟨fun i m H' => i + m = x.cps.size ∧ R i H', ⟨x.cps.size, by omega, h0⟩, fun i m H' ⟨e, r⟩ => ?_⟩
  by_cases hi : i < x.cps.size
  · refine .inr ⟨hi, R (i + 1), fun H2 r2 => ⟨m - 1, by omega, by omega, r2⟩, fun v H2 hy => ?_⟩
    obtain ⟨rfl, c, hc, rfl⟩ := hy
    exact hs i c _ (by rw [Array.getElem?_toList]; exact hc) r
  · refine .inl ⟨by show x.cps.size ≤ i; omega, hd H' ?_⟩
    have e : i = x.cps.toList.length := by rw [Array.length_toList]; omega
    rw [← e]
    exact r
/-- the signs of a text that are not f -/
theorem r_LcSf {x : Str} {f : Nat → Bool} {i : Nat} (hz : x.length ≤ 16777216) (ht : ∀ (c : Nat) (H' : Hp) (R : Bool → Hp → Prop), R (f c) H' → tt ((wipe σ vs).set i (some (.str ⟨#[c]⟩))) H' R)
    (he : ∀ (c : Nat) (H' : Hp) (R : VK), R (.str ⟨#[c]⟩) H' → te ((wipe σ vs).set i (some (.str ⟨#[c]⟩))) H' R) (hw : ∀ v : V, wipe ((wipe σ vs).set i (some v)) vs = wipe σ vs)
    (h : ∀ p, H p = none → Q (.ref p) (upd H p (.lst ((x.cps.toList.filter f).map fun c => V.str ⟨#[c]⟩)))) : LcS (gName i) tt te vs σ Q (.str x) H := by
  refine r_LcS fun p hp => ⟨fun n H' => H' = upd H p (.lst (((x.cps.toList.take n).filter f).map fun c => V.str ⟨#[c]⟩)), rfl, ?_, ?_⟩
  · rintro n c H' hc rfl
    refine r_name (r_LcTurn (hw _) (ht c _ _ ?_))
    have htk : x.cps.toList.take (n + 1) = x.cps.toList.take n ++ [c] := by rw [List.take_add_one, hc]; rfl
    cases hf : f c with
    | true =>
      refine ifT (he c _ _ (r_LcEnd upd_same ?_ ?_))
      · rw [List.length_map, sizeLine_eq]
        have a := List.length_filter_le f (x.cps.toList.take n)
        rw [List.length_take] at a
        have b := (List.getElem?_eq_some_iff.mp hc).1
        have e : x.cps.toList.length = x.length := by rw [Array.length_toList]; rfl
        omega
      · show _ = upd H p (.lst (((x.cps.toList.take (n + 1)).filter f).map fun c => V.str ⟨#[c]⟩))
        rw [htk, List.filter_append, List.filter_cons_of_pos (by exact hf), List.filter_nil, List.map_append]
        funext b
        by_cases hb : b = p
        · rw [hb, upd_same, upd_same]
          rfl
        · rw [upd_ne hb, upd_ne hb, upd_ne hb]
    | false =>
      refine ifF ?_
      show _ = upd H p (.lst (((x.cps.toList.take (n + 1)).filter f).map fun c => V.str ⟨#[c]⟩))
      rw [htk, List.filter_append, List.filter_cons_of_neg (by rw [hf]; exact Bool.false_ne_true), List.filter_nil, List.append_nil]
  · rintro H' rfl
    rw [List.take_length]
    exact h p hp
end
/-! ### while -/
theorem r_while {c : TT} {tb : TS} {D : Ends} (Pv : Nat → L2.St → Hp → Prop) (m : Nat) (h0 : Pv m σ H)
    (hs : ∀ m σ H, Pv m σ H → c σ H fun b H1 => if b = true then ∃ N : L2.St → Hp → Prop, (∀ σ' H', N σ' H' → ∃ m', m' < m ∧ Pv m' σ' H') ∧ tb { D with nx := N, ct := N, bk := D.nx } σ H1 else D.nx σ H1) : tWhile c tb D σ H :=
  ⟨Pv, ⟨m, h0⟩, hs⟩
theorem r_turn {tb : TS} {D : Ends} {Pv : Nat → L2.St → Hp → Prop} {m : Nat} (h : tb { D with nx := fun σ' H' => ∃ m', m' < m ∧ Pv m' σ' H', ct := fun σ' H' => ∃ m', m' < m ∧ Pv m' σ' H', bk := D.nx } σ H) :
    ∃ N : L2.St → Hp → Prop, (∀ σ' H', N σ' H' → ∃ m', m' < m ∧ Pv m' σ' H') ∧ tb { D with nx := N, ct := N, bk := D.nx } σ H := ⟨_, fun _ _ z => z, h⟩
/-! ### d.get(k, x) -/
def DG2 (a : Addr) (Q : VK) : V → V → Hp → Prop := fun y z H3 => ∃ o, DGet H3 a y o ∧ Q (o.getD z) H3
def DG2a (ty tx : TE) (σ : L2.St) (Q : VK) : V → Hp → Prop := fun x H1 => ∃ a, x = .ref a ∧ IsD H1 a ∧ ty σ H1 fun y H2 => tx σ H2 fun z H3 => DG2 a Q y z H3
theorem r_dget2 {td ty tx : TE} (h : td σ H (DG2a ty tx σ Q)) : tDGet2 td ty tx σ H Q := h
theorem r_DG2a {ty tx : TE} {a : Addr} {kvs : List (Key × V)} (e : H a = some (.dK kvs)) (h : ty σ H fun y H2 => tx σ H2 fun z H3 => DG2 a Q y z H3) : DG2a ty tx σ Q (.ref a) H := ⟨a, rfl, .inl ⟨kvs, .inl e⟩, h⟩
theorem r_DG2 {a : Addr} {kvs : List (Key × V)} {z : V} {x : Str} (e : H a = some (.dK kvs)) (q : Q ((valV kvs (Sum.inr x)).getD z) H) : DG2 a Q (.str x) z H := ⟨_, DGet.k (k := Sum.inr x) e, q⟩
/-- a written dict of texts and ints -/
def szK (kvs : List (Str × Int)) : List (Key × V) := kvs.map fun p => (Sum.inr p.1, V.int p.2)
def szOf (kvs : List (Str × Int)) (w : Str) : Int := ((kvs.find? fun p => decide (p.1 = w)).map (·.2)).getD 0
theorem szK_get (w : Str) : ∀ kvs : List (Str × Int), (valV (szK kvs) (Sum.inr w)).getD (.int 0) = .int (szOf kvs w)
  | [] => rfl
  | (x, n) :: r => by
    have q := szK_get w r
    unfold valV szK szOf at q ⊢
    rw [List.map_cons]
    by_cases h : x = w
    · subst h
      rw [List.find?_cons_of_pos (by simp), List.find?_cons_of_pos (by simp)]
      rfl
    · rw [List.find?_cons_of_neg (by simpa using h), List.find?_cons_of_neg (by simpa using h)]
      exact q
/-! ### more walks -/
section
variable {K : PySem.W.Frag} {g : TG} {tt : TT} {te : TE} {ts : TA} {vs : List Nat} {tb : TS} {D : Ends}
theorem r_slT {a : Addr} {xs : List V} {lo hi : Option Int} (h : SqT K H a xs) (n : ¬ (HT.sIx xs.length 0 lo = 0 ∧ HT.sIx xs.length xs.length hi = xs.length)) (q : ∀ p, H p = none → Q (.ref p) (upd H p (.tup (cutV xs lo hi)))) : rSlT K (.ref a) lo hi H Q := ⟨a, xs, rfl, h, n, q⟩
def LcR2 (g : TG) (tt : TT) (te : TE) (vs : List Nat) (σ : L2.St) (Q : VK) : List V → Hp → Prop := fun us H1 => ∃ i j : Int, us = [.int i, .int j] ∧ (-(2 ^ 62) ≤ i ∧ i < 2 ^ 62 ∧ -(2 ^ 62) ≤ j ∧ j < 2 ^ 62) ∧ LcTurns (Itr i (j - i).toNat) g tt te vs σ Q H1
theorem r_lcR2 (h : ts σ H (LcR2 g tt te vs σ Q)) : tLc (iRng2 ts) g tt te vs σ H Q := h
theorem r_LcR2 {lo hi : Int} (h1 : -(2 ^ 62) ≤ lo ∧ lo < 2 ^ 62 ∧ -(2 ^ 62) ≤ hi ∧ hi < 2 ^ 62) (h : ∀ p, H p = none → ∃ R : Nat → Hp → Prop, R 0 (upd H p (.lst [])) ∧
    (∀ (i : Nat) H, i < (hi - lo).toNat → R i H → g (.int (lo + i)) (wipe σ vs) H (LcTurn tt te vs σ p (R (i + 1)))) ∧ ∀ H, R (hi - lo).toNat H → Q (.ref p) H) : LcR2 g tt te vs σ Q [.int lo, .int hi] H := by
  refine ⟨lo, hi, rfl, h1, fun p hp => ?_⟩
  obtain ⟨R, h0, hs, hd⟩ := h p hp
  exact lc_range (lo := lo) (n := (hi - lo).toNat) R h0 hs hd
def ForE (K : PySem.W.Frag) (g : TG) (tb : TS) (D : Ends) (σ : L2.St) : List V → Hp → Prop := fun us H1 => ∃ a xs, us = [.ref a] ∧ SqL K H1 a xs ∧ Turns (Ite K a) g tb D σ H1
theorem r_forE (h : ts σ H (ForE K g tb D σ)) : tFor (iEnum K ts) g tb D σ H := by
  refine cast ?_ h
  rfl
theorem r_ForE {a : Addr} {xs : List V} (s : SqL K H a xs) (R : Nat → L2.St → Hp → Prop) (h0 : R 0 σ H) (hl : ∀ i σ H, R i σ H → SqL K H a xs)
    (hs : ∀ (i : Nat) x σ H T, xs[i]? = some x → R i σ H → H T = none → g (.ref T) σ (upd H T (.tup [.int (i : Nat), x])) fun σ2 H2 => tb { D with nx := R (i + 1), ct := R (i + 1), bk := D.nx } σ2 H2)
    (hd : ∀ σ H, R xs.length σ H → D.nx σ H) : ForE K g tb D σ [.ref a] H := by
  refine ⟨a, xs, rfl, s, fun i m σ H => i + m = xs.length ∧ R i σ H, ⟨xs.length, by omega, h0⟩, fun i m σ H ⟨e, r⟩ => ?_⟩
  have sl := hl i σ H r
  by_cases hi : i < xs.length
  · refine .inr ⟨⟨xs, xs[i], sl, List.getElem?_eq_getElem hi⟩, R (i + 1), fun σ' H' r' => ⟨m - 1, by omega, by omega, r'⟩, fun v H' hy => ?_⟩
    obtain ⟨T, x, rfl, hT, rfl, hx⟩ := hy
    exact hs i x σ H T (hx xs sl) r hT
  · refine .inl ⟨⟨xs, sl, by omega⟩, hd σ H ?_⟩
    have e2 : i = xs.length := by omega
    rw [← e2]
    exact r
end
theorem ix_listK {X : Cx} {K : PySem.W.Frag} (h : X.K = K) : IxR X (rIxL K) := by
  subst h
  exact ix_list
theorem ix_tupK {X : Cx} {K : PySem.W.Frag} (h : X.K = K) : IxR X (rIxT K) := by
  subst h
  exact ix_tup
end
/-! ### repr of any data -/
def qRepr2 (K : PySem.W.Frag) : List V → Hp → VK → Prop := fun xs H Q => ∃ x d, xs = [x] ∧
    Dp K H x d ∧ d.showable = true ∧ d.hasDict = false ∧ d.depth ≤ 100 ∧ d.shown.length ≤ sizeLine ∧ Q (.str d.shown) H
theorem c_repr2 {X : Cx} {k : Nat} (hr : RoomG k X.A) : CallR X (.builtin "repr") (qRepr2 X.K) := by
  intro pins s σ H xs us Q I r h
  obtain ⟨x, d, rfl, hd, h1, h2, h3, h4, q⟩ := h
  cases hd with
  | non =>
    obtain ⟨u, rfl, r1⟩ := vals1 r
    cases (show u = Value.none from r1)
    refine PySem.P.repr_of_none ⟨.str _, H, I.tok _, ⟨_, rfl⟩, ?_⟩
    rw [PyData.shown] at q
    exact q
  | bl b =>
    obtain ⟨u, rfl, r1⟩ := vals1 r
    cases (show u = Value.bool b from r1)
    refine PySem.P.repr_of_bool ⟨.str _, H, I.tok _, ⟨_, rfl⟩, ?_⟩
    rw [PyData.shown] at q
    exact q
  | int i =>
    obtain ⟨u, rfl, r1⟩ := vals1 r
    obtain ⟨t, rfl⟩ := (show ∃ t, u = Value.int i t from r1)
    rw [PyData.showable] at h1
    refine PySem.P.repr_of_int (of_decide_eq_true h1) ⟨.str _, H, I.tok _, ⟨_, rfl⟩, ?_⟩
    rw [PyData.shown] at q
    exact q
  | str z =>
    obtain ⟨u, rfl, r1⟩ := vals1 r
    obtain ⟨t, rfl⟩ := (show ∃ t, u = Value.str z t from r1)
    rw [PyData.shown] at q h4
    exact PySem.P.repr_of_str ⟨.str _, H, I.tok _, ⟨_, rfl⟩, q⟩ h4
  | lst s' a => exact call_reprD hr pins s σ H _ us Q I r ⟨_, _, rfl, .lst s' a, h1, h2, h3, h4, q⟩
  | tup s' a => exact call_reprD hr pins s σ H _ us Q I r ⟨_, _, rfl, .tup s' a, h1, h2, h3, h4, q⟩
theorem r_repr2 {K : PySem.W.Frag} {H : Hp} {Q : VK} {x : V} {d : PyData} {k n : Nat} (h : Dp K H x d) (s : Shw d k n) (hk : k ≤ 100) (hn : n ≤ 16777216) (q : Q (.str d.shown) H) : qRepr2 K [x] H Q :=
  ⟨x, d, rfl, h, s.sh, s.nd, Nat.le_trans s.dep hk, by rw [sizeLine_eq]; exact Nat.le_trans s.len hn, q⟩
/-! ### a tuple, many times -/
def rRepW (K : PySem.W.Frag) : R2 := fun x y H Q => ∃ (l : Addr) (k : Int) (xs : List V), x = .ref l ∧ y = .int k ∧ SqT K H l xs ∧ xs ≠ [] ∧ 2 ≤ k ∧ k ≤ 100000 ∧ xs.length ≤ 100 ∧ ∀ p, H p = none → Q (.ref p) (upd H p (.tup (List.replicate k.toNat xs).flatten))
theorem op_repW {X : Cx} : OpR X (binaryOp .Mult) (rRepW X.K) := by
  intro pins s σ H x y v u Q I rx ry hh
  obtain ⟨l, k, xs, rfl, rfl, hT, hne, k2, k3, hz, q⟩ := hh
  cases rx
  obtain ⟨tk, rfl⟩ := ry
  obtain ⟨vals, rv, ⟨⟨cl, dd, da, sl⟩, ho, hc, n, hd⟩, hs⟩ := I.tuple hT
  simp only at hc hd
  subst hc
  subst hd
  have ev : vals.length = xs.length := rv.length.symm
  have hv0 : vals.toArray.isEmpty = false := by
    cases vals with
    | nil =>
      rw [List.length_nil] at ev
      exact absurd (List.eq_nil_of_length_eq_zero ev.symm) hne
    | cons _ _ => rfl
  have esz : vals.toArray.size = xs.length := by rw [List.size_toArray, ev]
  have hprod : ((vals.toArray.size : Nat) : Int) * k ≤ 10000000 := by
    rw [esz]
    have := Int.mul_le_mul_of_nonneg_right (show ((xs.length : Nat) : Int) ≤ 100 by omega) (show 0 ≤ k by omega)
    omega
  have hflat : k.toNat * xs.length ≤ 10000000 := by
    have := Nat.mul_le_mul (show k.toNat ≤ 100000 by omega) hz
    omega
  have b0 : (decide (k < -(2 ^ 63)) || decide (k ≥ 2 ^ 63)) = false := by simp; omega
  have b1 : (vals.toArray.isEmpty || k == 1) = false := by rw [hv0]; simp; omega
  have b2 : (decide (k ≤ 0) || vals.toArray.isEmpty) = false := by rw [hv0]; simp; omega
  have b4 : Builtin.Tuple.tupleTooMany (((vals.toArray.size : Nat) : Int) * k) = false := by
    unfold Builtin.Tuple.tupleTooMany
    rw [sizeLine_eq]
    exact decide_eq_false (by omega)
  have bs : (List.foldl (fun x1 x2 => x1 ++ x2) #[] (List.replicate k.toNat vals.toArray)).size ≤ sizeLine := by
    rw [size_rep, List.size_toArray, PyProof.Rows.lm_len_rep_flat, ev, sizeLine_eq]
    omega
  refine wpAny_binaryOp_repeat_ref (T := "tuple") (U := "int") (by decide) ⟨_, ho, rfl⟩ (fun s' => typeIs_int s' k tk)
    noFill_tuple_mul F.fills_int_mul F.slot_int_rmul repeat_tuple F.slot_int_index.lookup ?_
  refine call_meets F.slot_int_rmul (typeIs_int s k tk) F.entry_int_rmul (F.args_int_rmul_2 _ _)
    (int_rmul_tuple k tk l vals.toArray n dd sl) ⟨ho, rfl, ⟨_, ho, rfl⟩, ?_⟩
  refine call_meets F.slot_tuple_mul ⟨_, ho, rfl⟩ F.entry_tuple_mul (F.args_tuple_mul_2 _ _)
    (tuple_mulW l vals.toArray n dd sl k tk b0 b1 b2 (by omega) b4 bs) ⟨ho, ?_⟩
  rw [size_rep]
  refine ⟨.ref s.heap.objs.size, _, I.laid (t' := s.toks) (o := .tup (List.replicate k.toNat xs).flatten) (fun b ob z => Heap.get?_push_of_some _ z) (Nat.le_refl _) ?_, rfl, q _ (I.hok.fresh (Nat.le_refl _))⟩
  refine ⟨?_, _, rv.rep k.toNat, PyProof.Rows.IsTup.new _ _⟩
  rw [PyProof.Rows.lm_len_rep_flat, sizeLine_eq]
  omega
theorem r_repW {K : PySem.W.Frag} {H : Hp} {Q : VK} {l : Addr} {k : Int} {xs : List V} (h : SqT K H l xs) (h0 : xs ≠ []) (h1 : 2 ≤ k) (h2 : k ≤ 100000) (h3 : xs.length ≤ 100) (q : ∀ p, H p = none → Q (.ref p) (upd H p (.tup (List.replicate k.toNat xs).flatten))) :
    rRepW K (.ref l) (.int k) H Q := ⟨l, k, xs, rfl, rfl, h, h0, h1, h2, h3, q⟩
/-! ### written data -/
/-- an expression that makes data and keeps all that is there -/
def CD (K : PySem.W.Frag) (σ : L2.St) (H0 : Hp) (te : TE) (d : PyData) : Prop := ∀ (H : Hp) (Q : VK), Kp [] H0 H → (∀ H' v, Kp [] H H' → Dt K H' v d → Q v H') → te σ H Q
def CDs (K : PySem.W.Frag) (σ : L2.St) (H0 : Hp) (ts : TA) (ds : List PyData) : Prop := ∀ (H : Hp) (R : List V → Hp → Prop), Kp [] H0 H → (∀ H' vs, Kp [] H H' → DtL K H' vs ds → R vs H') → ts σ H R
section
variable {K : PySem.W.Frag} {σ : L2.St} {H0 : Hp} {te : TE} {ts : TA} {d : PyData} {ds : List PyData}
theorem cd_str {x : Str} : CD K σ H0 (tC (.str x)) (.str x) := fun H Q _ h => h H _ Kp.nil (.str x)
theorem cd_int {x : Int} : CD K σ H0 (tC (.int x)) (.int x) := fun H Q _ h => h H _ Kp.nil (.int x)
theorem cd_non : CD K σ H0 (tC .non) .none := fun H Q _ h => h H _ Kp.nil .non
theorem cd_var {i : Nat} {v : V} (e : σ[i]? = some (some v)) (hv : Dt K H0 v d) : CD K σ H0 (tVar i) d := fun H Q k h => ⟨v, e, h H _ Kp.nil (hv.kp k)⟩
theorem cds_nil : CDs K σ H0 tNil [] := fun H R _ h => h H _ Kp.nil DtL.nil
theorem cds_cons (a : CD K σ H0 te d) (b : CDs K σ H0 ts ds) : CDs K σ H0 (tCons te ts) (d :: ds) := fun H R k h =>
  a H _ k fun H1 v k1 hv => b H1 _ (k.trans k1) fun H2 vs k2 hs => h H2 (v :: vs) (k1.trans k2) (DtL.cons (hv.kp k2) hs)
theorem cd_tup (b : CDs K σ H0 ts ds) (hz : ds.length ≤ 16777216) : CD K σ H0 (tTup ts) (.tuple ds) := fun H Q k h =>
  b H _ k fun H1 vs k1 hs => ⟨by rw [hs.len, sizeLine_eq]; exact hz, fun p hp => h _ _ (k1.new hp) ((hs.kp (Kp.nil.new hp)).tup upd_same)⟩
theorem CD.use {H : Hp} {Q : VK} (a : CD K σ H te d) (h : ∀ H' v, Kp [] H H' → Dt K H' v d → Q v H') : te σ H Q := a H Q Kp.nil h
theorem CDs.use {H : Hp} {R : List V → Hp → Prop} (a : CDs K σ H ts ds) (h : ∀ H' vs, Kp [] H H' → DtL K H' vs ds → R vs H') : ts σ H R := a H R Kp.nil h
end
theorem DtL.app {K : PySem.W.Frag} {H : Hp} {vs us : List V} {ds es : List PyData} (h : DtL K H vs ds) (g : DtL K H us es) : DtL K H (vs ++ us) (ds ++ es) := by
  refine ⟨by rw [List.length_append, List.length_append, h.len, g.len], fun i u e q q' => ?_⟩
  by_cases hi : i < vs.length
  · rw [List.getElem?_append_left hi] at q
    rw [List.getElem?_append_left (by rw [← h.len]; exact hi)] at q'
    exact h.all i u e q q'
  · rw [List.getElem?_append_right (by omega)] at q
    rw [List.getElem?_append_right (by rw [← h.len]; omega), ← h.len] at q'
    exact g.all _ u e q q'
theorem DtL.rep {K : PySem.W.Frag} {H : Hp} {vs : List V} {ds : List PyData} (h : DtL K H vs ds) : ∀ n : Nat, DtL K H (List.replicate n vs).flatten (List.replicate n ds).flatten
  | 0 => DtL.nil
  | n + 1 => by
    rw [List.replicate_succ, List.replicate_succ, List.flatten_cons, List.flatten_cons]
    exact h.app (DtL.rep h n)
theorem Dt.items {K : PySem.W.Frag} {H : Hp} {v : V} {ds : List PyData} (h : Dt K H v (.tuple ds)) : ∃ (a : Addr) (xs : List V), v = .ref a ∧ SqT K H a xs ∧ DtL K H xs ds := by
  obtain ⟨a, xs, e, s, l, q⟩ := h.isTup
  exact ⟨a, xs, e, s, l, q⟩
theorem r_rep {H : Hp} {Q : VK} {l : Addr} {k : Int} {xs : List V} (h : H l = some (.lst xs)) (h1 : 0 ≤ k) (h2 : k ≤ 1000) (h3 : xs.length ≤ 1000) (q : ∀ p, H p = none → Q (.ref p) (upd H p (.lst (List.replicate k.toNat xs).flatten))) : rRep (.ref l) (.int k) H Q :=
  ⟨l, k, xs, rfl, rfl, h, by omega, by omega, by
    have := Nat.mul_le_mul h3 (show k.toNat ≤ 1000 by omega)
    rw [sizeLine_eq]
    omega, q⟩
theorem op_neNilK {X : Cx} {K : PySem.W.Frag} (h : X.K = K) (hu : X.A.units + 64 < cLine) : OpR X (compareOp .NotEq) (rNil K true) := by
  subst h
  exact op_neNil hu
theorem op_eqNilK {X : Cx} {K : PySem.W.Frag} (h : X.K = K) (hu : X.A.units + 64 < cLine) : OpR X (compareOp .Eq) (rNil K false) := by
  subst h
  exact op_eqNil hu
end Aw

/-! repr of data with lists and dicts; methods, makers -/
namespace Aw
open PySem PySem.Spec L2

section
variable {X : Cx} {pins : List (Addr × Obj)} {σ : L2.St} {H : Hp} {s : Shared}
theorem readsAll_of {h : Heap} : ∀ {xs : List V} {ds : List PyData} {its : List Value}, xs.length = ds.length → Vals xs its →
    (∀ (i : Nat) (v : V) (d : PyData), xs[i]? = some v → ds[i]? = some d → ∀ u, RelV v u → ∃ as, Reads h u d as ∧ sysModules ∉ as) → ∃ as, ReadsAll h its ds as ∧ sysModules ∉ as
  | [], [], _, _, r, _ => by
    cases r
    exact ⟨[], .nil, by simp⟩
  | x :: xs, d :: ds, _, l, r, f => by
    cases r with
    | cons r0 r1 =>
      obtain ⟨as, a1, a2⟩ := f 0 x d rfl rfl _ r0
      obtain ⟨bs, b1, b2⟩ := readsAll_of (by simpa using l) r1 fun i v d e e' => f (i + 1) v d (by simpa using e) (by simpa using e')
      exact ⟨as ++ bs, .cons a1 b1, fun m => (List.mem_append.mp m).elim a2 b2⟩
  | [], _ :: _, _, l, _, _ => by cases l
  | _ :: _, [], _, l, _, _ => by cases l
theorem Dw.reads {M : List Addr} {v : V} {d : PyData} (I : Inv X pins σ H s) (hM : H sysModules = none) (h : Dw M X.K H v d) : ∀ u, RelV v u → ∃ as, Reads s.heap u d as ∧ sysModules ∉ as := by
  induction h with
  | non => intro u r; cases r; exact ⟨_, Reads.none, by simp⟩
  | bl b => intro u r; cases r; exact ⟨_, Reads.bool b, by simp⟩
  | int i => intro u r; obtain ⟨t, rfl⟩ := r; exact ⟨_, Reads.int i t, by simp⟩
  | str x => intro u r; obtain ⟨t, rfl⟩ := r; exact ⟨_, Reads.str x t, by simp⟩
  | tup hs l _ ih =>
    intro u r
    cases r
    obtain ⟨its, rv, ⟨o, ho, hc, n, hd⟩, _⟩ := I.tuple hs
    obtain ⟨as, a1, a2⟩ := readsAll_of l rv ih
    exact ⟨_, Reads.tuple ho hc hd a1, a2⟩
  | @lst a xs ds he _ l _ ih =>
    intro u r
    cases r
    obtain ⟨its, rv, ⟨o, n, ho, hc, _, hd⟩, _⟩ := I.list (SqL.of he)
    obtain ⟨as, a1, a2⟩ := readsAll_of l rv ih
    refine ⟨_, Reads.list ho hc hd a1, fun m => ?_⟩
    rcases List.mem_cons.mp m with z | z
    · rw [z, he] at hM
      cases hM
    · exact a2 z
  | @dct a kvs ps he _ l hk _ ih =>
    intro u r
    cases r
    obtain ⟨_, hsm, vs, kv, o, es, ep, ho, hx, hd, _, pr, _⟩ := dk_of I.hok he
    have keys : ∀ {es : List DictEntry} {kvs : List (Key × V)} {vs : List (Key × Value)} {ps : List (PyData × PyData)}, PySem.Pairs (mixKind X.prog X.w) es vs → KV kvs vs → kvs.length = ps.length →
        (∀ (i : Nat) (kv : Key × V) (p : PyData × PyData), kvs[i]? = some kv → ps[i]? = some p → p.1 = keyD kv.1) →
        (∀ (i : Nat) (kv : Key × V) (p : PyData × PyData), kvs[i]? = some kv → ps[i]? = some p → ∀ u, RelV kv.2 u → ∃ as, Reads s.heap u p.2 as ∧ sysModules ∉ as) →
        (∃ as, ReadsAll s.heap (es.map (·.key)) (ps.map (·.1)) as ∧ sysModules ∉ as) ∧ (∃ as, ReadsAll s.heap (es.map (·.val)) (ps.map (·.2)) as ∧ sysModules ∉ as) := by
      intro es kvs vs ps pr
      induction pr generalizing kvs ps with
      | nil =>
        intro kv l hk ih
        cases kv
        have : ps = [] := List.length_eq_zero_iff.mp l.symm
        subst this
        exact ⟨⟨[], .nil, by simp⟩, ⟨[], .nil, by simp⟩⟩
      | @cons e q es qs h1 h2 h3 ihp =>
        intro kv l hk ih
        cases kv with
        | @cons p q' kvs' _ hpq hr =>
        cases ps with
        | nil => cases l
        | cons pp ps =>
          obtain ⟨⟨as, a1, a2⟩, ⟨bs, b1, b2⟩⟩ := ihp hr (by simpa using l) (fun i kv p e e' => hk (i + 1) kv p (by simpa using e) (by simpa using e')) (fun i kv p e e' => ih (i + 1) kv p (by simpa using e) (by simpa using e'))
          have hk0 := hk 0 _ _ rfl rfl
          obtain ⟨e1, e2⟩ := hpq
          obtain ⟨cs, c1, c2⟩ := ih 0 _ _ rfl rfl _ e2
          refine ⟨⟨[] ++ as, ?_, by simpa using a2⟩, ⟨cs ++ bs, ?_, fun m => (List.mem_append.mp m).elim c2 b2⟩⟩
          · refine ReadsAll.cons ?_ a1
            show Reads s.heap e.key pp.1 []
            rw [hk0, e1]
            rcases keyIs_shape h1 with ⟨i, t, z1, z2⟩ | ⟨x, t, z1, z2⟩
            · rw [z1, z2]
              exact Reads.int i t
            · rw [z1, z2]
              exact Reads.str x t
          · refine ReadsAll.cons ?_ b1
            show Reads s.heap e.val pp.2 cs
            rw [h2]
            exact c1
    obtain ⟨⟨as, a1, a2⟩, ⟨bs, b1, b2⟩⟩ := keys pr kv l hk ih
    refine ⟨_, Reads.dict ho hx.1 hd a1 b1, fun m => ?_⟩
    rcases List.mem_append.mp m with m | m
    · rcases List.mem_cons.mp m with z | z
      · rw [← z] at hsm
        exact absurd hsm (by decide)
      · exact a2 z
    · exact b2 m
end

/-- data that is shown, with dicts -/
structure ShwD (d : PyData) (k n : Nat) : Prop where
  sh : d.showable = true
  dep : d.depth ≤ k
  len : d.shown.length ≤ n
theorem Shw.toD {d : PyData} {k n : Nat} (h : Shw d k n) : ShwD d k n := ⟨h.sh, h.dep, h.len⟩
def qRepr3 (K : PySem.W.Frag) : List V → Hp → VK → Prop := fun xs H Q => ∃ x d, xs = [x] ∧
    Dw [] K H x d ∧ d.showable = true ∧ d.depth ≤ 100 ∧ d.shown.length ≤ sizeLine ∧ Q (.str d.shown) H
theorem c_repr3 {X : Cx} {k : Nat} (hr : RoomG k X.A) (hM : ∃ mm, X.base.Ns sysModules mm) : CallR X (.builtin "repr") (qRepr3 X.K) := by
  intro pins s σ H xs us Q I r h
  obtain ⟨x, d, rfl, hd, h1, h3, h4, q⟩ := h
  have hS : H sysModules = none := by
    obtain ⟨mm, o, es, ep, e, _⟩ := hM
    exact (I.bs _ _ e).2
  have go : ∀ a : Addr, x = .ref a → wpAny (model X.prog X.w) X.A (call (.builtin "repr") us) (EP X pins σ Q) X.xe s := by
    intro a e
    subst e
    obtain ⟨u, rfl, r1⟩ := vals1 r
    cases (show u = Value.ref a from r1)
    obtain ⟨as, rd, hn⟩ := hd.reads I hS _ r1
    have hu := hr.r.un
    refine repr_of_reads' rd h1 (fun _ => hn) hr.g (by omega) (fun _ _ e => e) (fun h' u tk hk => ?_) h4
    exact ⟨.str d.shown, H, I.kept hk, ⟨_, rfl⟩, q⟩
  cases hd with
  | non =>
    obtain ⟨u, rfl, r1⟩ := vals1 r
    cases (show u = Value.none from r1)
    refine PySem.P.repr_of_none ⟨.str _, H, I.tok _, ⟨_, rfl⟩, ?_⟩
    rw [PyData.shown] at q
    exact q
  | bl b =>
    obtain ⟨u, rfl, r1⟩ := vals1 r
    cases (show u = Value.bool b from r1)
    refine PySem.P.repr_of_bool ⟨.str _, H, I.tok _, ⟨_, rfl⟩, ?_⟩
    rw [PyData.shown] at q
    exact q
  | int i =>
    obtain ⟨u, rfl, r1⟩ := vals1 r
    obtain ⟨t, rfl⟩ := (show ∃ t, u = Value.int i t from r1)
    rw [PyData.showable] at h1
    refine PySem.P.repr_of_int (of_decide_eq_true h1) ⟨.str _, H, I.tok _, ⟨_, rfl⟩, ?_⟩
    rw [PyData.shown] at q
    exact q
  | str z =>
    obtain ⟨u, rfl, r1⟩ := vals1 r
    obtain ⟨t, rfl⟩ := (show ∃ t, u = Value.str z t from r1)
    rw [PyData.shown] at q h4
    exact PySem.P.repr_of_str ⟨.str _, H, I.tok _, ⟨_, rfl⟩, q⟩ h4
  | tup _ _ _ => exact go _ rfl
  | lst _ _ _ _ => exact go _ rfl
  | dct _ _ _ _ _ => exact go _ rfl
theorem r_repr3 {K : PySem.W.Frag} {H : Hp} {Q : VK} {x : V} {d : PyData} {k n : Nat} (h : Dw [] K H x d) (s : ShwD d k n) (hk : k ≤ 100) (hn : n ≤ 16777216) (q : Q (.str d.shown) H) : qRepr3 K [x] H Q :=
  ⟨x, d, rfl, h, s.sh, Nat.le_trans s.dep hk, by rw [sizeLine_eq]; exact Nat.le_trans s.len hn, q⟩

/-! ### methods and makers -/
theorem RoomG.make {k : Nat} {A : Around} (h : RoomG (k + 1) A) (C : Addr) (us : List Value) (kw : List (Str × Value)) : RoomG k (A.under (.builtin "type.__call__" ⟨.ref C :: us, kw⟩)) := ⟨h.r.make C us kw, h.g⟩
/-- a method of the class at C keeps its promise -/
def HasM (P : Program) (w : World) (K : PySem.W.Frag) (mg : Str → Option Value) (base : Heap) (CX : CXT) (C : Addr) (m : Str) (ps : List Str) (k : Nat) (sp : Sp) : Prop :=
  ∃ (f : Addr) (fd : FuncData), (∃ oc od osl, K.lookup f = some ⟨oc, od, .func fd, osl⟩) ∧ Meth K C m f ∧ Binds K fd ps [] ∧ FnG P w K mg base CX k f fd ps sp
/-- a method of the class at C stands in the top -/
def DfM (K : PySem.W.Frag) (C : Addr) (m q : Str) (st : Stmt) (ps : List Str) : Prop :=
  ∃ (f : Addr) (fd : FuncData), Fun K m q st f fd ∧ Meth K C m f ∧ Binds K fd ps []
section
variable {P : Program} {w : World} {K : PySem.W.Frag} {mg : Str → Option Value} {base : Heap} {CX : CXT} {C : Addr} {m q : Str} {st : Stmt} {ps N : List Str} {j k : Nat} {sp sp' : Sp}
theorem HasM.mono (h : HasM P w K mg base CX C m ps j sp) (z : j ≤ k) : HasM P w K mg base CX C m ps k sp := by
  obtain ⟨f, fd, a, b, c, d⟩ := h
  exact ⟨f, fd, a, b, c, d.mono z⟩
theorem HasM.imp (h : HasM P w K mg base CX C m ps k sp) (z : ∀ vs H Q E, sp' vs H Q E → sp vs H Q E) : HasM P w K mg base CX C m ps k sp' := by
  obtain ⟨f, fd, a, b, c, d⟩ := h
  exact ⟨f, fd, a, b, c, fun vs H Q E y => d.len _ _ _ _ (z _ _ _ _ y), fun A o s H ar us vs Q E hr he hb hv hs => d.run A o s H ar us vs Q E hr he hb hv (z _ _ _ _ hs)⟩
theorem DfM.void (d : DfM K C m q st ps) (h : ∀ vs H Q E, ¬ sp vs H Q E) : HasM P w K mg base CX C m ps 0 sp := by
  obtain ⟨f, fd, F, mm, b⟩ := d
  have lk : ∃ oc od osl, K.lookup f = some ⟨oc, od, .func fd, osl⟩ := by
    obtain ⟨oc, od, kV, doc, pm, an, cdv, ct, osl, rfl, lk, hcd⟩ := F.ex
    exact ⟨oc, od, osl, lk⟩
  exact ⟨f, fd, lk, mm, b, fun vs H Q E z => absurd z (h _ _ _ _), fun A o s H ar us vs Q E hr he hb hv hs => absurd hs (h _ _ _ _)⟩
theorem DfM.has (d : DfM K C m q st ps) (S : FnScope N ps (defScope st)) (len : ∀ vs H Q E, sp vs H Q E → vs.length = ps.length)
    (hb : ∀ (f : Addr) (cdv : Value) (A : Around) (outer : List Env) (s : Shared) (H : Hp) (vs : List V) (Q : VK) (E : XK),
      RoomG k (A.deeper (PyProof.Rows.envOfC q (defScope st) s.heap.objs.size f cdv)) → sp vs H Q E →
      ∃ t, PSs (cxOf CX0 P w K mg base N q (defScope st) f cdv A outer s H E).nox (defBody st) t ∧
        t { nx := fun _ H' => Q .non H', rt := Q } (start N vs) H) : HasM P w K mg base CX0 C m ps (k + 1) sp := by
  obtain ⟨f, fd, F, mm, b⟩ := d
  obtain ⟨oc, od, kV, doc, pm, an, cdv, ct, osl, rfl, lk, hcd⟩ := F.ex
  refine ⟨f, _, ⟨oc, od, osl, lk⟩, mm, b, fnG_of lk hcd S len fun A outer s H vs Q E hr hsp => ?_⟩
  obtain ⟨t, h, q⟩ := hb f cdv A outer s H vs Q E hr hsp
  exact ⟨t, h.nox, q⟩
end
section
variable {X : Cx} {CX : CXT} {k : Nat} {C : Addr} {ps : List Str} {sp : Sp} {E : XK} {x m : Str} {p pos apos : Pos} {e o : Expr} {es : List Expr} {ta : TE} {t : TA}
/-- o.m(e, ..) -/
theorem pe_m {pl : Sem Bool} (F : HasM X.prog X.w X.K X.mg X.base CX C m ps k sp) (c : Cls X.K C) (hr : RoomG k X.A) (hx : Passes CX X E) (he : PE X o ta) (ha : PA X (e :: es) t)
    (hst : starEach (e :: es) X.env = (false, eval e X.env) :: starEach es X.env := by rfl) (hpl : (backTo pos (starEach es X.env)).any (·.1) = false := by rfl)
    (ht : eval (.Call (.Attribute o m apos) (e :: es) [] pos) X.env = (do
      let ov ← eval o X.env
      standAt apos.atName
      let (f, first) ← holding [ov] (getMethod ov m pl)
      callWith pos f first (backTo pos (starEach (e :: es) X.env)) (backToKw pos (keywordEach [] X.env))) := by rfl) :
    PE X (.Call (.Attribute o m apos) (e :: es) [] pos) (tMeth C m sp [] E ta t) := by
  obtain ⟨f, fd, _, hm, hb, F⟩ := F
  refine ⟨fun pins s σ H Q I h => ?_⟩
  refine PySem.W.methodCall_KW (pl := pl) (thn (he.run pins s σ H _ I h) fun u s1 ⟨x, H1, I1, rx, a, dx, fs, ex, ea, l, q⟩ => ?_) ht
  subst ex
  obtain rfl : u = Value.ref a := rx
  refine getmeth_ok I1 ea c hm l ?_
  refine PySem.W.callWith_K (first := [.ref a]) (h₀ := X.base) I.ok.mod.kin hm.kp (thn (ha.run pos pins s1 σ H1 _ I1 q) fun us s2 ⟨vs, H2, I2, r, q2⟩ => ⟨I2.kIn, ?_⟩) hst hpl
  have q2 : sp (.ref a :: (vs ++ [])) H2 Q E := q2
  rw [List.append_nil] at q2
  exact runG (us := .ref a :: us) (vs := .ref a :: vs) F hr hb hx I2 (.cons rfl r) q2
theorem pe_m0 {pl : Sem Bool} (F : HasM X.prog X.w X.K X.mg X.base CX C m ps k sp) (c : Cls X.K C) (hr : RoomG k X.A) (hx : Passes CX X E) (he : PE X o ta)
    (ht : eval (.Call (.Attribute o m apos) [] [] pos) X.env = (do
      let ov ← eval o X.env
      standAt apos.atName
      let (f, first) ← holding [ov] (getMethod ov m pl)
      callWith pos f first (backTo pos (starEach [] X.env)) (backToKw pos (keywordEach [] X.env))) := by rfl) :
    PE X (.Call (.Attribute o m apos) [] [] pos) (tMeth C m sp [] E ta tNil) := by
  obtain ⟨f, fd, _, hm, hb, F⟩ := F
  refine ⟨fun pins s σ H Q I h => ?_⟩
  refine PySem.W.methodCall_KW (pl := pl) (thn (he.run pins s σ H _ I h) fun u s1 ⟨x, H1, I1, rx, a, dx, fs, ex, ea, l, q⟩ => ?_) ht
  subst ex
  obtain rfl : u = Value.ref a := rx
  refine getmeth_ok I1 ea c hm l ?_
  exact PySem.W.callWith_K0 (first := [.ref a]) I1.kIn hm.kp (runG (us := [.ref a]) (vs := [.ref a]) F hr hb hx I1 (.cons rfl .nil) q)
theorem runMake {f : Addr} {fd : FuncData} {pins : List (Addr × Obj)} {σ : L2.St} {H : Hp} {s : Shared} {Q : VK} {us : List Value} {vs : List V} (M : Mk X.K C f) (F : FnG X.prog X.w X.K X.mg X.base CX k f fd ps sp) (hr : RoomG (k + 1) X.A) (hb : Binds X.K fd ps [])
    (hx : Passes CX X E) (I : Inv X pins σ H s) (r : Vals vs us)
    (h : ∀ x dx, H x = none → H dx = none → dx ≠ x → sp (.ref x :: vs) (upd (upd H dx (.own x)) x (.ins C dx [])) (fun v H2 => v = .non ∧ Q (.ref x) H2) E) :
    wpAny (model X.prog X.w) X.A (call (.ref C) us) (EP X pins σ Q) X.xe s := by
  have hq := h (s.heap.objs.size + 1) s.heap.objs.size (I.hok.fresh (Nat.le_succ _)) (I.hok.fresh (Nat.le_refl _)) (Nat.ne_of_lt (Nat.lt_succ_self _))
  have I2 := Inv.made (C := C) I
  have r2 : Vals (V.ref (s.heap.objs.size + 1) :: vs) (Value.ref (s.heap.objs.size + 1) :: us) := .cons rfl r
  have hl : (Value.ref (s.heap.objs.size + 1) :: us ++ []).length = ps.length := by
    have e := r2.length
    rw [F.len _ _ _ _ hq] at e
    rw [List.append_nil]
    exact e.symm
  have bb := hb _ (Value.ref (s.heap.objs.size + 1) :: us) I2.kIn hl
  rw [List.append_nil] at bb
  refine wpAny_call (make_map (f := f) I.kIn M.makes M.init (beq_iff_eq.mp M.fn) (codeAny_mono (F.run _ X.stack _ _ ⟨Value.ref (s.heap.objs.size + 1) :: us, []⟩ (Value.ref (s.heap.objs.size + 1) :: us) _ _ E (hr.make C us [])
    (I2.env0.make C us []) bb r2 hq) fun r s' hq' => ?_))
  cases r with
  | error e => exact hx pins σ _ _ e s' I2 hq'
  | ok fl =>
    cases fl with
    | ret u =>
      obtain ⟨v, H', I3, rv, ev, q3⟩ := I2.after hq'
      subst ev
      exact ⟨rv, ⟨V.ref (s.heap.objs.size + 1), H', I3, rfl, q3⟩⟩
    | next => exact False.elim hq'
    | brk => exact False.elim hq'
    | cont => exact False.elim hq'
/-- a class of the top and its __init__ -/
def HasC (P : Program) (w : World) (K : PySem.W.Frag) (mg : Str → Option Value) (base : Heap) (CX : CXT) (x : Str) (C : Addr) (ps : List Str) (k : Nat) (sp : Sp) : Prop :=
  ∃ (f : Addr) (fd : FuncData), Mk K C f ∧ mg x = some (.ref C) ∧ Binds K fd ps [] ∧ FnG P w K mg base CX k f fd ps sp
theorem pe_new (F : HasC X.prog X.w X.K X.mg X.base CX x C ps k sp) (hr : RoomG (k + 1) X.A) (hg : Gl X x) (hx : Passes CX X E)
    (ha : PA X (e :: es) t) (hdb : (x == ("__debug__" : Str)) = false := by decide) (he : starEach (e :: es) X.env = (false, eval e X.env) :: starEach es X.env := by rfl) (hpl : (backTo pos (starEach es X.env)).any (·.1) = false := by rfl) :
    PE X (.Call (.Name x p) (e :: es) [] pos) (tMake C sp [] E t) := by
  obtain ⟨f, fd, M, hm, hb, F⟩ := F
  refine ⟨fun pins s σ H Q I h => ?_⟩
  refine wpAny_Call_Name_kw (ld_glob I hg hm ?_ hdb)
  refine PySem.W.callWith_K (h₀ := X.base) I.ok.mod.kin M.kp (thn (ha.run pos pins s σ H _ I h) fun us s1 ⟨vs, H1, I1, r, q⟩ => ⟨I1.kIn, ?_⟩) he hpl
  refine runMake M F hr hb hx I1 r fun x dx a b c => ?_
  have z : sp (.ref x :: (vs ++ [])) _ _ _ := q x dx a b c
  rw [List.append_nil] at z
  exact z
end
end Aw

/-! k01: programs as trees, their texts, the promises -/
namespace Aw
open PySem PySem.Spec L2

/-! ### expressions -/
inductive Ex where
  | int (i : Int)
  | name (x : Str)
  | bin (o : Str) (a b : Ex)
def opSign (o : Str) : Str := if o = "plus" then " + " else if o = "minus" then " - " else " * "
def Ex.d : Ex → PyData
  | .int i => .int i
  | .name x => .str x
  | .bin o a b => .tuple [.str o, a.d, b.d]
def Ex.text : Ex → Str
  | .int i => Str.ofString (toString i)
  | .name x => x
  | .bin o a b => "(" ++ a.text ++ opSign o ++ b.text ++ ")"
def IsOp (o : Str) : Prop := o = "plus" ∨ o = "minus" ∨ o = "times"
def Ex.ok : Nat → Ex → Prop
  | 0, _ => False
  | _ + 1, .int i => -99 ≤ i ∧ i ≤ 99
  | _ + 1, .name x => Sok x 8
  | n + 1, .bin o a b => IsOp o ∧ a.ok n ∧ b.ok n
theorem Ex.ok.succ : ∀ {n : Nat} {e : Ex}, e.ok n → e.ok (n + 1)
  | 0, _, h => h.elim
  | _ + 1, .int _, h => h
  | _ + 1, .name _, h => h
  | _ + 1, .bin _ _ _, h => ⟨h.1, h.2.1.succ, h.2.2.succ⟩
theorem Ex.ok.mono {m n : Nat} {e : Ex} (h : e.ok m) (q : m ≤ n) : e.ok n := by
  induction q with
  | refl => exact h
  | step _ ih => exact ih.succ
theorem opSign_ok {o : Str} (h : IsOp o) : Sok (opSign o) 3 := by
  rcases h with rfl | rfl | rfl <;> exact Sok.lit (by decide +kernel)
theorem IsOp.sok {o : Str} (h : IsOp o) : Sok o 5 := by
  rcases h with rfl | rfl | rfl <;> exact Sok.lit (by decide +kernel)
def eLen : Nat → Nat
  | 0 => 0
  | n + 1 => 2 * eLen n + 8
theorem Ex.ok.sok : ∀ {n : Nat} {e : Ex}, e.ok n → Sok e.text (eLen n)
  | 0, _, h => h.elim
  | n + 1, .int i, h => (Sok.num i h.1 h.2).mono (by unfold eLen; omega)
  | n + 1, .name x, h => Sok.mono h (by unfold eLen; omega)
  | n + 1, .bin o a b, h => by
    have h1 := h.2.1.sok
    have h2 := h.2.2.sok
    have l : Sok ("(" : Str) 1 := Sok.lit (by decide +kernel)
    have r : Sok (")" : Str) 1 := Sok.lit (by decide +kernel)
    exact ((((l.app h1).app (opSign_ok h.1)).app h2).app r).mono (by show 1 + eLen n + 3 + eLen n + 1 ≤ 2 * eLen n + 8; omega)

/-! ### tests -/
inductive Ts where
  | not (t : Ts)
  | given (x : Str)
  | rest (e : Ex) (b r : Int)
  | less (a b : Ex)
def Ts.d : Ts → PyData
  | .not t => .tuple [.str "not", t.d]
  | .given x => .tuple [.str "given", .str x]
  | .rest e b r => .tuple [.str "rest", e.d, .int b, .int r]
  | .less a b => .tuple [.str "less", a.d, b.d]
def numT (i : Int) : Str := Str.ofString (toString i)
def Ts.text : Ts → Str
  | .not t => "not " ++ t.text
  | .given x => "set " ++ x
  | .rest e b r => "rest " ++ numT r ++ " of " ++ numT b ++ " " ++ e.text
  | .less a b => a.text ++ " < " ++ b.text
def Ts.ok : Nat → Ts → Prop
  | 0, .not _ => False
  | n + 1, .not t => t.ok n
  | _, .given x => Sok x 8
  | _, .rest e b r => e.ok 3 ∧ 0 ≤ b ∧ b ≤ 99 ∧ 0 ≤ r ∧ r ≤ 99
  | _, .less a b => a.ok 3 ∧ b.ok 3
theorem Ts.ok.sok : ∀ {n : Nat} {t : Ts}, t.ok n → Sok t.text (4 * n + 200)
  | n + 1, .not t, h => by
    have q := Ts.ok.sok (n := n) (t := t) h
    have l : Sok ("not " : Str) 4 := Sok.lit (by decide +kernel)
    exact (l.app q).mono (by omega)
  | n, .given x, h => by
    have q : Sok x 8 := by cases n <;> exact h
    have l : Sok ("set " : Str) 4 := Sok.lit (by decide +kernel)
    exact (l.app q).mono (by omega)
  | n, .rest e b r, h => by
    have q : e.ok 3 ∧ 0 ≤ b ∧ b ≤ 99 ∧ 0 ≤ r ∧ r ≤ 99 := by cases n <;> exact h
    obtain ⟨q, b0, b1, r0, r1⟩ := q
    have l : Sok ("rest " : Str) 5 := Sok.lit (by decide +kernel)
    have m : Sok (" of " : Str) 4 := Sok.lit (by decide +kernel)
    have s : Sok (" " : Str) 1 := Sok.lit (by decide +kernel)
    exact (((((l.app (Sok.num r (by omega) r1)).app m).app (Sok.num b (by omega) b1)).app s).app q.sok).mono (by show 5 + 3 + 4 + 3 + 1 + 56 ≤ _; omega)
  | n, .less a b, h => by
    have q : a.ok 3 ∧ b.ok 3 := by cases n <;> exact h
    have m : Sok (" < " : Str) 3 := Sok.lit (by decide +kernel)
    exact ((q.1.sok.app m).app q.2.sok).mono (by show 56 + 3 + 56 ≤ _; omega)

/-! ### statements -/
inductive Pl where
  | set (x : Str) (e : Ex)
  | unset (x : Str)
  | tell (e : Ex)
  | say (w : Str)
  | stop (w : Str)
def Pl.d : Pl → PyData
  | .set x e => .tuple [.str "set", .str x, e.d]
  | .unset x => .tuple [.str "unset", .str x]
  | .tell e => .tuple [.str "tell", e.d]
  | .say w => .tuple [.str "say", .str w]
  | .stop w => .tuple [.str "stop", .str w]
def Pl.text : Pl → Str
  | .set x e => "set " ++ x ++ " " ++ e.text
  | .unset x => "unset" ++ " " ++ x
  | .tell e => "tell " ++ e.text
  | .say w => "say" ++ " " ++ w
  | .stop w => "stop" ++ " " ++ w
def Pl.ok : Pl → Prop
  | .set x e => Sok x 8 ∧ e.ok 3
  | .unset x => Sok x 8
  | .tell e => e.ok 3
  | .say w => Sok w 8
  | .stop w => Sok w 8
theorem Pl.ok.sok {s : Pl} (h : s.ok) : Sok s.text 100 := by
  have sp : Sok (" " : Str) 1 := Sok.lit (by decide +kernel)
  cases s with
  | set x e =>
    have l : Sok ("set " : Str) 4 := Sok.lit (by decide +kernel)
    exact (((l.app h.1).app sp).app h.2.sok).mono (by show 4 + 8 + 1 + 56 ≤ _; omega)
  | unset x =>
    have l : Sok ("unset" : Str) 5 := Sok.lit (by decide +kernel)
    exact ((l.app sp).app h).mono (by omega)
  | tell e =>
    have l : Sok ("tell " : Str) 5 := Sok.lit (by decide +kernel)
    exact (l.app (Ex.ok.sok h)).mono (by show 5 + 56 ≤ _; omega)
  | say w =>
    have l : Sok ("say" : Str) 3 := Sok.lit (by decide +kernel)
    exact ((l.app sp).app h).mono (by omega)
  | stop w =>
    have l : Sok ("stop" : Str) 4 := Sok.lit (by decide +kernel)
    exact ((l.app sp).app h).mono (by omega)

inductive Sm where
  | pl (s : Pl)
  | ifs (t : Ts) (y n : List Sm)
  | rep (k : Int) (b : List Sm)
mutual
def Sm.d : Sm → PyData
  | .pl s => s.d
  | .ifs t y n => .tuple [.str "if", t.d, .tuple (Sm.ds y), .tuple (Sm.ds n)]
  | .rep k b => .tuple [.str "repeat", .int k, .tuple (Sm.ds b)]
def Sm.ds : List Sm → List PyData
  | [] => []
  | s :: r => s.d :: Sm.ds r
end
theorem Sm.ds_map : ∀ b : List Sm, Sm.ds b = b.map Sm.d
  | [] => rfl
  | s :: r => by rw [Sm.ds, Sm.ds_map r, List.map_cons]
def Sm.line : Sm → Str
  | .pl s => s.text
  | .ifs t _ _ => "if " ++ t.text
  | .rep k _ => "repeat" ++ " " ++ numT k
mutual
def Sm.lines (ah : Str) : Sm → List Str
  | .pl s => [ah ++ s.text]
  | .ifs t y n => (ah ++ ("if " ++ t.text)) :: ((if y.isEmpty then [ah ++ "  " ++ "pass"] else Sm.all (ah ++ "  ") y) ++
      (if n.isEmpty then [] else (ah ++ "else") :: Sm.all (ah ++ "  ") n))
  | .rep k b => (ah ++ ("repeat" ++ " " ++ numT k)) :: (if b.isEmpty then [ah ++ "  " ++ "pass"] else Sm.all (ah ++ "  ") b)
def Sm.all (ah : Str) : List Sm → List Str
  | [] => []
  | s :: r => Sm.lines ah s ++ Sm.all ah r
end
theorem Sm.all_flat (ah : Str) : ∀ b : List Sm, Sm.all ah b = b.flatMap (Sm.lines ah)
  | [] => by rw [Sm.all, List.flatMap_nil]
  | s :: r => by rw [Sm.all, Sm.all_flat ah r, List.flatMap_cons]
def Sm.part (ah : Str) (b : List Sm) : List Str := if b.isEmpty then [ah ++ "pass"] else Sm.all ah b
mutual
def Sm.size : Sm → Nat
  | .pl _ => 1
  | .ifs _ y n => 1 + Sm.sizes y + Sm.sizes n
  | .rep _ b => 1 + Sm.sizes b
def Sm.sizes : List Sm → Nat
  | [] => 0
  | s :: r => Sm.size s + Sm.sizes r
end
theorem Sm.sizes_app : ∀ a b : List Sm, Sm.sizes (a ++ b) = Sm.sizes a + Sm.sizes b
  | [], b => by rw [List.nil_append, Sm.sizes, Nat.zero_add]
  | s :: r, b => by rw [List.cons_append, Sm.sizes, Sm.sizes, Sm.sizes_app r b, Nat.add_assoc]
theorem Sm.size_pos (s : Sm) : 1 ≤ s.size := by cases s <;> (rw [Sm.size]; omega)
theorem Sm.sizes_mem {s : Sm} : ∀ {b : List Sm}, s ∈ b → s.size ≤ Sm.sizes b
  | _ :: r, .head _ => by rw [Sm.sizes]; omega
  | _ :: r, .tail _ h => by have := Sm.sizes_mem h; rw [Sm.sizes]; omega
def Sm.ok : Nat → Sm → Prop
  | _, .pl s => s.ok
  | 0, .ifs _ _ _ => False
  | 0, .rep _ _ => False
  | n + 1, .ifs t y z => t.ok 2 ∧ (∀ s ∈ y, Sm.ok n s) ∧ (∀ s ∈ z, Sm.ok n s)
  | n + 1, .rep k b => 0 ≤ k ∧ k ≤ 8 ∧ ∀ s ∈ b, Sm.ok n s
theorem Sm.ok.line {n : Nat} {s : Sm} (h : s.ok n) : Sok s.line 300 := by
  have sp : Sok (" " : Str) 1 := Sok.lit (by decide +kernel)
  cases s with
  | pl s =>
    have q : s.ok := by cases n <;> exact h
    exact q.sok.mono (by omega)
  | ifs t y z =>
    cases n with
    | zero => exact h.elim
    | succ n =>
      have l : Sok ("if " : Str) 3 := Sok.lit (by decide +kernel)
      exact (l.app h.1.sok).mono (by omega)
  | rep k b =>
    cases n with
    | zero => exact h.elim
    | succ n =>
      have l : Sok ("repeat" : Str) 6 := Sok.lit (by decide +kernel)
      exact ((l.app sp).app (Sok.num k (by have := h.1; omega) (by have := h.2.1; omega))).mono (by omega)

/-- the lines of a block: how many, how long -/
theorem Sm.lines_ok : ∀ (n : Nat) (s : Sm) (ah : Str) (m : Nat), s.ok n → Sok ah m →
    (Sm.lines ah s).length ≤ 3 * s.size ∧ ∀ z ∈ Sm.lines ah s, Sok z (m + 2 * n + 310) := by
  intro n
  induction n with
  | zero =>
    intro s ah m h ha
    cases s with
    | pl s =>
      rw [Sm.lines]
      refine ⟨by simp [Sm.size], fun z hz => ?_⟩
      rw [List.mem_singleton.mp hz]
      exact (ha.app (Sm.ok.line (n := 0) (s := .pl s) h)).mono (by omega)
    | ifs t y z => exact h.elim
    | rep k b => exact h.elim
  | succ n ih =>
    intro s ah m h ha
    have two : Sok ("  " : Str) 2 := Sok.lit (by decide +kernel)
    have ps : Sok ("pass" : Str) 4 := Sok.lit (by decide +kernel)
    have el : Sok ("else" : Str) 4 := Sok.lit (by decide +kernel)
    have hl := Sm.ok.line h
    have alls : ∀ b : List Sm, (∀ s ∈ b, Sm.ok n s) → (Sm.all (ah ++ "  ") b).length ≤ 3 * Sm.sizes b ∧
        ∀ z ∈ Sm.all (ah ++ "  ") b, Sok z (m + 2 * (n + 1) + 310) := by
      intro b
      induction b with
      | nil =>
        intro _
        rw [Sm.all]
        exact ⟨Nat.zero_le _, fun z hz => nomatch hz⟩
      | cons s r ihr =>
        intro hb
        obtain ⟨h1, h2⟩ := ih s (ah ++ "  ") (m + 2) (hb s (List.mem_cons_self ..)) (ha.app two)
        obtain ⟨h3, h4⟩ := ihr fun s hs => hb s (List.mem_cons_of_mem _ hs)
        rw [Sm.all, Sm.sizes, List.length_append]
        refine ⟨by omega, fun z hz => ?_⟩
        rcases List.mem_append.mp hz with hz | hz
        · exact (h2 z hz).mono (by omega)
        · exact h4 z hz
    have part : ∀ b : List Sm, (∀ s ∈ b, Sm.ok n s) → (if b.isEmpty then [ah ++ "  " ++ "pass"] else Sm.all (ah ++ "  ") b).length ≤ 3 * Sm.sizes b + 1 ∧
        ∀ z ∈ (if b.isEmpty then [ah ++ "  " ++ "pass"] else Sm.all (ah ++ "  ") b), Sok z (m + 2 * (n + 1) + 310) := by
      intro b hb
      cases b with
      | nil =>
        refine ⟨by simp, fun z hz => ?_⟩
        rw [List.mem_singleton.mp hz]
        exact ((ha.app two).app ps).mono (by omega)
      | cons s r =>
        obtain ⟨h1, h2⟩ := alls _ hb
        exact ⟨Nat.le_succ_of_le h1, h2⟩
    cases s with
    | pl s =>
      rw [Sm.lines]
      refine ⟨by simp [Sm.size], fun z hz => ?_⟩
      rw [List.mem_singleton.mp hz]
      exact (ha.app hl).mono (by omega)
    | ifs t y z =>
      obtain ⟨p1, p2⟩ := part y h.2.1
      obtain ⟨q1, q2⟩ := alls z h.2.2
      have e2 : (if z.isEmpty then [] else (ah ++ "else") :: Sm.all (ah ++ "  ") z).length ≤ 3 * Sm.sizes z + 1 := by
        split
        · exact Nat.zero_le _
        · rw [List.length_cons]
          omega
      rw [Sm.lines, Sm.size, List.length_cons, List.length_append]
      refine ⟨by omega, fun u hu => ?_⟩
      rcases List.mem_cons.mp hu with rfl | hu
      · exact (ha.app hl).mono (by omega)
      rcases List.mem_append.mp hu with hu | hu
      · exact p2 u hu
      · split at hu
        · cases hu
        · rcases List.mem_cons.mp hu with rfl | hu
          · exact (ha.app el).mono (by omega)
          · exact q2 u hu
    | rep k b =>
      obtain ⟨p1, p2⟩ := part b h.2.2
      rw [Sm.lines, Sm.size, List.length_cons]
      refine ⟨by omega, fun u hu => ?_⟩
      rcases List.mem_cons.mp hu with rfl | hu
      · exact (ha.app hl).mono (by omega)
      · exact p2 u hu
theorem Sm.all_ok (n : Nat) (ah : Str) (m : Nat) (ha : Sok ah m) : ∀ b : List Sm, (∀ s ∈ b, Sm.ok n s) →
    (Sm.all ah b).length ≤ 3 * Sm.sizes b ∧ ∀ z ∈ Sm.all ah b, Sok z (m + 2 * n + 310)
  | [], _ => by
    rw [Sm.all]
    exact ⟨Nat.zero_le _, fun z hz => nomatch hz⟩
  | s :: r, hb => by
    obtain ⟨h1, h2⟩ := Sm.lines_ok n s ah m (hb s (List.mem_cons_self ..)) ha
    obtain ⟨h3, h4⟩ := Sm.all_ok n ah m ha r fun s hs => hb s (List.mem_cons_of_mem _ hs)
    rw [Sm.all, Sm.sizes, List.length_append]
    refine ⟨by omega, fun z hz => ?_⟩
    rcases List.mem_append.mp hz with hz | hz
    · exact h2 z hz
    · exact h4 z hz
/-! ### what may be compared: data of bounded depth -/
theorem depth_tup {ds : List PyData} {n : Nat} (h : ∀ d ∈ ds, d.depth ≤ n) : (PyData.tuple ds).depth ≤ n + 1 := by
  have q : PyData.depthAll ds ≤ n := by
    induction ds with
    | nil => exact Nat.zero_le _
    | cons d r ih =>
      rw [PyData.depthAll]
      exact Nat.max_le.mpr ⟨h d (List.mem_cons_self ..), ih fun d hd => h d (List.mem_cons_of_mem _ hd)⟩
  rw [PyData.depth]
  omega
theorem lay_tup {ds : List PyData} (h : ∀ d ∈ ds, d.canLay0 = true) : (PyData.tuple ds).canLay0 = true := by
  rw [PyData.canLay0]
  induction ds with
  | nil => rfl
  | cons d r ih =>
    rw [PyData.canLayAll0, h d (List.mem_cons_self ..), ih fun d hd => h d (List.mem_cons_of_mem _ hd)]
    rfl
/-- data that may be compared -/
structure Cmp (d : PyData) (n : Nat) : Prop where
  lay : d.canLay0 = true
  dep : d.depth ≤ n
theorem Cmp.tup {ds : List PyData} {n : Nat} (h : ∀ d ∈ ds, Cmp d n) : Cmp (.tuple ds) (n + 1) :=
  ⟨lay_tup fun d hd => (h d hd).lay, depth_tup fun d hd => (h d hd).dep⟩
theorem Cmp.mono {d : PyData} {m n : Nat} (h : Cmp d m) (q : m ≤ n) : Cmp d n := ⟨h.lay, Nat.le_trans h.dep q⟩
theorem Cmp.str {x : Str} {k n : Nat} (h : Sok x k) : Cmp (.str x) n := ⟨by rw [PyData.canLay0]; exact h.ok, by rw [PyData.depth]; exact Nat.zero_le _⟩
theorem Cmp.int {i : Int} {n : Nat} : Cmp (.int i) n := ⟨by rw [PyData.canLay0], by rw [PyData.depth]; exact Nat.zero_le _⟩
theorem Cmp.shaped {d : PyData} {n : Nat} (h : Cmp d n) (q : n ≤ 64) : SeqAt.shaped d = true := by
  unfold SeqAt.shaped
  rw [h.lay, decide_eq_true (Nat.le_trans h.dep q)]
  rfl
theorem Cmp.nil {n : Nat} : Cmp (.tuple []) (n + 1) := Cmp.tup fun _ h => nomatch h
theorem Ex.ok.cmp : ∀ {n : Nat} {e : Ex}, e.ok n → Cmp e.d n
  | 0, _, h => h.elim
  | _ + 1, .int i, h => Cmp.int
  | _ + 1, .name x, h => Cmp.str h
  | n + 1, .bin o a b, h => by
    rw [Ex.d]
    refine Cmp.tup fun d hd => ?_
    simp only [List.mem_cons, List.not_mem_nil, or_false] at hd
    rcases hd with rfl | rfl | rfl
    · exact Cmp.str h.1.sok
    · exact h.2.1.cmp
    · exact h.2.2.cmp
theorem Ts.ok.cmp : ∀ {n : Nat} {t : Ts}, t.ok n → Cmp t.d (n + 4)
  | n + 1, .not t, h => by
    have q := Ts.ok.cmp (n := n) (t := t) h
    rw [Ts.d]
    refine Cmp.mono (m := n + 4 + 1) (Cmp.tup fun d hd => ?_) (by omega)
    simp only [List.mem_cons, List.not_mem_nil, or_false] at hd
    rcases hd with rfl | rfl
    · exact Cmp.str (k := 3) (Sok.lit (by decide +kernel))
    · exact q
  | n, .given x, h => by
    have q : Sok x 8 := by cases n <;> exact h
    rw [Ts.d]
    refine Cmp.mono (m := 0 + 1) (Cmp.tup fun d hd => ?_) (by omega)
    simp only [List.mem_cons, List.not_mem_nil, or_false] at hd
    rcases hd with rfl | rfl
    · exact Cmp.str (k := 5) (Sok.lit (by decide +kernel))
    · exact Cmp.str q
  | n, .rest e b r, h => by
    have q : e.ok 3 ∧ 0 ≤ b ∧ b ≤ 99 ∧ 0 ≤ r ∧ r ≤ 99 := by cases n <;> exact h
    rw [Ts.d]
    refine Cmp.mono (m := 3 + 1) (Cmp.tup fun d hd => ?_) (by omega)
    simp only [List.mem_cons, List.not_mem_nil, or_false] at hd
    rcases hd with rfl | rfl | rfl | rfl
    · exact Cmp.str (k := 4) (Sok.lit (by decide +kernel))
    · exact q.1.cmp
    · exact Cmp.int
    · exact Cmp.int
  | n, .less a b, h => by
    have q : a.ok 3 ∧ b.ok 3 := by cases n <;> exact h
    rw [Ts.d]
    refine Cmp.mono (m := 3 + 1) (Cmp.tup fun d hd => ?_) (by omega)
    simp only [List.mem_cons, List.not_mem_nil, or_false] at hd
    rcases hd with rfl | rfl | rfl
    · exact Cmp.str (k := 4) (Sok.lit (by decide +kernel))
    · exact q.1.cmp
    · exact q.2.cmp
theorem Pl.ok.cmp {s : Pl} (h : s.ok) : Cmp s.d 4 := by
  cases s <;> rw [Pl.d] <;> refine Cmp.tup fun d hd => ?_ <;> simp only [List.mem_cons, List.not_mem_nil, or_false] at hd
  · rcases hd with rfl | rfl | rfl
    · exact Cmp.str (k := 3) (Sok.lit (by decide +kernel))
    · exact Cmp.str h.1
    · exact h.2.cmp
  · rcases hd with rfl | rfl
    · exact Cmp.str (k := 5) (Sok.lit (by decide +kernel))
    · exact Cmp.str h
  · rcases hd with rfl | rfl
    · exact Cmp.str (k := 4) (Sok.lit (by decide +kernel))
    · exact Ex.ok.cmp h
  · rcases hd with rfl | rfl
    · exact Cmp.str (k := 3) (Sok.lit (by decide +kernel))
    · exact Cmp.str h
  · rcases hd with rfl | rfl
    · exact Cmp.str (k := 4) (Sok.lit (by decide +kernel))
    · exact Cmp.str h
theorem Sm.ok.cmp : ∀ (n : Nat) (s : Sm), s.ok n → Cmp s.d (2 * n + 8) := by
  intro n
  induction n with
  | zero =>
    intro s h
    cases s with
    | pl s =>
      rw [Sm.d]
      exact (Pl.ok.cmp h).mono (by omega)
    | ifs t y z => exact h.elim
    | rep k b => exact h.elim
  | succ n ih =>
    intro s h
    have all : ∀ b : List Sm, (∀ s ∈ b, Sm.ok n s) → Cmp (.tuple (Sm.ds b)) (2 * n + 9) := by
      intro b hb
      refine Cmp.tup fun d hd => ?_
      rw [Sm.ds_map] at hd
      obtain ⟨s, hs, rfl⟩ := List.mem_map.mp hd
      exact ih s (hb s hs)
    cases s with
    | pl s =>
      rw [Sm.d]
      exact (Pl.ok.cmp h).mono (by omega)
    | ifs t y z =>
      rw [Sm.d]
      refine Cmp.mono (m := 2 * n + 9 + 1) (Cmp.tup fun d hd => ?_) (by omega)
      simp only [List.mem_cons, List.not_mem_nil, or_false] at hd
      rcases hd with rfl | rfl | rfl | rfl
      · exact Cmp.str (k := 2) (Sok.lit (by decide +kernel))
      · exact h.1.cmp.mono (by omega)
      · exact all y h.2.1
      · exact all z h.2.2
    | rep k b =>
      rw [Sm.d]
      refine Cmp.mono (m := 2 * n + 9 + 1) (Cmp.tup fun d hd => ?_) (by omega)
      simp only [List.mem_cons, List.not_mem_nil, or_false] at hd
      rcases hd with rfl | rfl | rfl
      · exact Cmp.str (k := 6) (Sok.lit (by decide +kernel))
      · exact Cmp.int
      · exact all b h.2.2
theorem Sm.block_cmp {n : Nat} {b : List Sm} (h : ∀ s ∈ b, Sm.ok n s) : Cmp (.tuple (Sm.ds b)) (2 * n + 9) := by
  refine Cmp.tup fun d hd => ?_
  rw [Sm.ds_map] at hd
  obtain ⟨s, hs, rfl⟩ := List.mem_map.mp hd
  exact Sm.ok.cmp n s (h s hs)
theorem eqv_nil (ds : List PyData) : PyData.eqv (.tuple ds) (.tuple []) = ds.isEmpty := by
  cases ds with
  | nil => rfl
  | cons d r => rfl

def signK : List (Key × V) := [(.inr "plus", .str " + "), (.inr "minus", .str " - "), (.inr "times", .str " * ")]
theorem signK_get {o : Str} (h : IsOp o) : valV (mergeK [] signK) (Sum.inr o) = some (.str (opSign o)) := by
  rcases h with rfl | rfl | rfl <;> decide +kernel

def Pl.word : Pl → Str
  | .set _ _ => "set"
  | .unset _ => "unset"
  | .tell _ => "tell"
  | .say _ => "say"
  | .stop _ => "stop"
theorem Pl.head {K : PySem.W.Frag} {H : Hp} {v : V} {s : Pl} (h : Dt K H v s.d) : ∃ (p : Addr) (ys : List V), v = .ref p ∧ SqT K H p ys ∧ atI ys 0 = some (.str s.word) := by
  cases s with
  | set x e =>
    obtain ⟨p, a, b, c, rfl, hT, h1, _, _⟩ := Dt.is3 h
    obtain rfl := Dt.isStr h1
    exact ⟨p, _, rfl, hT, rfl⟩
  | unset x =>
    obtain ⟨p, a, b, rfl, hT, h1, _⟩ := Dt.is2 h
    obtain rfl := Dt.isStr h1
    exact ⟨p, _, rfl, hT, rfl⟩
  | tell e =>
    obtain ⟨p, a, b, rfl, hT, h1, _⟩ := Dt.is2 h
    obtain rfl := Dt.isStr h1
    exact ⟨p, _, rfl, hT, rfl⟩
  | say x =>
    obtain ⟨p, a, b, rfl, hT, h1, _⟩ := Dt.is2 h
    obtain rfl := Dt.isStr h1
    exact ⟨p, _, rfl, hT, rfl⟩
  | stop x =>
    obtain ⟨p, a, b, rfl, hT, h1, _⟩ := Dt.is2 h
    obtain rfl := Dt.isStr h1
    exact ⟨p, _, rfl, hT, rfl⟩
theorem Pl.word_in (s : Pl) : inV (.str s.word) [.str "if", .str "repeat"] = false := by
  cases s <;> simp only [Pl.word] <;> decide +kernel
theorem Pl.word_ne (s : Pl) : V.str s.word ≠ V.str "if" := by
  cases s <;> simp only [Pl.word] <;> decide +kernel

/-! ### the promises -/
/-- the text of an expression -/
def spExT (K : PySem.W.Frag) (n : Nat) : Sp := fun vs H Q _ => ∃ (v : V) (e : Ex), vs = [v] ∧ Dt K H v e.d ∧ e.ok n ∧
  ∀ H', Kp [] H H' → Q (.str e.text) H'
/-- the text of a test -/
def spTsT (K : PySem.W.Frag) (n : Nat) : Sp := fun vs H Q _ => ∃ (v : V) (t : Ts), vs = [v] ∧ Dt K H v t.d ∧ t.ok n ∧
  ∀ H', Kp [] H H' → Q (.str t.text) H'
/-- the line of a statement -/
def spLine (K : PySem.W.Frag) : Sp := fun vs H Q _ => ∃ (v : V) (s : Sm) (n : Nat), vs = [v] ∧ Dt K H v s.d ∧ s.ok n ∧
  ∀ H', Kp [] H H' → Q (.str s.line) H'
/-- the lines of a block -/
def spLines (K : PySem.W.Frag) (n : Nat) : Sp := fun vs H Q _ => ∃ (v : V) (b : List Sm) (ah : Str), vs = [v, .str ah] ∧ Dt K H v (.tuple (Sm.ds b)) ∧
  (∀ s ∈ b, Sm.ok n s) ∧ Sm.sizes b ≤ 100 ∧ Sok ah (20 - 2 * n) ∧ n ≤ 4 ∧
  ∀ H' p, Kp [] H H' → H p = none → H' p = some (.lst ((Sm.all ah b).map V.str)) → Q (.ref p) H'
def spPart (K : PySem.W.Frag) (n : Nat) : Sp := fun vs H Q _ => ∃ (v : V) (b : List Sm) (ah : Str), vs = [v, .str ah] ∧ Dt K H v (.tuple (Sm.ds b)) ∧
  (∀ s ∈ b, Sm.ok n s) ∧ Sm.sizes b ≤ 100 ∧ Sok ah (20 - 2 * n) ∧ n ≤ 4 ∧
  ∀ H' p, Kp [] H H' → H p = none → H' p = some (.lst ((Sm.part ah b).map V.str)) → Q (.ref p) H'
/-- the text of a program -/
def progT (b : List Sm) : Str := Txt.join "\n" ("program" :: Sm.all "" b)
def spProgT (K : PySem.W.Frag) : Sp := fun vs H Q _ => ∃ (v : V) (b : List Sm), vs = [v] ∧ Dt K H v (.tuple (Sm.ds b)) ∧
  (∀ s ∈ b, Sm.ok 4 s) ∧ Sm.sizes b ≤ 100 ∧ ∀ H', Kp [] H H' → Q (.str (progT b)) H'
theorem signs_mk {K : PySem.W.Frag} {w : World} {h : Heap} {mg : Str → Option Value} {dS : Addr} {es : Array DictEntry} {n : Nat} {t1 t2 t3 : Tok} (X : K.In h) (G : h.Ns mainGlobals mg)
    (z1 : PySem.W.nsIn K mainGlobals "SIGNS" = some (some (.ref dS))) (z2 : K.lookup dS = some ⟨.type "dict", none, .dict es n, #[]⟩)
    (z4 : PySem.W.nsIn K dS "plus" = some (some (.str " + " t1))) (z5 : PySem.W.nsIn K dS "minus" = some (some (.str " - " t2))) (z6 : PySem.W.nsIn K dS "times" = some (some (.str " * " t3)))
    (z3 : PySem.W.KeysLit w.params es.toList) : ∃ dS, mg "SIGNS" = some (.ref dS) ∧ ∀ o, IsOp o → KDct K w dS o (.str (opSign o)) := by
  refine ⟨dS, PySem.W.mg_of X G z1, fun o ho => ?_⟩
  rcases ho with rfl | rfl | rfl
  · exact ⟨es, n, _, z2, z3, z4, ⟨t1, rfl⟩⟩
  · exact ⟨es, n, _, z2, z3, z5, ⟨t2, rfl⟩⟩
  · exact ⟨es, n, _, z2, z3, z6, ⟨t3, rfl⟩⟩
end Aw

/-! the makers of programs: promises -/
namespace Aw
open PySem PySem.Spec L2

structure Nms (H : Hp) (a : Addr) (xs : List Str) : Prop where
  h : H a = some (.lst (xs.map V.str))
  ne : 1 ≤ xs.length
  ok : ∀ x ∈ xs, Sok x 8
  len : xs.length ≤ 100
theorem Nms.kp {M : List Addr} {H H1 : Hp} {a : Addr} {xs : List Str} (h : Nms H a xs) (k : Kp M H H1) (n : a ∉ M) : Nms H1 a xs := ⟨k.get h.h n, h.ne, h.ok, h.len⟩
theorem Nms.item {H : Hp} {a : Addr} {xs : List Str} (h : Nms H a xs) {i : Nat} {x : V} (e : (xs.map V.str)[i]? = some x) : ∃ z : Str, x = .str z ∧ Sok z 8 := by
  rw [List.getElem?_map] at e
  obtain ⟨z, hz, rfl⟩ := Option.map_eq_some_iff.mp e
  exact ⟨z, rfl, h.ok z (List.mem_of_getElem? hz)⟩

def eDraws : Nat → Nat
  | 0 => 0
  | n + 1 => 3 + 2 * eDraws n
theorem eDraws_le : ∀ {m : Nat}, m ≤ 3 → eDraws m ≤ 21
  | 0, _ => by decide
  | 1, _ => by decide
  | 2, _ => by decide
  | 3, _ => by decide
theorem Ex.ok_int {m : Nat} {i : Int} (h : 1 ≤ m) (h1 : -99 ≤ i) (h2 : i ≤ 99) : (Ex.int i).ok m := by
  cases m with
  | zero => omega
  | succ m => exact ⟨h1, h2⟩
theorem Ex.ok_name {m : Nat} {x : Str} (h : 1 ≤ m) (h1 : Sok x 8) : (Ex.name x).ok m := by
  cases m with
  | zero => omega
  | succ m => exact h1
/-- an expression is made -/
def spExpr (K : PySem.W.Frag) (m : Nat) : Sp := fun vs H Q _ => ∃ (d c nm : Addr) (n : Int) (xs : List Str), vs = [.ref d, .ref nm, .int m] ∧ Deck H d c n ∧ n + eDraws m < 10 ^ 12 ∧ Nms H nm xs ∧ nm ≠ d ∧ nm ≠ c ∧
  ∀ (H' : Hp) (v : V) (e : Ex) (n' : Int), Deck H' d c n' → n ≤ n' → n' ≤ n + eDraws m → Kp [d, c] H H' → Dt K H' v e.d → e.ok m → Q v H'
def spExprA (K : PySem.W.Frag) : Sp := fun vs H Q E => ∃ i : { m : Nat // 1 ≤ m ∧ m ≤ 3 }, spExpr K i.1 vs H Q E
theorem spExprA.use {K : PySem.W.Frag} {H : Hp} {Q : VK} {E : XK} {d c nm : Addr} {n m : Int} {xs : List Str} (D : Deck H d c n) (hn : n + 21 < 10 ^ 12) (N : Nms H nm xs) (n1 : nm ≠ d) (n2 : nm ≠ c) (m1 : 1 ≤ m) (m2 : m ≤ 3)
    (k : ∀ (H' : Hp) (v : V) (e : Ex) (n' : Int), Deck H' d c n' → n ≤ n' → n' ≤ n + 21 → Kp [d, c] H H' → Dt K H' v e.d → e.ok 3 → Q v H') : spExprA K [.ref d, .ref nm, .int m] H Q E := by
  have e : ((m.toNat : Nat) : Int) = m := Int.toNat_of_nonneg (by omega)
  have hE : eDraws m.toNat ≤ 21 := eDraws_le (by omega)
  refine ⟨⟨m.toNat, by omega⟩, d, c, nm, n, xs, by rw [e], D, by show n + ((eDraws m.toNat : Nat) : Int) < _; omega, N, n1, n2, fun H' v e n' D' q1 q2 k' hv he => ?_⟩
  have q2 : n' ≤ n + ((eDraws m.toNat : Nat) : Int) := q2
  exact k H' v e n' D' q1 (by omega) k' hv (Ex.ok.mono (m := m.toNat) he (by omega))
theorem Ts.ok.succ : ∀ {n : Nat} {t : Ts}, t.ok n → t.ok (n + 1)
  | n + 1, .not t, h => Ts.ok.succ (n := n) (t := t) h
  | n, .given x, h => by cases n <;> exact h
  | n, .rest e b r, h => by cases n <;> exact h
  | n, .less a b, h => by cases n <;> exact h
theorem Ts.ok.mono {m n : Nat} {t : Ts} (h : t.ok m) (q : m ≤ n) : t.ok n := by
  induction q with
  | refl => exact h
  | step _ ih => exact ih.succ
/-- a test is made -/
def spTest (K : PySem.W.Frag) : Sp := fun vs H Q _ => ∃ (d c nm : Addr) (n so : Int) (xs : List Str), vs = [.ref d, .ref nm, .int so] ∧ Deck H d c n ∧ n + 80 < 10 ^ 12 ∧ Nms H nm xs ∧ nm ≠ d ∧ nm ≠ c ∧
  ∀ (H' : Hp) (v : V) (t : Ts) (n' : Int), Deck H' d c n' → n ≤ n' → n' ≤ n + 80 → Kp [d, c] H H' → Dt K H' v t.d → t.ok 2 → Q v H'
/-- what is left: places, weight, rests, comparings -/
def Lft (H : Hp) (l : Addr) (a b r s : Int) : Prop := H l = some (.lst [.int a, .int b, .int r, .int s])
/-- a block is made, at e more blocks in one another -/
def spBlock (K : PySem.W.Frag) (e : Nat) : Sp := fun vs H Q _ => ∃ (d c nm l : Addr) (n dep ti a b r s : Int) (xs : List Str), vs = [.ref d, .ref nm, .int dep, .int ti, .ref l] ∧
  Deck H d c n ∧ n + 1 + 150 * a < 10 ^ 12 ∧ Nms H nm xs ∧ nm ≠ d ∧ nm ≠ c ∧ nm ≠ l ∧ l ≠ d ∧ l ≠ c ∧ Lft H l a b r s ∧ 0 ≤ a ∧ a ≤ 1000 ∧ dep + e = 3 ∧
  ∀ (H' : Hp) (v : V) (x : List Sm) (n' a' b' r' s' : Int), Deck H' d c n' → n ≤ n' → n' ≤ n + 1 + 150 * (a - a') → Lft H' l a' b' r' s' → 0 ≤ a' → (Sm.sizes x : Int) ≤ a - a' → Kp [d, c, l] H H' →
    Dt K H' v (.tuple (Sm.ds x)) → (∀ s ∈ x, Sm.ok e s) → Q v H'
def spIf (K : PySem.W.Frag) (e : Nat) : Sp := fun vs H Q _ => ∃ (d c nm l : Addr) (n dep ti a b r s at_ : Int) (xs : List Str), vs = [.ref d, .ref nm, .int dep, .int ti, .ref l, .int at_] ∧
  Deck H d c n ∧ n + 90 + 150 * a < 10 ^ 12 ∧ Nms H nm xs ∧ nm ≠ d ∧ nm ≠ c ∧ nm ≠ l ∧ l ≠ d ∧ l ≠ c ∧ Lft H l a b r s ∧ 0 ≤ a ∧ a ≤ 1000 ∧ dep + 1 + e = 3 ∧ 2 ≤ at_ ∧ at_ ≤ 4 ∧
  ∀ (H' : Hp) (v : V) (x : Sm) (n' a' b' r' s' : Int), Deck H' d c n' → n ≤ n' → n' ≤ n + 90 + 150 * (a - a') → Lft H' l a' b' r' s' → 0 ≤ a' → (x.size : Int) ≤ a - a' + 1 → Kp [d, c, l] H H' →
    Dt K H' v x.d → x.ok (e + 1) → Q v H'
def spStmt (K : PySem.W.Frag) (e : Nat) : Sp := fun vs H Q _ => ∃ (d c nm l : Addr) (n dep ti a b r s : Int) (xs : List Str), vs = [.ref d, .ref nm, .int dep, .int ti, .ref l] ∧
  Deck H d c n ∧ n + 150 * a < 10 ^ 12 ∧ Nms H nm xs ∧ nm ≠ d ∧ nm ≠ c ∧ nm ≠ l ∧ l ≠ d ∧ l ≠ c ∧ Lft H l a b r s ∧ 1 ≤ a ∧ a ≤ 1000 ∧ dep + e = 3 ∧
  ∀ (H' : Hp) (v : V) (x : Sm) (n' a' b' r' s' : Int), Deck H' d c n' → n ≤ n' → n' ≤ n + 150 * (a - a') → Lft H' l a' b' r' s' → 0 ≤ a' → (x.size : Int) ≤ a - a' → Kp [d, c, l] H H' →
    Dt K H' v x.d → x.ok e → Q v H'
def spProg (K : PySem.W.Frag) : Sp := fun vs H Q _ => ∃ (d c nm : Addr) (n mo : Int) (xs : List Str), vs = [.ref d, .ref nm, .int mo] ∧ Deck H d c n ∧ n + 4000 < 10 ^ 12 ∧ Nms H nm xs ∧ nm ≠ d ∧ nm ≠ c ∧
  0 ≤ mo ∧ mo ≤ 24 ∧ ∀ (H' : Hp) (v : V) (x : List Sm) (n' : Int), Deck H' d c n' → n ≤ n' → n' ≤ n + 4000 → (Sm.sizes x : Int) ≤ mo → Kp [d, c] H H' →
    Dt K H' v (.tuple (Sm.ds x)) → (∀ s ∈ x, Sm.ok 3 s) → Q v H'
def spNames : Sp := fun vs H Q _ => ∃ (d c : Addr) (n m : Int), vs = [.ref d, .int m] ∧ Deck H d c n ∧ n + 30 < 10 ^ 12 ∧ 1 ≤ m ∧ m ≤ 5 ∧
  ∀ (H' : Hp) (p : Addr) (xs : List Str) (n' : Int), H p = none → Deck H' d c n' → n ≤ n' → n' ≤ n + 30 → Kp [d, c] H H' → Nms H' p xs → Q (.ref p) H'

theorem Sm.ok.succ : ∀ (n : Nat) (s : Sm), s.ok n → s.ok (n + 1) := by
  intro n
  induction n with
  | zero =>
    intro s h
    cases s with
    | pl s => exact h
    | ifs t y z => exact h.elim
    | rep k b => exact h.elim
  | succ n ih =>
    intro s h
    cases s with
    | pl s => exact h
    | ifs t y z => exact ⟨h.1, fun s hs => ih s (h.2.1 s hs), fun s hs => ih s (h.2.2 s hs)⟩
    | rep k b => exact ⟨h.1, h.2.1, fun s hs => ih s (h.2.2 s hs)⟩
theorem Sm.ok.mono {m n : Nat} {s : Sm} (h : s.ok m) (q : m ≤ n) : s.ok n := by
  induction q with
  | refl => exact h
  | step _ ih => exact Sm.ok.succ _ _ ih
theorem Sm.ds_snoc (b : List Sm) (s : Sm) : Sm.ds (b ++ [s]) = Sm.ds b ++ [s.d] := by rw [Sm.ds_map, Sm.ds_map, List.map_append]; rfl
theorem Sm.sizes_snoc (b : List Sm) (s : Sm) : Sm.sizes (b ++ [s]) = Sm.sizes b + s.size := by rw [Sm.sizes_app, Sm.sizes, Sm.sizes, Nat.add_zero]

/-! ### replace -/
theorem replL_ok {y z : List Nat} (hy : y ≠ []) (hz : z.length ≤ y.length) (h1 : ∀ c ∈ z, c < 1114112) : ∀ (n : Nat) (l : List Nat), l.length ≤ n → (∀ c ∈ l, c < 1114112) →
    (StrLaws.replL y z l).length ≤ l.length ∧ ∀ c ∈ StrLaws.replL y z l, c < 1114112 := by
  intro n
  induction n with
  | zero =>
    intro l hl hc
    obtain rfl : l = [] := List.length_eq_zero_iff.mp (by omega)
    rw [StrLaws.replL_nil]
    exact ⟨Nat.le_refl _, hc⟩
  | succ n ih =>
    intro l hl hc
    cases l with
    | nil =>
      rw [StrLaws.replL_nil]
      exact ⟨Nat.le_refl _, hc⟩
    | cons c r =>
      have y1 : 1 ≤ y.length := by
        cases y with
        | nil => exact absurd rfl hy
        | cons _ _ => simp
      by_cases h : (c :: r).take y.length = y
      · rw [StrLaws.replL_hit hy h]
        have ylen : y.length ≤ (c :: r).length := by
          have q := congrArg List.length h
          rw [List.length_take] at q
          omega
        have hlt : ((c :: r).drop y.length).length ≤ n := by
          rw [List.length_drop]
          rw [List.length_cons] at hl ylen ⊢
          omega
        obtain ⟨q1, q2⟩ := ih _ hlt fun c' hc' => hc c' (List.mem_of_mem_drop hc')
        refine ⟨?_, fun c' hc' => ?_⟩
        · rw [List.length_append]
          rw [List.length_drop] at q1
          omega
        · rcases List.mem_append.mp hc' with m | m
          · exact h1 c' m
          · exact q2 c' m
      · rw [StrLaws.replL_miss h]
        obtain ⟨q1, q2⟩ := ih r (by rw [List.length_cons] at hl; omega) fun c' hc' => hc c' (List.mem_cons_of_mem _ hc')
        refine ⟨by rw [List.length_cons, List.length_cons]; omega, fun c' hc' => ?_⟩
        rcases List.mem_cons.mp hc' with rfl | m
        · exact hc _ (List.mem_cons_self ..)
        · exact q2 c' m
theorem Sok.iff {x : Str} {n : Nat} : Sok x n ↔ (∀ c ∈ x.cps.toList, c < 1114112) ∧ x.cps.toList.length ≤ n := by
  constructor
  · intro h
    have q := h.ok
    unfold PyData.strOk at q
    rw [Array.all_eq_true_iff_forall_mem] at q
    exact ⟨fun c hc => of_decide_eq_true (q c (Array.mem_def.mpr hc)), by rw [Array.length_toList]; exact h.len⟩
  · intro h
    refine ⟨?_, ?_⟩
    · unfold PyData.strOk
      rw [Array.all_eq_true_iff_forall_mem]
      exact fun c hc => decide_eq_true (h.1 c (Array.mem_def.mp hc))
    · have q := h.2
      rw [Array.length_toList] at q
      exact q
theorem joinL_ok {S : List Nat} {m s : Nat} (hS : S.length ≤ s) (h1 : ∀ c ∈ S, c < 1114112) : ∀ ps : List (List Nat), (∀ p ∈ ps, p.length ≤ m ∧ ∀ c ∈ p, c < 1114112) →
    (TL.joinL S ps).length ≤ ps.length * (m + s) ∧ ∀ c ∈ TL.joinL S ps, c < 1114112
  | [], _ => ⟨Nat.zero_le _, fun c h => (nomatch h)⟩
  | [p], h => by
    obtain ⟨a, b⟩ := h p (List.mem_cons_self ..)
    rw [TL.joinL]
    exact ⟨by rw [List.length_singleton, Nat.one_mul]; omega, b⟩
  | p :: q :: r, h => by
    obtain ⟨a, b⟩ := h p (List.mem_cons_self ..)
    obtain ⟨a2, b2⟩ := joinL_ok hS h1 (q :: r) fun p' hp' => h p' (List.mem_cons_of_mem _ hp')
    rw [TL.joinL]
    refine ⟨?_, fun c hc => ?_⟩
    · rw [List.length_append, List.length_append, List.length_cons, Nat.add_mul, Nat.one_mul]
      omega
    · rcases List.mem_append.mp hc with hc | hc
      · exact b c hc
      · rcases List.mem_append.mp hc with hc | hc
        · exact h1 c hc
        · exact b2 c hc
theorem Sok.join {sep : Str} {ys : List Str} {m s : Nat} (hs : Sok sep s) (h : ∀ y ∈ ys, Sok y m) : Sok (Txt.join sep ys) (ys.length * (m + s)) := by
  rw [Sok.iff] at *
  rw [TL.join_eq]
  have e : (Str.join sep ys).cps.toList = TL.joinL sep.cps.toList (ys.map fun y => y.cps.toList) := TL.tl_join sep ys
  rw [e]
  obtain ⟨a, b⟩ := joinL_ok (m := m) hs.2 hs.1 (ys.map fun y => y.cps.toList) fun p hp => by
    obtain ⟨y, hy, rfl⟩ := List.mem_map.mp hp
    have q := Sok.iff.mp (h y hy)
    exact ⟨q.2, q.1⟩
  rw [List.length_map] at a
  exact ⟨b, a⟩
theorem Sok.sign {z : Str} {n k : Nat} (h : Sok z n) (hk : k ∈ z.cps.toList) : Sok ⟨#[k]⟩ 1 := by
  rw [Sok.iff] at *
  refine ⟨fun c hc => ?_, by simp⟩
  simp at hc
  rw [hc]
  exact h.1 k hk
theorem sum_len {ys : List Str} {m : Nat} (h : ∀ y ∈ ys, Sok y m) : (ys.map (·.length)).sum ≤ ys.length * m := by
  induction ys with
  | nil => exact Nat.zero_le _
  | cons y r ih =>
    have a := (h y (List.mem_cons_self ..)).len
    have b := ih fun z hz => h z (List.mem_cons_of_mem _ hz)
    rw [List.map_cons, List.sum_cons, List.length_cons, Nat.add_mul, Nat.one_mul]
    omega
theorem Sok.repl {x y z : Str} {n : Nat} (h : Sok x n) (hy : 1 ≤ y.length) (hz : z.length ≤ y.length) (h1 : Sok z z.length) : Sok (Txt.replace x y z) n := by
  rw [Sok.iff] at *
  rw [StrLaws.replace_list hy]
  have yl : y.cps.toList.length = y.length := by rw [Array.length_toList]; rfl
  have zl : z.cps.toList.length = z.length := by rw [Array.length_toList]; rfl
  obtain ⟨q1, q2⟩ := replL_ok (y := y.cps.toList) (z := z.cps.toList) (fun e => by rw [e] at yl; simp at yl; omega) (by omega) h1.1 _ _ (Nat.le_refl _) h.1
  exact ⟨q2, Nat.le_trans q1 h.2⟩
/-- the first of the written items makes a token -/
theorem pa_strT {X : Cx} {es : List Expr} {t : TA} {x : Str} {j : Nat} {pos : Pos} (h : PAT X es t)
    (hs : starEach (.Constant (.str x) j pos :: es) X.env = (false, eval (.Constant (.str x) j pos) X.env) :: starEach es X.env := by rfl) :
    PA X (.Constant (.str x) j pos :: es) (tCons (tC (.str x)) t) := by
  refine ⟨fun p pins s σ H Q I q => ?_⟩
  rw [hs]
  show wpAny _ _ (spliced ((false, eval (.Constant (.str x) j pos) X.env) :: backTo p (starEach es X.env))) _ _ s
  refine Calls.spliced_cons (Calls.Constant_str ?_)
  refine thn (h p pins _ σ H _ (Nat.le_add_left 1 _) (I.tok _) q) fun us s2 q2 => ?_
  obtain ⟨xs, H2, I2, r2, q2⟩ := q2
  exact ⟨.str x :: xs, H2, I2, .cons ⟨_, rfl⟩ r2, q2⟩
theorem r_repl {to : TE} {σ : L2.St} {H : Hp} {Q : VK} {y z : Str} (h : to σ H fun v H1 => ∃ x, v = .str x ∧ x.length + (x.length + 1) * z.length ≤ 16777216 ∧ Q (.str (Txt.replace x y z)) H1) : CwR.tReplC to y z σ H Q := h
end Aw

/-! what is a program: plain functions over data, promises -/
namespace Aw
open PySem PySem.Spec L2

def LETT : Str := "abcdefghijklmnopqrstuvwxyz"
def SGN : Str := "abcdefghijklmnopqrstuvwxyz0123456789"
def KEPTS : List Str := ["unset", "tell", "say", "stop", "if", "else", "repeat", "pass", "rest", "of", "set", "not", "program"]
def isSgn (c : Nat) : Bool := decide (c ∈ SGN.cps.toList)
def isLet (c : Nat) : Bool := decide (c ∈ LETT.cps.toList)
def isWordS (x : Str) : Bool := decide (1 ≤ x.length) && decide (x.length ≤ 8) && !decide (x = "unsure") && x.cps.toList.all isSgn
def isNameS (x : Str) : Bool := decide (1 ≤ x.length) && decide (x.length ≤ 8) && isLet (x.cps.toList.headD 0) && x.cps.toList.all isSgn && !KEPTS.contains x
theorem inV_strs (x : Str) : ∀ ys : List Str, inV (.str x) (ys.map V.str) = ys.contains x
  | [] => rfl
  | y :: r => by
    have q := inV_strs x r
    unfold inV at q ⊢
    rw [List.map_cons, List.any_cons, q, List.contains_cons]
    congr 1
    show decide (y = x) = decide (x = y)
    exact decide_eq_decide.mpr ⟨Eq.symm, Eq.symm⟩
theorem filter_all {α : Type} (f : α → Bool) : ∀ l : List α, (l.filter fun c => !f c).isEmpty = l.all f
  | [] => rfl
  | c :: r => by
    cases h : f c with
    | true => rw [List.filter_cons_of_neg (by rw [h]; decide), List.all_cons, h, Bool.true_and]; exact filter_all f r
    | false => rw [List.filter_cons_of_pos (by rw [h]; decide), List.all_cons, h, Bool.false_and]; rfl
def isWord : PyData → Bool
  | .str x => isWordS x
  | _ => false
def isName : PyData → Bool
  | .str x => isNameS x
  | _ => false
def isWhole (lo hi : Int) : PyData → Bool
  | .int i => decide (lo ≤ i) && decide (i ≤ hi)
  | _ => false
def isExprL (f : PyData → Bool) : List PyData → Bool
  | [.str w, a, b] => f b && (if w = "times" then isWhole (-9) 9 a else (decide (w = "plus") || decide (w = "minus")) && f a)
  | _ => false
def isExprW (f : PyData → Bool) : PyData → Bool
  | .tuple ds => isExprL f ds
  | d => isName d || isWhole (-99) 99 d
def isExpr : Nat → PyData → Bool
  | 0 => fun _ => false
  | n + 1 => isExprW (isExpr n)
theorem isStr_of {a : PyData} (h : isaD a "str" = true) : ∃ x, a = .str x := by
  cases a <;> first | exact ⟨_, rfl⟩ | (exfalso; revert h; simp [isaD, tyD]; done)
theorem isTup_of {a : PyData} (h : isaD a "tuple" = true) : ∃ x, a = .tuple x := by
  cases a <;> first | exact ⟨_, rfl⟩ | (exfalso; revert h; simp [isaD, tyD]; done)
theorem inV_two (x a b : Str) : inV (.str x) [.str a, .str b] = (decide (x = a) || decide (x = b)) := by
  have q := inV_strs x [a, b]
  rw [show [a, b].map V.str = [.str a, .str b] from rfl] at q
  rw [q]
  by_cases h1 : x = a <;> by_cases h2 : x = b <;> simp [h1, h2]
theorem isExprL_len {f : PyData → Bool} {ds : List PyData} (h : ds.length ≠ 3) : isExprL f ds = false := by
  unfold isExprL
  split
  · exact absurd rfl h
  · rfl
theorem isExprL_str {f : PyData → Bool} {a b c : PyData} (h : isaD a "str" = false) : isExprL f [a, b, c] = false := by
  cases a <;> first | rfl | (exfalso; revert h; simp [isaD, tyD]; done)
def isRestL : List PyData → Bool
  | [_, a, .int b, c] => isExpr 3 a && isWhole 2 6 (.int b) && isWhole 0 (b - 1) c
  | _ => false
theorem isRestL_len {ds : List PyData} (h : ds.length ≠ 4) : isRestL ds = false := by
  unfold isRestL
  split
  · exact absurd rfl h
  · rfl
theorem isRestL4 (x a b c : PyData) : isRestL [x, a, b, c] = (isExpr 3 a && (isWhole 2 6 b && (match b with | .int i => isWhole 0 (i - 1) c | _ => false))) := by
  cases b with
  | int i => rw [isRestL, Bool.and_assoc]
  | _ => simp [isRestL, isWhole]
def two (f : PyData → PyData → Bool) : List PyData → Bool
  | [a, b] => f a b
  | _ => false
def one (f : PyData → Bool) : List PyData → Bool
  | [a] => f a
  | _ => false
theorem two_len {f : PyData → PyData → Bool} {r : List PyData} (h : r.length ≠ 2) : two f r = false := by
  unfold two
  split
  · exact absurd rfl h
  · rfl
theorem one_len {f : PyData → Bool} {r : List PyData} (h : r.length ≠ 1) : one f r = false := by
  unfold one
  split
  · exact absurd rfl h
  · rfl
def isTestL (f : PyData → Bool) (w : Str) (r : List PyData) : Bool :=
  if w = "less" then two (fun a b => isExpr 3 a && isExpr 3 b) r
  else if w = "rest" then isRestL (.str w :: r)
  else if w = "given" then one isName r
  else if w = "not" then one f r
  else false
def isTestW (f : PyData → Bool) : PyData → Bool
  | .tuple (.str w :: r) => isTestL f w r
  | _ => false
def isTest : Nat → PyData → Bool
  | 0 => isTestW fun _ => false
  | n + 1 => isTestW (isTest n)
theorem isTest_F (n : Nat) (d : PyData) : ∃ F : PyData → Bool, isTest n d = isTestW F d ∧ ((n = 0 ∧ F = fun _ => false) ∨ ∃ m, n = m + 1 ∧ F = isTest m) := by
  cases n with
  | zero => exact ⟨_, rfl, .inl ⟨rfl, rfl⟩⟩
  | succ m => exact ⟨_, rfl, .inr ⟨m, rfl, rfl⟩⟩
theorem isTestW_str {f : PyData → Bool} {a : PyData} {r : List PyData} (h : isaD a "str" = false) : isTestW f (.tuple (a :: r)) = false := by
  cases a <;> first | rfl | (exfalso; revert h; simp [isaD, tyD]; done)
def isPlainL (w : Str) (r : List PyData) : Bool :=
  if w = "set" then two (fun a b => isName a && isExpr 3 b) r
  else if w = "unset" then one isName r
  else if w = "tell" then one (isExpr 3) r
  else if w = "say" ∨ w = "stop" then one isWord r
  else false
def isTupD : PyData → Bool
  | .tuple _ => true
  | _ => false
theorem isa_tup (d : PyData) : isaD d "tuple" = isTupD d := by
  cases d <;> simp [isaD, tyD, isTupD]
def three (f : PyData → PyData → PyData → Bool) : List PyData → Bool
  | [a, b, c] => f a b c
  | _ => false
theorem three_len {f : PyData → PyData → PyData → Bool} {r : List PyData} (h : r.length ≠ 3) : three f r = false := by
  unfold three
  split
  · exact absurd rfl h
  · rfl
theorem two_view {f : PyData → PyData → Bool} {r : List PyData} (h : two f r = true) : ∃ a b, r = [a, b] ∧ f a b = true := by
  unfold two at h
  split at h
  · exact ⟨_, _, rfl, h⟩
  · cases h
theorem one_view {f : PyData → Bool} {r : List PyData} (h : one f r = true) : ∃ a, r = [a] ∧ f a = true := by
  unfold one at h
  split at h
  · exact ⟨_, rfl, h⟩
  · cases h
theorem three_view {f : PyData → PyData → PyData → Bool} {r : List PyData} (h : three f r = true) : ∃ a b c, r = [a, b, c] ∧ f a b c = true := by
  unfold three at h
  split at h
  · exact ⟨_, _, _, rfl, h⟩
  · cases h
def isStmtL (w : Str) (r : List PyData) : Bool :=
  if w = "if" then three (fun t y z => isTest 2 t && (isTupD y && isTupD z)) r
  else if w = "repeat" then two (fun k b => isWhole 0 8 k && isTupD b) r
  else isPlainL w r
def isStmt : PyData → Bool
  | .tuple (.str w :: r) => isStmtL w r
  | _ => false

theorem isStmt_str {a : PyData} {r : List PyData} (h : isaD a "str" = false) : isStmt (.tuple (a :: r)) = false := by
  cases a <;> first | rfl | (exfalso; revert h; simp [isaD, tyD]; done)
/-! ### sizes -/
mutual
def dsz : PyData → Nat
  | .none => 1
  | .bool _ => 1
  | .int _ => 1
  | .str x => 1 + x.length
  | .list ds => 1 + dszs ds
  | .tuple ds => 1 + dszs ds
  | .dict _ => 1
def dszs : List PyData → Nat
  | [] => 0
  | d :: r => dsz d + dszs r
end
theorem dsz_pos (d : PyData) : 1 ≤ dsz d := by cases d <;> (rw [dsz]; try omega)
theorem dszs_app : ∀ a b : List PyData, dszs (a ++ b) = dszs a + dszs b
  | [], b => by rw [List.nil_append, dszs, Nat.zero_add]
  | s :: r, b => by rw [List.cons_append, dszs, dszs, dszs_app r b, Nat.add_assoc]
theorem dszs_mem {d : PyData} : ∀ {b : List PyData}, d ∈ b → dsz d ≤ dszs b
  | _ :: r, .head _ => by rw [dszs]; omega
  | _ :: r, .tail _ h => by have := dszs_mem h; rw [dszs]; omega
theorem dszs_len : ∀ b : List PyData, b.length ≤ dszs b
  | [] => Nat.zero_le _
  | d :: r => by have := dszs_len r; have := dsz_pos d; rw [dszs, List.length_cons]; omega

/-! ### blocks of a statement, the order of the places -/
def tupOf : PyData → List PyData
  | .tuple ds => ds
  | _ => []
/-- the blocks of a statement -/
def blks : PyData → List (List PyData)
  | .tuple (.str w :: r) => if w = "if" then (match r with
      | [_, y, z] => [tupOf y, tupOf z]
      | _ => [])
    else if w = "repeat" then (match r with
      | [_, b] => [tupOf b]
      | _ => [])
    else []
  | _ => []
def inner (d : PyData) : List PyData := (blks d).flatten
theorem dsz_tupOf (d : PyData) : dszs (tupOf d) + 1 ≤ dsz d := by
  cases d <;> simp [tupOf, dsz, dszs]; omega
theorem inner_size (d : PyData) : dszs (inner d) + 1 ≤ dsz d := by
  have h0 := dsz_pos d
  unfold inner
  unfold blks
  split
  · rename_i w r
    split
    · split
      · rename_i t y z
        have a := dsz_tupOf y
        have b := dsz_tupOf z
        have c := dsz_pos t
        simp only [List.flatten_cons, List.flatten_nil, List.append_nil, dszs_app, dsz, dszs]
        omega
      · rw [List.flatten_nil, dszs]
        omega
    · split
      · split
        · rename_i t b
          have a := dsz_tupOf b
          simp only [List.flatten_cons, List.flatten_nil, List.append_nil, dszs_app, dsz, dszs]
          omega
        · rw [List.flatten_nil, dszs]
          omega
      · rw [List.flatten_nil, dszs]
        omega
  · rw [List.flatten_nil, dszs]
    omega
/-- the stack, its top first -/
def ordLoop : Nat → List (Nat × PyData) → Nat → Option (Nat × Str)
  | _, [], _ => none
  | 0, _ :: _, _ => none
  | f + 1, (dep, d) :: st, pl => if dep > 3 then some (pl, "nest") else if isStmt d = false then some (pl, "statement")
      else ordLoop f ((inner d).map (fun e => (dep + 1, e)) ++ st) (pl + 1)
def stSize (st : List (Nat × PyData)) : Nat := dszs (st.map (·.2))
theorem stSize_cons (n : Nat) (d : PyData) (st : List (Nat × PyData)) : stSize ((n, d) :: st) = dsz d + stSize st := by
  unfold stSize
  rw [List.map_cons, dszs]
theorem stSize_app (a b : List (Nat × PyData)) : stSize (a ++ b) = stSize a + stSize b := by
  unfold stSize
  rw [List.map_append, dszs_app]
theorem stSize_map (n : Nat) (ds : List PyData) : stSize (ds.map fun e => (n, e)) = dszs ds := by
  unfold stSize
  rw [List.map_map]
  have e : ((·.2) ∘ fun e : PyData => (n, e)) = id := rfl
  rw [e, List.map_id]
theorem ordLoop_fuel : ∀ (f g : Nat) (st : List (Nat × PyData)) (pl : Nat), stSize st ≤ f → stSize st ≤ g → ordLoop f st pl = ordLoop g st pl := by
  intro f
  induction f with
  | zero =>
    intro g st pl h1 h2
    cases st with
    | nil => cases g <;> rfl
    | cons p st =>
      obtain ⟨n, d⟩ := p
      rw [stSize_cons] at h1
      have := dsz_pos d
      omega
  | succ f ih =>
    intro g st pl h1 h2
    cases st with
    | nil => cases g <;> rfl
    | cons p st =>
      obtain ⟨n, d⟩ := p
      rw [stSize_cons] at h1 h2
      have := dsz_pos d
      have hi := inner_size d
      cases g with
      | zero => omega
      | succ g =>
        rw [ordLoop, ordLoop, ih g _ _ (by rw [stSize_app, stSize_map]; omega) (by rw [stSize_app, stSize_map]; omega)]
def ordErr (ds : List PyData) : Option (Nat × Str) := ordLoop (dszs ds) (ds.map fun e => (0, e)) 0

/-! ### valid trees -/
def Ex.vd : Nat → Ex → Prop
  | 0, _ => False
  | _ + 1, .int i => -99 ≤ i ∧ i ≤ 99
  | _ + 1, .name x => isNameS x = true
  | n + 1, .bin o a b => b.vd n ∧ ((o = "times" ∧ ∃ i : Int, a = .int i ∧ -9 ≤ i ∧ i ≤ 9) ∨ ((o = "plus" ∨ o = "minus") ∧ a.vd n))
def Ts.vd : Nat → Ts → Prop
  | 0, .not _ => False
  | n + 1, .not t => t.vd n
  | _, .given x => isNameS x = true
  | _, .rest e b r => e.vd 3 ∧ 2 ≤ b ∧ b ≤ 6 ∧ 0 ≤ r ∧ r ≤ b - 1
  | _, .less a b => a.vd 3 ∧ b.vd 3
def Pl.vd : Pl → Prop
  | .set x e => isNameS x = true ∧ e.vd 3
  | .unset x => isNameS x = true
  | .tell e => e.vd 3
  | .say w => isWordS w = true
  | .stop w => isWordS w = true
def Sm.vd : Nat → Sm → Prop
  | _, .pl s => s.vd
  | 0, .ifs t y z => t.vd 2 ∧ y = [] ∧ z = []
  | 0, .rep k b => 0 ≤ k ∧ k ≤ 8 ∧ b = []
  | n + 1, .ifs t y z => t.vd 2 ∧ (∀ s ∈ y, Sm.vd n s) ∧ (∀ s ∈ z, Sm.vd n s)
  | n + 1, .rep k b => 0 ≤ k ∧ k ≤ 8 ∧ ∀ s ∈ b, Sm.vd n s
theorem name_view {d : PyData} (h : isName d = true) : ∃ x, d = .str x ∧ isNameS x = true := by
  unfold isName at h
  split at h
  · exact ⟨_, rfl, h⟩
  · cases h
theorem word_view {d : PyData} (h : isWord d = true) : ∃ x, d = .str x ∧ isWordS x = true := by
  unfold isWord at h
  split at h
  · exact ⟨_, rfl, h⟩
  · cases h
theorem whole_view {d : PyData} {lo hi : Int} (h : isWhole lo hi d = true) : ∃ i, d = .int i ∧ lo ≤ i ∧ i ≤ hi := by
  unfold isWhole at h
  split at h
  · simp only [Bool.and_eq_true, decide_eq_true_eq] at h
    exact ⟨_, rfl, h.1, h.2⟩
  · cases h
theorem tup_view {d : PyData} (h : isTupD d = true) : ∃ ds, d = .tuple ds := by
  unfold isTupD at h
  split at h
  · exact ⟨_, rfl⟩
  · cases h
theorem expr_view : ∀ {n : Nat} {d : PyData}, isExpr n d = true → ∃ e : Ex, d = e.d ∧ e.vd n := by
  intro n
  induction n with
  | zero =>
    intro d h
    rw [isExpr] at h
    cases h
  | succ n ih =>
    intro d h
    rw [isExpr] at h
    unfold isExprW at h
    split at h
    · unfold isExprL at h
      split at h
      · rename_i w a b
        rw [Bool.and_eq_true] at h
        obtain ⟨h1, h2⟩ := h
        obtain ⟨eb, rfl, vb⟩ := ih h1
        split at h2
        · rename_i hw
          subst hw
          unfold isWhole at h2
          split at h2
          · rename_i i
            simp only [Bool.and_eq_true, decide_eq_true_eq] at h2
            exact ⟨.bin "times" (.int i) eb, rfl, vb, .inl ⟨rfl, i, rfl, h2.1, h2.2⟩⟩
          · cases h2
        · simp only [Bool.and_eq_true, Bool.or_eq_true, decide_eq_true_eq] at h2
          obtain ⟨h2, h3⟩ := h2
          obtain ⟨ea, rfl, va⟩ := ih h3
          exact ⟨.bin w ea eb, rfl, vb, .inr ⟨h2, va⟩⟩
      · cases h
    · rw [Bool.or_eq_true] at h
      rcases h with h | h
      · obtain ⟨x, rfl, hx⟩ := name_view h
        exact ⟨.name x, rfl, hx⟩
      · obtain ⟨i, rfl, h1, h2⟩ := whole_view h
        exact ⟨.int i, rfl, h1, h2⟩
theorem testL_view {f : PyData → Bool} {w : Str} {r : List PyData} (h : isTestL f w r = true) :
    (∃ a b : Ex, w = "less" ∧ r = [a.d, b.d] ∧ a.vd 3 ∧ b.vd 3) ∨ (∃ (e : Ex) (b c : Int), w = "rest" ∧ r = [e.d, .int b, .int c] ∧ e.vd 3 ∧ 2 ≤ b ∧ b ≤ 6 ∧ 0 ≤ c ∧ c ≤ b - 1) ∨
    (∃ x, w = "given" ∧ r = [.str x] ∧ isNameS x = true) ∨ (∃ a, w = "not" ∧ r = [a] ∧ f a = true) := by
  unfold isTestL at h
  split at h
  · rename_i hw
    obtain ⟨a, b, rfl, hh⟩ := two_view h
    clear h
    have h := hh
    rw [Bool.and_eq_true] at h
    obtain ⟨a, rfl, va⟩ := expr_view h.1
    obtain ⟨b, rfl, vb⟩ := expr_view h.2
    exact .inl ⟨a, b, hw, rfl, va, vb⟩
  split at h
  · rename_i hw
    unfold isRestL at h
    split at h
    · rename_i hr
      cases hr
      simp only [Bool.and_eq_true] at h
      obtain ⟨⟨h1, h2⟩, h3⟩ := h
      obtain ⟨e, rfl, ve⟩ := expr_view h1
      obtain ⟨i, hi, b1, b2⟩ := whole_view h2
      cases hi
      obtain ⟨j, rfl, c1, c2⟩ := whole_view h3
      exact .inr (.inl ⟨e, _, j, hw, rfl, ve, b1, b2, c1, c2⟩)
    · cases h
  split at h
  · rename_i hw
    obtain ⟨a, rfl, hh⟩ := one_view h
    clear h
    have h := hh
    obtain ⟨x, rfl, hx⟩ := name_view h
    exact .inr (.inr (.inl ⟨x, hw, rfl, hx⟩))
  split at h
  · rename_i hw
    obtain ⟨a, rfl, hh⟩ := one_view h
    clear h
    have h := hh
    exact .inr (.inr (.inr ⟨_, hw, rfl, h⟩))
  · cases h
theorem testW_view {n : Nat} {f : PyData → Bool} {d : PyData} (hf : ∀ a, f a = true → ∃ t : Ts, a = t.d ∧ (Ts.not t).vd n) (h : isTestW f d = true) : ∃ t : Ts, d = t.d ∧ t.vd n := by
  unfold isTestW at h
  split at h
  · rcases testL_view h with ⟨a, b, rfl, rfl, va, vb⟩ | ⟨e, b, c, rfl, rfl, q⟩ | ⟨x, rfl, rfl, q⟩ | ⟨a, rfl, rfl, q⟩
    · exact ⟨.less a b, rfl, by cases n <;> exact ⟨va, vb⟩⟩
    · exact ⟨.rest e b c, rfl, by cases n <;> exact q⟩
    · exact ⟨.given x, rfl, by cases n <;> exact q⟩
    · obtain ⟨t, rfl, ht⟩ := hf a q
      exact ⟨.not t, rfl, ht⟩
  · cases h
theorem test_view : ∀ {n : Nat} {d : PyData}, isTest n d = true → ∃ t : Ts, d = t.d ∧ t.vd n
  | 0, d, h => testW_view (fun a q => by cases q) h
  | n + 1, d, h => testW_view (fun a q => test_view (n := n) q) h
theorem plain_view {w : Str} {r : List PyData} (h : isPlainL w r = true) : ∃ p : Pl, .tuple (.str w :: r) = p.d ∧ p.vd := by
  unfold isPlainL at h
  split at h
  · rename_i hw
    subst hw
    obtain ⟨a, b, rfl, hh⟩ := two_view h
    clear h
    have h := hh
    rw [Bool.and_eq_true] at h
    obtain ⟨x, rfl, hx⟩ := name_view h.1
    obtain ⟨e, rfl, he⟩ := expr_view h.2
    exact ⟨.set x e, rfl, hx, he⟩
  split at h
  · rename_i hw
    subst hw
    obtain ⟨a, rfl, hh⟩ := one_view h
    clear h
    have h := hh
    obtain ⟨x, rfl, hx⟩ := name_view h
    exact ⟨.unset x, rfl, hx⟩
  split at h
  · rename_i hw
    subst hw
    obtain ⟨a, rfl, hh⟩ := one_view h
    clear h
    have h := hh
    obtain ⟨e, rfl, he⟩ := expr_view h
    exact ⟨.tell e, rfl, he⟩
  split at h
  · rename_i hw
    obtain ⟨a, rfl, hh⟩ := one_view h
    clear h
    have h := hh
    obtain ⟨x, rfl, hx⟩ := word_view h
    rcases hw with rfl | rfl
    · exact ⟨.say x, rfl, hx⟩
    · exact ⟨.stop x, rfl, hx⟩
  · cases h
theorem Pl.hd (p : Pl) : ∃ u r, p.d = .tuple (.str u :: r) ∧ u ≠ "if" ∧ u ≠ "repeat" := by
  cases p <;> exact ⟨_, _, rfl, by decide +kernel, by decide +kernel⟩
/-- what a statement is -/
theorem stmt_view {d : PyData} (h : isStmt d = true) : (∃ p : Pl, d = p.d ∧ p.vd ∧ blks d = []) ∨ (∃ (t : Ts) (y z : List PyData), d = .tuple [.str "if", t.d, .tuple y, .tuple z] ∧ t.vd 2 ∧ blks d = [y, z]) ∨
    (∃ (k : Int) (b : List PyData), d = .tuple [.str "repeat", .int k, .tuple b] ∧ 0 ≤ k ∧ k ≤ 8 ∧ blks d = [b]) := by
  unfold isStmt at h
  split at h
  · unfold isStmtL at h
    split at h
    · rename_i hw
      subst hw
      obtain ⟨a, b, c, rfl, hh⟩ := three_view h
      clear h
      have h := hh
      simp only [Bool.and_eq_true] at h
      obtain ⟨t, rfl, ht⟩ := test_view h.1
      obtain ⟨y, rfl⟩ := tup_view h.2.1
      obtain ⟨z, rfl⟩ := tup_view h.2.2
      exact .inr (.inl ⟨t, y, z, rfl, ht, rfl⟩)
    split at h
    · rename_i hw
      subst hw
      obtain ⟨a, b, rfl, hh⟩ := two_view h
      clear h
      have h := hh
      simp only [Bool.and_eq_true] at h
      obtain ⟨k, rfl, k1, k2⟩ := whole_view h.1
      obtain ⟨b, rfl⟩ := tup_view h.2
      exact .inr (.inr ⟨k, b, rfl, k1, k2, rfl⟩)
    · rename_i w r n1 n2
      obtain ⟨p, e, hp⟩ := plain_view h
      refine .inl ⟨p, e, hp, ?_⟩
      unfold blks
      simp only [if_neg n1, if_neg n2]
  · cases h
theorem trees_of {n : Nat} : ∀ {ds : List PyData}, (∀ d ∈ ds, ∃ s : Sm, d = s.d ∧ s.vd n) → ∃ b : List Sm, ds = Sm.ds b ∧ ∀ s ∈ b, Sm.vd n s
  | [], _ => ⟨[], by rw [Sm.ds], fun _ h => nomatch h⟩
  | d :: r, h => by
    obtain ⟨s, rfl, hs⟩ := h d (List.mem_cons_self ..)
    obtain ⟨b, rfl, hb⟩ := trees_of fun d hd => h d (List.mem_cons_of_mem _ hd)
    refine ⟨s :: b, by rw [Sm.ds], fun z hz => ?_⟩
    rcases List.mem_cons.mp hz with rfl | hz
    · exact hs
    · exact hb z hz
theorem ordLoop_view : ∀ (f : Nat) (st : List (Nat × PyData)) (pl : Nat), stSize st ≤ f → ordLoop f st pl = none → ∀ p ∈ st, p.1 ≤ 3 ∧ ∃ s : Sm, p.2 = s.d ∧ s.vd (3 - p.1) := by
  intro f
  induction f with
  | zero =>
    intro st pl h _ p hp
    cases st with
    | nil => cases hp
    | cons q st =>
      obtain ⟨n, d⟩ := q
      rw [stSize_cons] at h
      have := dsz_pos d
      omega
  | succ f ih =>
    intro st pl h e p hp
    cases st with
    | nil => cases hp
    | cons q st =>
      obtain ⟨n, d⟩ := q
      rw [stSize_cons] at h
      have hz := dsz_pos d
      have hi := inner_size d
      rw [ordLoop] at e
      split at e
      · cases e
      rename_i hn
      split at e
      · cases e
      rename_i hs
      have IH := ih _ _ (by rw [stSize_app, stSize_map]; omega) e
      rcases List.mem_cons.mp hp with rfl | hp
      · refine ⟨by omega, ?_⟩
        have kids : ∀ b ∈ blks d, (n = 3 → b = []) ∧ ∃ c : List Sm, b = Sm.ds c ∧ ∀ s ∈ c, Sm.vd (3 - (n + 1)) s := by
          intro b hb
          have hall : ∀ x ∈ b, n + 1 ≤ 3 ∧ ∃ s : Sm, x = s.d ∧ s.vd (3 - (n + 1)) := fun x hx =>
            IH (n + 1, x) (List.mem_append_left _ (List.mem_map.mpr ⟨x, List.mem_flatten.mpr ⟨b, hb, hx⟩, rfl⟩))
          refine ⟨fun h3 => ?_, trees_of fun x hx => (hall x hx).2⟩
          cases b with
          | nil => rfl
          | cons x r =>
            have := (hall x (List.mem_cons_self ..)).1
            omega
        have hs : isStmt d = true := by
          cases hq : isStmt d with
          | true => rfl
          | false => exact absurd hq hs
        have hn3 : n ≤ 3 := by omega
        rcases stmt_view hs with ⟨p, rfl, hp, _⟩ | ⟨t, y, z, rfl, ht, hb⟩ | ⟨k, b, rfl, k1, k2, hb⟩
        · exact ⟨.pl p, by rw [Sm.d], by cases (3 - n) <;> exact hp⟩
        · rw [hb] at kids
          obtain ⟨y3, cy, rfl, vy⟩ := kids y (by simp)
          obtain ⟨z3, cz, rfl, vz⟩ := kids z (by simp)
          refine ⟨.ifs t cy cz, by rw [Sm.d], ?_⟩
          by_cases h3 : n = 3
          · subst h3
            refine ⟨ht, ?_, ?_⟩
            · have q := y3 rfl
              cases cy with
              | nil => rfl
              | cons _ _ => rw [Sm.ds] at q; cases q
            · have q := z3 rfl
              cases cz with
              | nil => rfl
              | cons _ _ => rw [Sm.ds] at q; cases q
          · obtain ⟨m, hm⟩ : ∃ m, 3 - n = m + 1 := ⟨2 - n, by omega⟩
            have hm2 : 3 - (n + 1) = m := by omega
            rw [hm2] at vy vz
            rw [hm]
            exact ⟨ht, vy, vz⟩
        · rw [hb] at kids
          obtain ⟨y3, cy, rfl, vy⟩ := kids b (by simp)
          refine ⟨.rep k cy, by rw [Sm.d], ?_⟩
          by_cases h3 : n = 3
          · subst h3
            refine ⟨k1, k2, ?_⟩
            have q := y3 rfl
            cases cy with
            | nil => rfl
            | cons _ _ => rw [Sm.ds] at q; cases q
          · obtain ⟨m, hm⟩ : ∃ m, 3 - n = m + 1 := ⟨2 - n, by omega⟩
            have hm2 : 3 - (n + 1) = m := by omega
            rw [hm2] at vy
            rw [hm]
            exact ⟨k1, k2, vy⟩
      · exact IH p (List.mem_append_right _ hp)
theorem ordErr_view {ds : List PyData} (h : ordErr ds = none) : ∃ b : List Sm, ds = Sm.ds b ∧ ∀ s ∈ b, Sm.vd 3 s :=
  trees_of fun d hd => (ordLoop_view _ _ 0 (by rw [stSize_map]; exact Nat.le_refl _) h (0, d) (List.mem_map.mpr ⟨d, hd, rfl⟩)).2

/-! ### rows of data, stacks -/
structure DwL (M : List Addr) (K : PySem.W.Frag) (H : Hp) (vs : List V) (ds : List PyData) : Prop where
  len : vs.length = ds.length
  all : ∀ (i : Nat) (v : V) (d : PyData), vs[i]? = some v → ds[i]? = some d → Dw M K H v d
structure Stk (M : List Addr) (K : PySem.W.Frag) (H : Hp) (vs : List V) (st : List (Nat × PyData)) : Prop where
  len : vs.length = st.length
  all : ∀ (i : Nat) (v : V) (p : Nat × PyData), vs[i]? = some v → st[i]? = some p → ∃ (a : Addr) (y : V), v = .ref a ∧ H a = some (.tup [.int p.1, y]) ∧ Dw M K H y p.2
section
variable {M : List Addr} {K : PySem.W.Frag} {H H1 : Hp} {v : V} {vs us : List V} {d : PyData} {ds es : List PyData} {st tt : List (Nat × PyData)} {p : Nat × PyData}
theorem Dw.fresh {l : Addr} (h : Dw M K H v d) (n : H l = none) : Dw (l :: M) K H v d := by
  induction h with
  | non => exact .non
  | bl b => exact .bl b
  | int i => exact .int i
  | str x => exact .str x
  | tup s l _ ih => exact .tup s l ih
  | lst e k l _ ih =>
    refine .lst e (fun m => ?_) l ih
    rcases List.mem_cons.mp m with z | z
    · rw [z, n] at e; cases e
    · exact k z
  | dct e k l q _ ih =>
    refine .dct e (fun m => ?_) l q ih
    rcases List.mem_cons.mp m with z | z
    · rw [z, n] at e; cases e
    · exact k z
theorem Dw.items {ds : List PyData} (h : Dw M K H v (.tuple ds)) : ∃ (a : Addr) (xs : List V), v = .ref a ∧ SqT K H a xs ∧ DwL M K H xs ds := by
  obtain ⟨a, xs, e, s, l, q⟩ := h.isTup
  exact ⟨a, xs, e, s, l, q⟩
theorem DwL.kp (h : DwL M K H vs ds) (k : Kp M H H1) : DwL M K H1 vs ds := ⟨h.len, fun i v d e e' => (h.all i v d e e').kp k⟩
theorem DwL.kp0 (h : DwL M K H vs ds) (k : Kp [] H H1) : DwL M K H1 vs ds := ⟨h.len, fun i v d e e' => (h.all i v d e e').kp0 k⟩
theorem DwL.nil : DwL M K H [] [] := ⟨rfl, fun i v d e => by simp at e⟩
theorem DwL.cons (hv : Dw M K H v d) (h : DwL M K H vs ds) : DwL M K H (v :: vs) (d :: ds) := by
  refine ⟨by rw [List.length_cons, List.length_cons, h.len], fun i u e q q' => ?_⟩
  cases i with
  | zero =>
    cases q
    cases q'
    exact hv
  | succ i => exact h.all i u e (by simpa using q) (by simpa using q')
theorem DwL.inv (h : DwL M K H vs (d :: ds)) : ∃ v r, vs = v :: r ∧ Dw M K H v d ∧ DwL M K H r ds := by
  cases vs with
  | nil => have := h.len; simp at this
  | cons v r => exact ⟨v, r, rfl, h.all 0 v d rfl rfl, by have := h.len; simpa using this, fun i u e q q' => h.all (i + 1) u e (by simpa using q) (by simpa using q')⟩
theorem DwL.inv0 (h : DwL M K H vs []) : vs = [] := List.length_eq_zero_iff.mp h.len
theorem DwL.get {i : Nat} (h : DwL M K H vs ds) (e : vs[i]? = some v) : ∃ d, ds[i]? = some d ∧ Dw M K H v d := by
  have hi := (List.getElem?_eq_some_iff.mp e).1
  have hj : i < ds.length := by rw [← h.len]; exact hi
  exact ⟨ds[i], List.getElem?_eq_getElem hj, h.all i v _ e (List.getElem?_eq_getElem hj)⟩
theorem DwL.is1 (h : DwL M K H vs ds) (e : vs.length = 1) : ∃ (x : V) (a : PyData), vs = [x] ∧ ds = [a] ∧ Dw M K H x a := by
  have e2 := h.len
  match vs, ds, e, e2, h with
  | [x], [a], _, _, h => exact ⟨x, a, rfl, rfl, h.all 0 x a rfl rfl⟩
theorem DwL.is2 (h : DwL M K H vs ds) (e : vs.length = 2) : ∃ (x y : V) (a b : PyData), vs = [x, y] ∧ ds = [a, b] ∧ Dw M K H x a ∧ Dw M K H y b := by
  have e2 := h.len
  match vs, ds, e, e2, h with
  | [x, y], [a, b], _, _, h => exact ⟨x, y, a, b, rfl, rfl, h.all 0 x a rfl rfl, h.all 1 y b rfl rfl⟩
theorem DwL.is3 (h : DwL M K H vs ds) (e : vs.length = 3) : ∃ (x y z : V) (a b c : PyData), vs = [x, y, z] ∧ ds = [a, b, c] ∧ Dw M K H x a ∧ Dw M K H y b ∧ Dw M K H z c := by
  have e2 := h.len
  match vs, ds, e, e2, h with
  | [x, y, z], [a, b, c], _, _, h => exact ⟨x, y, z, a, b, c, rfl, rfl, h.all 0 x a rfl rfl, h.all 1 y b rfl rfl, h.all 2 z c rfl rfl⟩
theorem DwL.is4 (h : DwL M K H vs ds) (e : vs.length = 4) : ∃ (x y z u : V) (a b c d : PyData), vs = [x, y, z, u] ∧ ds = [a, b, c, d] ∧ Dw M K H x a ∧ Dw M K H y b ∧ Dw M K H z c ∧ Dw M K H u d := by
  have e2 := h.len
  match vs, ds, e, e2, h with
  | [x, y, z, u], [a, b, c, d], _, _, h => exact ⟨x, y, z, u, a, b, c, d, rfl, rfl, h.all 0 x a rfl rfl, h.all 1 y b rfl rfl, h.all 2 z c rfl rfl, h.all 3 u d rfl rfl⟩
theorem Stk.kp (h : Stk M K H vs st) (k : Kp M H H1) : Stk M K H1 vs st := ⟨h.len, fun i v p e e' => by
  obtain ⟨a, y, q1, q2, q3⟩ := h.all i v p e e'
  exact ⟨a, y, q1, k.tup q2, q3.kp k⟩⟩
theorem Stk.kp0 (h : Stk M K H vs st) (k : Kp [] H H1) : Stk M K H1 vs st := ⟨h.len, fun i v p e e' => by
  obtain ⟨a, y, q1, q2, q3⟩ := h.all i v p e e'
  exact ⟨a, y, q1, k.tup q2, q3.kp0 k⟩⟩
theorem Stk.fresh {l : Addr} (h : Stk M K H vs st) (n : H l = none) : Stk (l :: M) K H vs st := ⟨h.len, fun i v p e e' => by
  obtain ⟨a, y, q1, q2, q3⟩ := h.all i v p e e'
  exact ⟨a, y, q1, q2, q3.fresh n⟩⟩
theorem Stk.nil : Stk M K H [] [] := ⟨rfl, fun i v d e => by simp at e⟩
theorem Stk.app (h : Stk M K H vs st) (h2 : Stk M K H us tt) : Stk M K H (vs ++ us) (st ++ tt) := by
  refine ⟨by rw [List.length_append, List.length_append, h.len, h2.len], fun i u e q q' => ?_⟩
  by_cases hi : i < vs.length
  · rw [List.getElem?_append_left hi] at q
    rw [List.getElem?_append_left (by rw [← h.len]; exact hi)] at q'
    exact h.all i u e q q'
  · rw [List.getElem?_append_right (by omega)] at q
    rw [List.getElem?_append_right (by rw [← h.len]; omega), ← h.len] at q'
    exact h2.all _ u e q q'
theorem Stk.rev (h : Stk M K H vs st) : Stk M K H vs.reverse st.reverse := by
  refine ⟨by rw [List.length_reverse, List.length_reverse, h.len], fun i u e q q' => ?_⟩
  have hi : i < vs.length := by have := (List.getElem?_eq_some_iff.mp q).1; rwa [List.length_reverse] at this
  rw [List.getElem?_reverse hi] at q
  rw [List.getElem?_reverse (by rw [← h.len]; exact hi), ← h.len] at q'
  exact h.all _ u e q q'
theorem Stk.one {a : Addr} {y : V} (h : H a = some (.tup [.int p.1, y])) (hy : Dw M K H y p.2) : Stk M K H [.ref a] [p] := ⟨rfl, fun i v q e e' => by
  match i, e, e' with
  | 0, e, e' => cases e; cases e'; exact ⟨a, y, rfl, h, hy⟩⟩
theorem Stk.last (h : Stk M K H vs (st ++ [p])) : ∃ (us : List V) (a : Addr) (y : V), vs = us ++ [.ref a] ∧ Stk M K H us st ∧ H a = some (.tup [.int p.1, y]) ∧ Dw M K H y p.2 := by
  have hl := h.len
  rw [List.length_append, List.length_singleton] at hl
  have hlt : st.length < vs.length := by omega
  obtain ⟨a, y, e, q1, q2⟩ := h.all st.length vs[st.length] p (List.getElem?_eq_getElem hlt) (by simp)
  refine ⟨vs.take st.length, a, y, ?_, ⟨by rw [List.length_take]; omega, fun i u e' q q' => ?_⟩, q1, q2⟩
  · rw [← e]
    have q := List.take_append_drop st.length vs
    rw [List.drop_eq_getElem_cons hlt, List.drop_eq_nil_of_le (by omega)] at q
    exact q.symm
  · have hi : i < st.length := (List.getElem?_eq_some_iff.mp q').1
    rw [List.getElem?_take, if_pos hi] at q
    exact h.all i u e' q (by rw [List.getElem?_append_left hi]; exact q')
end

section
variable {M N : List Addr} {K : PySem.W.Frag} {H H1 : Hp} {v : V} {vs us : List V} {d : PyData} {ds es : List PyData} {st tt : List (Nat × PyData)}
theorem Dw.kpS (a : Kp N H H1) (s : ∀ b ∈ N, b ∈ M) (h : Dw M K H v d) : Dw M K H1 v d := by
  induction h with
  | non => exact .non
  | bl b => exact .bl b
  | int i => exact .int i
  | str x => exact .str x
  | tup e l _ ih => exact .tup (sqT_kp a e) l ih
  | lst e n l _ ih => exact .lst (a.get e fun m => n (s _ m)) n l ih
  | dct e n l q _ ih => exact .dct (a.get e fun m => n (s _ m)) n l q ih
theorem DwL.kpS (h : DwL M K H vs ds) (a : Kp N H H1) (s : ∀ b ∈ N, b ∈ M) : DwL M K H1 vs ds := ⟨h.len, fun i v d e e' => (h.all i v d e e').kpS a s⟩
theorem Stk.kpS (h : Stk M K H vs st) (a : Kp N H H1) (s : ∀ b ∈ N, b ∈ M) : Stk M K H1 vs st := ⟨h.len, fun i v p e e' => by
  obtain ⟨c, y, q1, q2, q3⟩ := h.all i v p e e'
  exact ⟨c, y, q1, a.tup q2, q3.kpS a s⟩⟩
theorem DwL.fresh {l : Addr} (h : DwL M K H vs ds) (n : H l = none) : DwL (l :: M) K H vs ds := ⟨h.len, fun i v d e e' => (h.all i v d e e').fresh n⟩
theorem DwL.sub (h : DwL M K H vs ds) (s : ∀ b ∈ N, b ∈ M) : DwL N K H vs ds := ⟨h.len, fun i v d e e' => (h.all i v d e e').sub s⟩
theorem Stk.sub (h : Stk M K H vs st) (s : ∀ b ∈ N, b ∈ M) : Stk N K H vs st := ⟨h.len, fun i v p e e' => by
  obtain ⟨c, y, q1, q2, q3⟩ := h.all i v p e e'
  exact ⟨c, y, q1, q2, q3.sub s⟩⟩
/-- [(n, item) for item in a tuple] -/
theorem lc_stk {te : TE} {ws : List Nat} {σ : L2.St} {Q : VK} {a : Addr} {n j : Nat} (hT : SqT K H a vs) (hL : DwL M K H vs ds) (hz : ds.length ≤ 1000000)
    (he : ∀ (x : V) (H' : Hp) (R : VK), (∀ p, H' p = none → R (.ref p) (upd H' p (.tup [.int n, x]))) → te ((wipe σ ws).set j (some x)) H' R)
    (hw : ∀ v : V, wipe ((wipe σ ws).set j (some v)) ws = wipe σ ws)
    (h : ∀ (q : Addr) (H' : Hp) (us : List V), H q = none → Kp [] H H' → H' q = some (.lst us) → Stk M K H' us (ds.map fun e => (n, e)) → Q (.ref q) H') :
    LcT K (gName j) tYes te ws σ Q (.ref a) H := by
  refine r_LcT hT fun q hq => ⟨fun i H' => ∃ us, Kp [] H H' ∧ H' q = some (.lst us) ∧ Stk (q :: M) K H' us ((ds.take i).map fun e => (n, e)), ?_, ?_, ?_, ?_⟩
  · exact ⟨[], Kp.nil.new hq, upd_same, Stk.nil⟩
  · rintro i H' ⟨us, k1, _⟩
    exact sqT_kp k1 hT
  · rintro i x H' hx ⟨us, k1, hq1, hS⟩
    obtain ⟨d, hd, hx1⟩ := hL.get hx
    refine r_name (r_LcTurn (hw _) (r_yes (ifT (he x H' _ fun p hp => ?_))))
    have hqp : q ≠ p := ne_of_none hq1 hp
    have k2 : Kp [] H' (upd H' p (.tup [.int n, x])) := Kp.nil.new hp
    have hq2 := k2.get hq1 (by simp)
    have hil : i < ds.length := (List.getElem?_eq_some_iff.mp hd).1
    have hul : us.length ≤ i := by
      rw [hS.len, List.length_map, List.length_take]
      omega
    refine r_LcEnd hq2 (by rw [sizeLine_eq]; omega) ⟨us ++ [.ref p], (k1.trans k2).own hq, upd_same, ?_⟩
    have k3 := kpW (o := .lst (us ++ [.ref p])) hq2
    have S2 := (hS.kp0 k2).kpS k3 (fun b hb => by rw [List.mem_singleton.mp hb]; exact List.mem_cons_self ..)
    have htk : ds.take (i + 1) = ds.take i ++ [d] := by rw [List.take_add_one, hd]; rfl
    rw [htk, List.map_append]
    refine S2.app (Stk.one (p := (n, d)) (k3.tup upd_same) ?_)
    exact (hx1.fresh hq).kp0 ((k1.trans k2).own hq)
  · rintro H' ⟨us, k1, hq1, hS⟩
    rw [hL.len, List.take_length] at hS
    exact h q H' us hq k1 hq1 (hS.sub fun b hb => List.mem_cons_of_mem _ hb)
end

/-! ### promises -/
def spWhole (K : PySem.W.Frag) : Sp := fun vs H Q _ => ∃ (v : V) (d : PyData) (lo hi : Int), vs = [v, .int lo, .int hi] ∧ Dw [] K H v d ∧ Q (.bl (isWhole lo hi d)) H
/-- a question about data -/
def spAsk (K : PySem.W.Frag) (f : PyData → Bool) : Sp := fun vs H Q _ => ∃ (v : V) (d : PyData), vs = [v] ∧ Dw [] K H v d ∧ dsz d ≤ 1000000 ∧ ∀ H', Kp [] H H' → Q (.bl (f d)) H'
def spAskN (K : PySem.W.Frag) (f : Nat → PyData → Bool) (n : Nat) : Sp := fun vs H Q _ => ∃ (v : V) (d : PyData), vs = [v, .int n] ∧ Dw [] K H v d ∧ dsz d ≤ 1000000 ∧ ∀ H', Kp [] H H' → Q (.bl (f n d)) H'
def spAskL (K : PySem.W.Frag) (f : List PyData → Bool) : Sp := fun vs H Q _ => ∃ (v : V) (ds : List PyData), vs = [v] ∧ Dw [] K H v (.tuple ds) ∧ dszs ds ≤ 1000000 ∧ ∀ H', Kp [] H H' → Q (.bl (f ds)) H'
/-- of a tuple that is not empty, its first item a text -/
def spAskT (K : PySem.W.Frag) (f : Str → List PyData → Bool) : Sp := fun vs H Q _ => ∃ (v : V) (w : Str) (r : List PyData), vs = [v] ∧ Dw [] K H v (.tuple (.str w :: r)) ∧ dszs r ≤ 1000000 ∧ ∀ H', Kp [] H H' → Q (.bl (f w r)) H'
def spBlocks (K : PySem.W.Frag) : Sp := fun vs H Q _ => ∃ (M : List Addr) (v : V) (d : PyData), vs = [v] ∧ Dw M K H v d ∧ isStmt d = true ∧
  ∀ (H' : Hp) (p : Addr) (xs : List V), H p = none → Kp [] H H' → H' p = some (.lst xs) → DwL M K H' xs ((blks d).map PyData.tuple) → Q (.ref p) H'
def spItems (K : PySem.W.Frag) : Sp := fun vs H Q _ => ∃ (M : List Addr) (v : V) (d : PyData) (n : Nat), vs = [v, .int n] ∧ Dw M K H v d ∧ isStmt d = true ∧ dsz d ≤ 1000000 ∧
  ∀ (H' : Hp) (p : Addr) (xs : List V), H p = none → Kp [] H H' → H' p = some (.lst xs) → Stk M K H' xs (((inner d).map fun e => (n + 1, e)).reverse) → Q (.ref p) H'
def ordD : Option (Nat × Str) → PyData
  | none => .none
  | some (p, w) => .tuple [.int p, .str w]
def spOrder (K : PySem.W.Frag) : Sp := fun vs H Q _ => ∃ (v : V) (ds : List PyData), vs = [v] ∧ Dw [] K H v (.tuple ds) ∧ dszs ds ≤ 1000000 ∧
  ∀ (H' : Hp) (r : V), Kp [] H H' → Dt K H' r (ordD (ordErr ds)) → Q r H'

/-! ### valid trees are statements -/
theorem Ex.vd.is : ∀ {n : Nat} {e : Ex}, e.vd n → isExpr n e.d = true
  | 0, _, h => h.elim
  | n + 1, .int i, h => by
    show (isName (.int i) || isWhole (-99) 99 (.int i)) = true
    have h1 := h.1
    have h2 := h.2
    simp [isName, isWhole, h1, h2]
  | n + 1, .name x, h => by
    show (isName (.str x) || isWhole (-99) 99 (.str x)) = true
    have h : isNameS x = true := h
    simp [isName, h]
  | n + 1, .bin o a b, h => by
    show (isExpr n b.d && (if o = "times" then isWhole (-9) 9 a.d else (decide (o = "plus") || decide (o = "minus")) && isExpr n a.d)) = true
    obtain ⟨hb, h⟩ := h
    rw [Ex.vd.is hb, Bool.true_and]
    rcases h with ⟨rfl, i, rfl, h1, h2⟩ | ⟨h, ha⟩
    · rw [if_pos rfl]
      show (decide (-9 ≤ i) && decide (i ≤ 9)) = true
      rw [decide_eq_true h1, decide_eq_true h2]
      rfl
    · rw [Ex.vd.is ha]
      rcases h with rfl | rfl
      · rw [if_neg (by decide +kernel), decide_eq_true rfl]
        rfl
      · rw [if_neg (by decide +kernel), decide_eq_true (p := ("minus" : Str) = "minus") rfl, Bool.or_true]
        rfl
theorem Ts.vd.isF {f : PyData → Bool} {n : Nat} {t : Ts} (h : t.vd n) (hf : ∀ u, t = .not u → f u.d = true) : isTestW f t.d = true := by
  cases t with
  | not u =>
    show isTestL f "not" [u.d] = true
    unfold isTestL
    rw [if_neg (by decide +kernel), if_neg (by decide +kernel), if_neg (by decide +kernel), if_pos rfl]
    exact hf u rfl
  | given x =>
    have q : isNameS x = true := by cases n <;> exact h
    show isTestL f "given" [.str x] = true
    unfold isTestL
    rw [if_neg (by decide +kernel), if_neg (by decide +kernel), if_pos rfl]
    exact q
  | rest e b r =>
    have q : e.vd 3 ∧ 2 ≤ b ∧ b ≤ 6 ∧ 0 ≤ r ∧ r ≤ b - 1 := by cases n <;> exact h
    obtain ⟨q, b0, b1, r0, r1⟩ := q
    show isTestL f "rest" [e.d, .int b, .int r] = true
    unfold isTestL
    rw [if_neg (by decide +kernel), if_pos rfl, isRestL, Ex.vd.is q]
    show (true && (decide (2 ≤ b) && decide (b ≤ 6)) && (decide (0 ≤ r) && decide (r ≤ b - 1))) = true
    rw [decide_eq_true b0, decide_eq_true b1, decide_eq_true r0, decide_eq_true r1]
    rfl
  | less a b =>
    have q : a.vd 3 ∧ b.vd 3 := by cases n <;> exact h
    show isTestL f "less" [a.d, b.d] = true
    unfold isTestL
    rw [if_pos rfl]
    show (isExpr 3 a.d && isExpr 3 b.d) = true
    rw [Ex.vd.is q.1, Ex.vd.is q.2]
    rfl
theorem Ts.vd.is : ∀ {n : Nat} {t : Ts}, t.vd n → isTest n t.d = true
  | 0, t, h => Ts.vd.isF h fun u e => by subst e; exact h.elim
  | n + 1, t, h => Ts.vd.isF h fun u e => by subst e; exact Ts.vd.is (n := n) h
theorem Pl.vd.is {p : Pl} (h : p.vd) : isStmt p.d = true := by
  cases p with
  | set x e =>
    show isStmtL "set" [.str x, e.d] = true
    unfold isStmtL isPlainL
    rw [if_neg (by decide +kernel), if_neg (by decide +kernel), if_pos rfl]
    show (isNameS x && isExpr 3 e.d) = true
    rw [h.1, Ex.vd.is h.2]
    rfl
  | unset x =>
    show isStmtL "unset" [.str x] = true
    unfold isStmtL isPlainL
    rw [if_neg (by decide +kernel), if_neg (by decide +kernel), if_neg (by decide +kernel), if_pos rfl]
    exact h
  | tell e =>
    show isStmtL "tell" [e.d] = true
    unfold isStmtL isPlainL
    rw [if_neg (by decide +kernel), if_neg (by decide +kernel), if_neg (by decide +kernel), if_neg (by decide +kernel), if_pos rfl]
    exact Ex.vd.is (n := 3) h
  | say x =>
    show isStmtL "say" [.str x] = true
    unfold isStmtL isPlainL
    rw [if_neg (by decide +kernel), if_neg (by decide +kernel), if_neg (by decide +kernel), if_neg (by decide +kernel), if_neg (by decide +kernel), if_pos (.inl rfl)]
    exact h
  | stop x =>
    show isStmtL "stop" [.str x] = true
    unfold isStmtL isPlainL
    rw [if_neg (by decide +kernel), if_neg (by decide +kernel), if_neg (by decide +kernel), if_neg (by decide +kernel), if_neg (by decide +kernel), if_pos (.inr rfl)]
    exact h
def Sm.kids : Sm → List Sm
  | .pl _ => []
  | .ifs _ y z => y ++ z
  | .rep _ b => b
theorem Sm.ds_app (a b : List Sm) : Sm.ds (a ++ b) = Sm.ds a ++ Sm.ds b := by rw [Sm.ds_map, Sm.ds_map, Sm.ds_map, List.map_append]
theorem Sm.vd.is {n : Nat} {s : Sm} (h : s.vd n) : isStmt s.d = true ∧ inner s.d = Sm.ds s.kids ∧ ∀ c ∈ s.kids, ∃ m, Sm.vd m c ∧ m < n := by
  cases s with
  | pl p =>
    have q : p.vd := by cases n <;> exact h
    refine ⟨by rw [Sm.d]; exact q.is, ?_, fun c hc => by cases hc⟩
    obtain ⟨u, r, e, n1, n2⟩ := Pl.hd p
    rw [Sm.d, e, Sm.kids, Sm.ds]
    unfold inner blks
    simp only [if_neg n1, if_neg n2, List.flatten_nil]
  | ifs t y z =>
    have ht : t.vd 2 := by cases n <;> exact h.1
    refine ⟨?_, ?_, fun c hc => ?_⟩
    · rw [Sm.d]
      show isStmtL "if" [t.d, .tuple (Sm.ds y), .tuple (Sm.ds z)] = true
      unfold isStmtL
      rw [if_pos rfl]
      show (isTest 2 t.d && (true && true)) = true
      rw [ht.is]
      rfl
    · rw [Sm.d, Sm.kids, Sm.ds_app]
      show [Sm.ds y, Sm.ds z].flatten = _
      simp
    · cases n with
      | zero =>
        obtain ⟨_, rfl, rfl⟩ := h
        cases hc
      | succ n =>
        rcases List.mem_append.mp hc with hc | hc
        · exact ⟨n, h.2.1 c hc, by omega⟩
        · exact ⟨n, h.2.2 c hc, by omega⟩
  | rep k b =>
    have hk : 0 ≤ k ∧ k ≤ 8 := by cases n <;> exact ⟨h.1, h.2.1⟩
    refine ⟨?_, ?_, fun c hc => ?_⟩
    · rw [Sm.d]
      show isStmtL "repeat" [.int k, .tuple (Sm.ds b)] = true
      unfold isStmtL
      rw [if_neg (by decide +kernel), if_pos rfl]
      show ((decide (0 ≤ k) && decide (k ≤ 8)) && true) = true
      rw [decide_eq_true hk.1, decide_eq_true hk.2]
      rfl
    · rw [Sm.d, Sm.kids]
      show [Sm.ds b].flatten = _
      simp
    · cases n with
      | zero =>
        obtain ⟨_, _, rfl⟩ := h
        cases hc
      | succ n => exact ⟨n, h.2.2 c hc, by omega⟩

/-! ### rows, counts -/
mutual
def Sm.rows (dep : Nat) : Sm → List (Nat × PyData)
  | .pl p => [(dep, p.d)]
  | .ifs t y z => (dep, .tuple [.str "if", t.d, .tuple (Sm.ds y), .tuple (Sm.ds z)]) :: (Sm.rowsL (dep + 1) y ++ Sm.rowsL (dep + 1) z)
  | .rep k b => (dep, .tuple [.str "repeat", .int k, .tuple (Sm.ds b)]) :: Sm.rowsL (dep + 1) b
def Sm.rowsL (dep : Nat) : List Sm → List (Nat × PyData)
  | [] => []
  | s :: r => Sm.rows dep s ++ Sm.rowsL dep r
end
theorem Sm.rowsL_app (n : Nat) : ∀ a b : List Sm, Sm.rowsL n (a ++ b) = Sm.rowsL n a ++ Sm.rowsL n b
  | [], b => by rw [List.nil_append, Sm.rowsL, List.nil_append]
  | s :: r, b => by rw [List.cons_append, Sm.rowsL, Sm.rowsL, Sm.rowsL_app n r b, List.append_assoc]
theorem Sm.rows_kids (n : Nat) (s : Sm) : Sm.rows n s = (n, s.d) :: Sm.rowsL (n + 1) s.kids := by
  cases s with
  | pl p => rw [Sm.rows, Sm.d, Sm.kids, Sm.rowsL]
  | ifs t y z => rw [Sm.rows, Sm.d, Sm.kids, Sm.rowsL_app]
  | rep k b => rw [Sm.rows, Sm.d, Sm.kids]
mutual
theorem Sm.rows_len (n : Nat) : ∀ s : Sm, (Sm.rows n s).length = s.size
  | .pl p => by rw [Sm.rows, Sm.size]; rfl
  | .ifs t y z => by rw [Sm.rows, Sm.size, List.length_cons, List.length_append, Sm.rowsL_len (n + 1) y, Sm.rowsL_len (n + 1) z]; omega
  | .rep k b => by rw [Sm.rows, Sm.size, List.length_cons, Sm.rowsL_len (n + 1) b]; omega
theorem Sm.rowsL_len (n : Nat) : ∀ b : List Sm, (Sm.rowsL n b).length = Sm.sizes b
  | [] => by rw [Sm.rowsL, Sm.sizes]; rfl
  | s :: r => by rw [Sm.rowsL, Sm.sizes, List.length_append, Sm.rows_len n s, Sm.rowsL_len n r]
end
def rowsT (T : List (Nat × Sm)) : List (Nat × PyData) := T.flatMap fun p => Sm.rows p.1 p.2
def dT (T : List (Nat × Sm)) : List (Nat × PyData) := T.map fun p => (p.1, p.2.d)
theorem rowsT_map (n : Nat) : ∀ b : List Sm, rowsT (b.map fun s => (n, s)) = Sm.rowsL n b
  | [] => by rw [Sm.rowsL]; rfl
  | s :: r => by
    have q := rowsT_map n r
    unfold rowsT at q ⊢
    rw [List.map_cons, List.flatMap_cons, q, Sm.rowsL]
theorem dT_map (n : Nat) (b : List Sm) : dT (b.map fun s => (n, s)) = (Sm.ds b).map fun e => (n, e) := by
  unfold dT
  rw [Sm.ds_map, List.map_map, List.map_map]
  rfl
def Ts.bare : Ts → Ts
  | .not t => t.bare
  | t => t
def Ts.word : Ts → Str
  | .not _ => "not"
  | .given _ => "given"
  | .rest _ _ _ => "rest"
  | .less _ _ => "less"
def Ts.high : Ts → Nat
  | .not t => t.high + 1
  | _ => 0
theorem Ts.headW {M : List Addr} {K : PySem.W.Frag} {H : Hp} {v : V} {t : Ts} (h : Dw M K H v t.d) : ∃ (a : Addr) (ys : List V), v = .ref a ∧ SqT K H a (.str t.word :: ys) ∧ atI (V.str t.word :: ys) 0 = some (V.str t.word) := by
  have key : ∀ {w : Str} {r : List PyData}, t.d = .tuple (.str w :: r) → t.word = w → ∃ (a : Addr) (ys : List V), v = .ref a ∧ SqT K H a (.str t.word :: ys) ∧ atI (V.str t.word :: ys) 0 = some (V.str t.word) := by
    intro w r e ew
    rw [e] at h
    obtain ⟨a, xs, rfl, hT, hL⟩ := h.items
    obtain ⟨x, ys, rfl, h0, hR⟩ := hL.inv
    obtain rfl := h0.isStr
    rw [ew]
    exact ⟨a, ys, rfl, hT, at_nn (Int.le_refl 0) rfl⟩
  cases t <;> exact key rfl rfl
def Sm.own (so : Str) (s : Sm) : Int := if so = "weight" then 1 else match s with
  | .ifs t _ _ => if t.bare.word = so then 1 else 0
  | _ => 0
mutual
def Sm.cnt (so : Str) : Sm → Int
  | .pl p => Sm.own so (.pl p)
  | .ifs t y z => Sm.own so (.ifs t y z) + (Sm.cnts so y + Sm.cnts so z)
  | .rep k b => Sm.own so (.rep k b) + Sm.cnts so b * k
def Sm.cnts (so : Str) : List Sm → Int
  | [] => 0
  | s :: r => Sm.cnt so s + Sm.cnts so r
end
theorem Sm.cnts_snoc (so : Str) (s : Sm) : ∀ a : List Sm, Sm.cnts so (a ++ [s]) = Sm.cnts so a + Sm.cnt so s
  | [] => by simp only [List.nil_append, Sm.cnts]; omega
  | u :: r => by simp only [List.cons_append, Sm.cnts]; rw [Sm.cnts_snoc so s r]; omega
def VdB : Nat → List Sm → Prop
  | 0, b => b = []
  | n + 1, b => ∀ s ∈ b, Sm.vd n s
def Sm.parts : Sm → List (List Sm)
  | .pl _ => []
  | .ifs _ y z => [y, z]
  | .rep _ b => [b]
theorem Sm.vd.parts {n : Nat} {s : Sm} (h : s.vd n) : ∀ b ∈ s.parts, VdB n b := by
  intro b hb
  cases s with
  | pl p => cases hb
  | ifs t y z =>
    cases n with
    | zero =>
      rcases List.mem_cons.mp hb with rfl | hb
      · exact h.2.1
      · rw [List.mem_singleton.mp hb]; exact h.2.2
    | succ n =>
      rcases List.mem_cons.mp hb with rfl | hb
      · exact h.2.1
      · rw [List.mem_singleton.mp hb]; exact h.2.2
  | rep k c =>
    cases n with
    | zero => rw [List.mem_singleton.mp hb]; exact h.2.2
    | succ n => rw [List.mem_singleton.mp hb]; exact h.2.2
theorem Sm.blks (s : Sm) : Aw.blks s.d = s.parts.map Sm.ds := by
  cases s with
  | pl p =>
    obtain ⟨u, r, e, n1, n2⟩ := Pl.hd p
    rw [Sm.d, e, Sm.parts]
    unfold Aw.blks
    simp only [if_neg n1, if_neg n2]
    rfl
  | ifs t y z => rw [Sm.d]; rfl
  | rep k b => rw [Sm.d]; rfl
/-- how often the blocks count -/
def Sm.again : Sm → Int
  | .rep k _ => k
  | _ => 1
theorem Sm.cnt_parts (so : Str) (s : Sm) : s.cnt so = s.own so + (s.parts.map (Sm.cnts so)).sum * s.again := by
  cases s with
  | pl p => simp [Sm.cnt, Sm.parts, Sm.again]
  | ifs t y z => simp [Sm.cnt, Sm.parts, Sm.again]
  | rep k b => simp [Sm.cnt, Sm.parts, Sm.again]
def errD (x : Str) : PyData := .tuple [.none, .str x]
def lim (p : List Sm) : PyData := if Sm.sizes p > 24 then errD "places" else if Sm.cnts "weight" p > 30 then errD "weight" else if Sm.cnts "rest" p > 2 then errD "rests" else if Sm.cnts "less" p > 2 then errD "comparings" else .none
open Classical in
noncomputable def treeOf (ds : List PyData) : List Sm := if h : ∃ b : List Sm, ds = Sm.ds b ∧ ∀ s ∈ b, Sm.vd 3 s then h.choose else []
theorem treeOf_spec {ds : List PyData} (h : ordErr ds = none) : ds = Sm.ds (treeOf ds) ∧ ∀ s ∈ treeOf ds, Sm.vd 3 s := by
  unfold treeOf
  rw [dif_pos (ordErr_view h)]
  exact (ordErr_view h).choose_spec
noncomputable def perr : PyData → PyData
  | .tuple ds => match ordErr ds with
    | some x => ordD (some x)
    | none => lim (treeOf ds)
  | _ => errD "program"

mutual
theorem Sm.size_dsz : ∀ s : Sm, s.size ≤ dsz s.d
  | .pl p => by rw [Sm.size]; exact dsz_pos _
  | .ifs t y z => by
    have a := Sm.sizes_dszs y
    have b := Sm.sizes_dszs z
    rw [Sm.size, Sm.d]
    simp only [dsz, dszs]
    omega
  | .rep k b => by
    have a := Sm.sizes_dszs b
    rw [Sm.size, Sm.d]
    simp only [dsz, dszs]
    omega
theorem Sm.sizes_dszs : ∀ b : List Sm, Sm.sizes b ≤ dszs (Sm.ds b)
  | [] => by rw [Sm.sizes]; exact Nat.zero_le _
  | s :: r => by
    have a := Sm.size_dsz s
    have b := Sm.sizes_dszs r
    rw [Sm.sizes, Sm.ds, dszs]
    omega
end
def spRows (K : PySem.W.Frag) : Sp := fun vs H Q _ => ∃ (M : List Addr) (v : V) (p : List Sm), vs = [v] ∧ Dw M K H v (.tuple (Sm.ds p)) ∧ (∀ s ∈ p, ∃ n, Sm.vd n s) ∧ dszs (Sm.ds p) ≤ 1000000 ∧
  ∀ (H' : Hp) (r : Addr) (us : List V), H r = none → Kp [] H H' → H' r = some (.lst us) → Stk M K H' us (Sm.rowsL 0 p) → Q (.ref r) H'
def spBare (K : PySem.W.Frag) : Sp := fun vs H Q _ => ∃ (M : List Addr) (v : V) (t : Ts), vs = [v] ∧ Dw M K H v t.d ∧ ∀ u, Dw M K H u t.bare.d → Q u H
def spOwn (K : PySem.W.Frag) : Sp := fun vs H Q _ => ∃ (M : List Addr) (v : V) (s : Sm) (so : Str), vs = [v, .str so] ∧ Dw M K H v s.d ∧ Q (.int (s.own so)) H
def spCnt (K : PySem.W.Frag) (n : Nat) : Sp := fun vs H Q _ => ∃ (M : List Addr) (v : V) (b : List Sm) (so : Str), vs = [v, .str so] ∧ Dw M K H v (.tuple (Sm.ds b)) ∧ VdB n b ∧
  ∀ H', Kp [] H H' → Q (.int (Sm.cnts so b)) H'
def spWt (K : PySem.W.Frag) : Sp := fun vs H Q _ => ∃ (M : List Addr) (v : V) (b : List Sm), vs = [v] ∧ Dw M K H v (.tuple (Sm.ds b)) ∧ VdB 4 b ∧
  ∀ H', Kp [] H H' → Q (.int (Sm.cnts "weight" b)) H'
noncomputable def spPerr (K : PySem.W.Frag) : Sp := fun vs H Q _ => ∃ (v : V) (d : PyData), vs = [v] ∧ Dw [] K H v d ∧ dsz d ≤ 1000000 ∧
  ∀ (H' : Hp) (r : V), Kp [] H H' → Dt K H' r (perr d) → Q r H'

/-! ### the law's own questions -/
def isLetS (x : Str) : Bool := decide (1 ≤ x.length) && decide (x.length ≤ 8) && x.cps.toList.all isSgn
def isLetD : PyData → Bool
  | .str x => isLetS x
  | _ => false
def spLet (K : PySem.W.Frag) : Sp := fun vs H Q _ => ∃ (v : V) (d : PyData), vs = [v, .int 8] ∧ Dw [] K H v d ∧ dsz d ≤ 1000000 ∧ ∀ H', Kp [] H H' → Q (.bl (isLetD d)) H'
theorem isLetD_str {d : PyData} (h : isLetD d = true) : ∃ x, d = .str x := by
  unfold isLetD at h
  split at h
  · exact ⟨_, rfl⟩
  · cases h
theorem isNameS_let (x : Str) : isNameS x = (isLetS x && isLet (x.cps.toList.headD 0) && !KEPTS.contains x) := by
  unfold isNameS isLetS
  cases decide (1 ≤ x.length) <;> cases decide (x.length ≤ 8) <;> cases isLet (x.cps.toList.headD 0) <;> cases x.cps.toList.all isSgn <;> rfl
theorem isName_let {d : PyData} (h : isLetD d = false) : isName d = false := by
  cases d with
  | str x =>
    show isNameS x = false
    have h : isLetS x = false := h
    rw [isNameS_let, h, Bool.false_and, Bool.false_and]
  | _ => rfl
theorem isLetS_head {x : Str} (h : isLetS x = true) : ∃ c0 cr, x.cps.toList = c0 :: cr ∧ isSgn c0 = true := by
  unfold isLetS at h
  simp only [Bool.and_eq_true, decide_eq_true_eq] at h
  obtain ⟨⟨h1, _⟩, h2⟩ := h
  cases e : x.cps.toList with
  | nil =>
    have q : x.cps.toList.length = x.length := by rw [Array.length_toList]; rfl
    rw [e, List.length_nil] at q
    omega
  | cons c r =>
    rw [e, List.all_cons, Bool.and_eq_true] at h2
    exact ⟨c, r, rfl, h2.1⟩
def DIG : Str := "0123456789"
theorem let_dig : ∀ c ∈ SGN.cps.toList, isLet c = !decide (c ∈ DIG.cps.toList) := by decide +kernel
theorem isNameS_dig {x : Str} {c0 : Nat} {cr : List Nat} (h : isLetS x = true) (e : x.cps.toList = c0 :: cr) (hd : c0 ∈ ("0123456789" : Str).cps.toList) : isNameS x = false := by
  obtain ⟨c1, cr1, e1, hs⟩ := isLetS_head h
  rw [e] at e1
  cases e1
  have q := let_dig c0 (of_decide_eq_true hs)
  rw [decide_eq_true (p := c0 ∈ DIG.cps.toList) hd] at q
  rw [isNameS_let, e]
  show (isLetS x && isLet c0 && _) = false
  rw [q, Bool.not_true, Bool.and_false, Bool.false_and]
theorem isNameS_kept {x : Str} {c0 : Nat} {cr : List Nat} (h : isLetS x = true) (e : x.cps.toList = c0 :: cr) (hd : ¬ c0 ∈ ("0123456789" : Str).cps.toList) : isNameS x = !KEPTS.contains x := by
  obtain ⟨c1, cr1, e1, hs⟩ := isLetS_head h
  rw [e] at e1
  cases e1
  have q := let_dig c0 (of_decide_eq_true hs)
  rw [decide_eq_false (p := c0 ∈ DIG.cps.toList) hd] at q
  rw [isNameS_let, e]
  show (isLetS x && isLet c0 && _) = _
  rw [q, h, Bool.not_false, Bool.true_and, Bool.true_and]
def spRest4 (K : PySem.W.Frag) : Sp := fun vs H Q _ => ∃ (v : V) (ds : List PyData), vs = [v] ∧ Dw [] K H v (.tuple ds) ∧ ds.length = 4 ∧ dszs ds ≤ 1000000 ∧ ∀ H', Kp [] H H' → Q (.bl (isRestL ds)) H'
def testZ : List (Str × Int) := [("less", 3), ("rest", 4), ("given", 2), ("not", 2)]
def stmtZ : List (Str × Int) := [("set", 3), ("unset", 2), ("tell", 2), ("say", 2), ("stop", 2), ("if", 4), ("repeat", 3)]
theorem testZ_merge : mergeK [] (szK testZ) = szK testZ := by decide +kernel
theorem stmtZ_merge : mergeK [] (szK stmtZ) = szK stmtZ := by decide +kernel
theorem szOf_none {kvs : List (Str × Int)} {w : Str} (h : ∀ p ∈ kvs, p.1 ≠ w) : szOf kvs w = 0 := by
  unfold szOf
  rw [List.find?_eq_none.mpr fun p hp => by simpa using h p hp]
  rfl
/-- by its length a test, a statement is out -/
theorem isTestL_size {f : PyData → Bool} {w : Str} {r : List PyData} (h : ((r.length + 1 : Nat) : Int) ≠ szOf testZ w) : isTestL f w r = false := by
  unfold isTestL
  split
  · rename_i e
    subst e
    rw [show szOf testZ "less" = 3 from by decide +kernel] at h
    exact two_len (by omega)
  split
  · rename_i e
    subst e
    rw [show szOf testZ "rest" = 4 from by decide +kernel] at h
    exact isRestL_len (by rw [List.length_cons]; omega)
  split
  · rename_i e
    subst e
    rw [show szOf testZ "given" = 2 from by decide +kernel] at h
    exact one_len (by omega)
  split
  · rename_i e
    subst e
    rw [show szOf testZ "not" = 2 from by decide +kernel] at h
    exact one_len (by omega)
  · rfl
theorem testZ_word {w : Str} {n : Nat} (h : ((n + 1 : Nat) : Int) = szOf testZ w) : (w = "less" ∧ n = 2) ∨ (w = "rest" ∧ n = 3) ∨ (w = "given" ∧ n = 1) ∨ (w = "not" ∧ n = 1) := by
  by_cases h1 : w = "less"
  · subst h1
    rw [show szOf testZ "less" = 3 from by decide +kernel] at h
    exact .inl ⟨rfl, by omega⟩
  by_cases h2 : w = "rest"
  · subst h2
    rw [show szOf testZ "rest" = 4 from by decide +kernel] at h
    exact .inr (.inl ⟨rfl, by omega⟩)
  by_cases h3 : w = "given"
  · subst h3
    rw [show szOf testZ "given" = 2 from by decide +kernel] at h
    exact .inr (.inr (.inl ⟨rfl, by omega⟩))
  by_cases h4 : w = "not"
  · subst h4
    rw [show szOf testZ "not" = 2 from by decide +kernel] at h
    exact .inr (.inr (.inr ⟨rfl, by omega⟩))
  · rw [szOf_none (fun p hp => by
      simp only [testZ, List.mem_cons, List.not_mem_nil, or_false] at hp
      rcases hp with rfl | rfl | rfl | rfl <;> exact fun e => by first | exact h1 e.symm | exact h2 e.symm | exact h3 e.symm | exact h4 e.symm)] at h
    omega
theorem isWord_let {x : Str} (h : isLetS x = true) : isWordS x = !decide (x = "unsure") := by
  unfold isLetS at h
  unfold isWordS
  simp only [Bool.and_eq_true] at h
  rw [h.1.1, h.1.2, h.2, Bool.true_and, Bool.true_and, Bool.and_true]
theorem isWord_let0 {d : PyData} (h : isLetD d = false) : isWord d = false := by
  cases d with
  | str x =>
    show isWordS x = false
    have h : isLetS x = false := h
    unfold isLetS at h
    unfold isWordS
    cases h1 : decide (1 ≤ x.length) <;> cases h2 : decide (x.length ≤ 8) <;> cases h3 : x.cps.toList.all isSgn <;> rw [h1, h2, h3] at h <;> first | (cases h; done) | simp
  | _ => rfl
theorem isStmtL_size {w : Str} {r : List PyData} (h : ((r.length + 1 : Nat) : Int) ≠ szOf stmtZ w) : isStmtL w r = false := by
  unfold isStmtL isPlainL
  split
  · rename_i e
    subst e
    rw [show szOf stmtZ "if" = 4 from by decide +kernel] at h
    exact three_len (by omega)
  split
  · rename_i e
    subst e
    rw [show szOf stmtZ "repeat" = 3 from by decide +kernel] at h
    exact two_len (by omega)
  split
  · rename_i e
    subst e
    rw [show szOf stmtZ "set" = 3 from by decide +kernel] at h
    exact two_len (by omega)
  split
  · rename_i e
    subst e
    rw [show szOf stmtZ "unset" = 2 from by decide +kernel] at h
    exact one_len (by omega)
  split
  · rename_i e
    subst e
    rw [show szOf stmtZ "tell" = 2 from by decide +kernel] at h
    exact one_len (by omega)
  split
  · rename_i e
    rcases e with rfl | rfl
    · rw [show szOf stmtZ "say" = 2 from by decide +kernel] at h
      exact one_len (by omega)
    · rw [show szOf stmtZ "stop" = 2 from by decide +kernel] at h
      exact one_len (by omega)
  · rfl
theorem stmtZ_word {w : Str} {n : Nat} (h : ((n + 1 : Nat) : Int) = szOf stmtZ w) : (w = "set" ∧ n = 2) ∨ (w = "unset" ∧ n = 1) ∨ (w = "tell" ∧ n = 1) ∨ (w = "say" ∧ n = 1) ∨ (w = "stop" ∧ n = 1) ∨ (w = "if" ∧ n = 3) ∨ (w = "repeat" ∧ n = 2) := by
  by_cases h0 : w = "set"
  · subst h0
    rw [show szOf stmtZ "set" = 3 from by decide +kernel] at h
    exact .inl ⟨rfl, by omega⟩
  by_cases h1 : w = "unset"
  · subst h1
    rw [show szOf stmtZ "unset" = 2 from by decide +kernel] at h
    exact .inr (.inl ⟨rfl, by omega⟩)
  by_cases h2 : w = "tell"
  · subst h2
    rw [show szOf stmtZ "tell" = 2 from by decide +kernel] at h
    exact .inr (.inr (.inl ⟨rfl, by omega⟩))
  by_cases h3 : w = "say"
  · subst h3
    rw [show szOf stmtZ "say" = 2 from by decide +kernel] at h
    exact .inr (.inr (.inr (.inl ⟨rfl, by omega⟩)))
  by_cases h4 : w = "stop"
  · subst h4
    rw [show szOf stmtZ "stop" = 2 from by decide +kernel] at h
    exact .inr (.inr (.inr (.inr (.inl ⟨rfl, by omega⟩))))
  by_cases h5 : w = "if"
  · subst h5
    rw [show szOf stmtZ "if" = 4 from by decide +kernel] at h
    exact .inr (.inr (.inr (.inr (.inr (.inl ⟨rfl, by omega⟩)))))
  by_cases h6 : w = "repeat"
  · subst h6
    rw [show szOf stmtZ "repeat" = 3 from by decide +kernel] at h
    exact .inr (.inr (.inr (.inr (.inr (.inr (⟨rfl, by omega⟩))))))
  rw [szOf_none (fun p hp => by
    simp only [stmtZ, List.mem_cons, List.not_mem_nil, or_false] at hp
    rcases hp with rfl | rfl | rfl | rfl | rfl | rfl | rfl <;> exact fun e => by first | exact h0 e.symm | exact h1 e.symm | exact h2 e.symm | exact h3 e.symm | exact h4 e.symm | exact h5 e.symm | exact h6 e.symm)] at h
  omega

def cnt4 (b : List Sm) : List V := [.int (Sm.sizes b), .int (Sm.cnts "weight" b), .int (Sm.cnts "rest" b), .int (Sm.cnts "less" b)]
def spCnt4 (K : PySem.W.Frag) (n : Nat) : Sp := fun vs H Q _ => ∃ (M : List Addr) (v : V) (b : List Sm), vs = [v] ∧ Dw M K H v (.tuple (Sm.ds b)) ∧ VdB n b ∧
  ∀ (H' : Hp) (p : Addr), H p = none → Kp [] H H' → H' p = some (.lst (cnt4 b)) → Q (.ref p) H'
def Sm.wd : Sm → Str
  | .ifs t _ _ => t.bare.word
  | _ => "none"
/-- a test on its way to the bare one, which has this word -/
def HdT (M : List Addr) (K : PySem.W.Frag) (H : Hp) (v : V) (wd : Str) (m : Nat) : Prop :=
  (∃ t : Ts, Dw M K H v t.d ∧ t.bare.word = wd ∧ t.high = m) ∨ (∃ a : Addr, v = .ref a ∧ SqT K H a [.str "none"] ∧ wd = "none" ∧ m = 0)
def sumZ (b : List (List Sm)) : Int := (b.map fun c => ((Sm.sizes c : Nat) : Int)).sum
def sumC (so : Str) (b : List (List Sm)) : Int := (b.map (Sm.cnts so)).sum
theorem sumZ_snoc (a : List (List Sm)) (c : List Sm) : sumZ (a ++ [c]) = sumZ a + (Sm.sizes c : Nat) := by unfold sumZ; simp
theorem sumC_snoc (so : Str) (a : List (List Sm)) (c : List Sm) : sumC so (a ++ [c]) = sumC so a + Sm.cnts so c := by unfold sumC; simp
def own4 (s : Sm) (b : List (List Sm)) : List V := [.int (1 + sumZ b), .int (s.own "weight" + s.again * sumC "weight" b), .int (s.own "rest" + s.again * sumC "rest" b), .int (s.own "less" + s.again * sumC "less" b)]
theorem Sm.size_sum (s : Sm) : ((s.size : Nat) : Int) = 1 + sumZ s.parts := by
  unfold sumZ
  cases s <;> (rw [Sm.size]; simp [Sm.parts]; try omega)
theorem Sm.cnt_sum (so : Str) (s : Sm) : s.cnt so = s.own so + s.again * sumC so s.parts := by
  rw [Sm.cnt_parts, Int.mul_comm]
  rfl
theorem Sm.own_wd (s : Sm) (so : Str) (h : so ≠ "weight") (h2 : so ≠ "none") : s.own so = if s.wd = so then 1 else 0 := by
  unfold Sm.own
  rw [if_neg h]
  cases s with
  | ifs t y z => rfl
  | pl p => exact (if_neg (Ne.symm h2)).symm
  | rep k b => exact (if_neg (Ne.symm h2)).symm
theorem own4_nil (s : Sm) : [V.int 1, V.int 1, V.int (if decide (V.str s.wd = V.str "rest") = true then 1 else 0), V.int (if decide (V.str s.wd = V.str "less") = true then 1 else 0)] = own4 s [] := by
  unfold own4 sumZ sumC
  rw [Sm.own_wd s "rest" (by decide +kernel) (by decide +kernel), Sm.own_wd s "less" (by decide +kernel) (by decide +kernel), show s.own "weight" = 1 from if_pos rfl]
  simp only [List.map_nil, List.sum_nil, Int.mul_zero, Int.add_zero, decide_eq_true_eq, V.str.injEq]
theorem own4_snoc (s : Sm) (a : List (List Sm)) (c : List Sm) : own4 s (a ++ [c]) = [.int (1 + sumZ a + (Sm.sizes c : Nat)), .int (s.own "weight" + s.again * sumC "weight" a + s.again * Sm.cnts "weight" c), .int (s.own "rest" + s.again * sumC "rest" a + s.again * Sm.cnts "rest" c),
    .int (s.own "less" + s.again * sumC "less" a + s.again * Sm.cnts "less" c)] := by
  unfold own4
  rw [sumZ_snoc, sumC_snoc, sumC_snoc, sumC_snoc, Int.mul_add, Int.mul_add, Int.mul_add]
  simp only [Int.add_assoc]
theorem cnt4_snoc (a : List Sm) (s : Sm) : cnt4 (a ++ [s]) = [.int ((Sm.sizes a : Nat) + (1 + sumZ s.parts)), .int (Sm.cnts "weight" a + (s.own "weight" + s.again * sumC "weight" s.parts)),
    .int (Sm.cnts "rest" a + (s.own "rest" + s.again * sumC "rest" s.parts)), .int (Sm.cnts "less" a + (s.own "less" + s.again * sumC "less" s.parts))] := by
  unfold cnt4
  rw [Sm.cnts_snoc, Sm.cnts_snoc, Sm.cnts_snoc, Sm.sizes_snoc, Sm.cnt_sum, Sm.cnt_sum, Sm.cnt_sum, ← Sm.size_sum]
  rfl
theorem kept_mk {K : PySem.W.Frag} {h : Heap} {mg : Str → Option Value} {a : Addr} {od : Option Addr} {its : Array Value} {n : Nat} {sl : Array (Option Value)} (X : K.In h) (G : h.Ns mainGlobals mg)
    (z1 : PySem.W.nsIn K mainGlobals "KEPT" = some (some (.ref a))) (z2 : K.lookup a = some ⟨.type "tuple", od, .seq its n, sl⟩) (z3 : its.size ≤ 1000) (z4 : Vals (KEPTS.map V.str) its.toList) :
    ∃ a, mg "KEPT" = some (.ref a) ∧ ∀ H : Hp, SqT K H a (KEPTS.map V.str) :=
  ⟨a, PySem.W.mg_of X G z1, fun H => .inr ⟨_, its, n, z2, rfl, rfl, by rw [sizeLine_eq]; omega, z4⟩⟩
end Aw

/-! k30: the makers' promises, the end's facts -/
namespace Aw
open PySem PySem.Spec L2

/-- data is made, of at most so great a size -/
def spMk (K : PySem.W.Frag) (z : Nat) : Sp := fun vs H Q _ => ∃ (d c : Addr) (n : Int), vs = [.ref d] ∧ Deck H d c n ∧ n < 10 ^ 11 ∧
  ∀ (H' : Hp) (v : V) (ds : List PyData) (n' : Int), Deck H' d c n' → n ≤ n' → n' ≤ n + 100 → Kp [d, c] H H' → Dt K H' v (.tuple ds) → dszs ds ≤ z → Q v H'
theorem dszs_rep (d : PyData) : ∀ n : Nat, dszs (List.replicate n d) = n * dsz d
  | 0 => by rw [List.replicate_zero, dszs, Nat.zero_mul]
  | n + 1 => by rw [List.replicate_succ, dszs, dszs_rep d n, Nat.add_mul, Nat.one_mul, Nat.add_comm]
theorem flat_rep {α : Type} (x : α) : ∀ n : Nat, (List.replicate n [x]).flatten = List.replicate n x
  | 0 => rfl
  | n + 1 => by rw [List.replicate_succ, List.flatten_cons, flat_rep x n]; rfl
/-- [written] * draw -/
theorem rep_draw {K : PySem.W.Frag} {σ : L2.St} {H : Hp} {Q : VK} {E : XK} {te : TE} {x : PyData} {d c : Addr} {n m : Int} (a : CD K σ H te x) (e0 : σ[0]? = some (some (.ref d)))
    (D : Deck H d c n) (hn : n < 10 ^ 12) (h1 : 1 ≤ m) (h2 : m ≤ 1000)
    (k : ∀ (H' : Hp) (p : Addr) (r : Nat) (vs : List V), (r : Int) < m → Deck H' d c (n + 1) → Kp [d, c] H H' → H p = none → p ≠ d → p ≠ c → H' p = some (.lst vs) → DtL K H' vs (List.replicate r x) → Q (.ref p) H') :
    tOp rRep (tLst (tCons te tNil)) (tCall spDraw [] E (tCons (tVar 0) (tCons (tC (.int m)) tNil))) σ H Q := by
  refine r_op (r_lst (r_cons (a.use fun H1 v k1 hv => r_nil ⟨by simp [sizeLine_eq], fun l hl => ?_⟩)))
  have k2 : Kp [] H (upd H1 l (.lst [v])) := k1.new hl
  have hv2 : Dt K (upd H1 l (.lst [v])) v x := hv.kp (Kp.nil.new hl)
  have hl2 : upd H1 l (.lst [v]) l = some (.lst [v]) := upd_same
  have hl0 : H l = none := k1.free (fun b hb => by cases hb) hl
  have D2 := D.kp k2 (by simp) (by simp)
  have f2 := D.fresh hl0
  have kk2 : Kp [d, c] H (upd H1 l (.lst [v])) := k2.sub D.ls (by simp)
  generalize upd H1 l (.lst [v]) = H2 at k2 hv2 hl2 D2 kk2
  refine r_call (r_cons (r_var e0 (r_cons (r_C (r_nil ?_)))))
  refine spDraw.use D2 hn h1 (by omega) fun H3 r r0 r1 D3 k3 => ?_
  have hl3 := k3.get hl2 (by simp [f2.1, f2.2])
  refine r_rep hl3 r0 (by omega) (by simp) fun p hp => ?_
  have k4 : Kp [] H3 (upd H3 p (.lst (List.replicate r.toNat [v]).flatten)) := Kp.nil.new hp
  have hp0 : H p = none := (kk2.trans k3).free D3.ls hp
  have fp := D.fresh hp0
  refine k _ p r.toNat _ (by omega) (D3.kp k4 (by simp) (by simp)) ((kk2.trans k3).new hp) hp0 fp.1 fp.2 upd_same ?_
  have q := DtL.rep (DtL.cons ((hv2.kp k3).kp k4) DtL.nil) r.toNat
  rw [flat_rep x] at q
  exact q
theorem Sm.cnts_nonneg {n : Nat} : ∀ {so : Str} {b : List Sm}, VdB n b → 0 ≤ Sm.cnts so b := by
  induction n with
  | zero =>
    intro so b h
    have h : b = [] := h
    subst h
    rw [Sm.cnts]
    exact Int.le_refl 0
  | succ n ih =>
    intro so b h
    induction b with
    | nil => rw [Sm.cnts]; exact Int.le_refl 0
    | cons s r ihr =>
      have h1 := ihr fun z hz => h z (List.mem_cons_of_mem _ hz)
      have h2 : 0 ≤ Sm.cnt so s := by
        have hs := h s (List.mem_cons_self ..)
        have ho : 0 ≤ s.own so := by
          unfold Sm.own
          split
          · omega
          · split
            · split <;> omega
            · omega
        rw [Sm.cnt_parts]
        have hp : 0 ≤ (s.parts.map (Sm.cnts so)).sum := by
          have hq := hs.parts
          generalize s.parts = ps at hq
          induction ps with
          | nil => exact Int.le_refl 0
          | cons p ps ihp =>
            rw [List.map_cons, List.sum_cons]
            have a := ih (so := so) (hq p (List.mem_cons_self ..))
            have c := ihp fun b hb => hq b (List.mem_cons_of_mem _ hb)
            omega
        have ha : 0 ≤ s.again := by
          cases s with
          | rep k b => cases n <;> exact hs.1
          | pl p => exact Int.le_of_lt Int.zero_lt_one
          | ifs t y z => exact Int.le_of_lt Int.zero_lt_one
        have := Int.mul_nonneg hp ha
        omega
      rw [Sm.cnts]
      omega
theorem ordLoop_place : ∀ (f : Nat) (st : List (Nat × PyData)) (pl : Nat) (p : Nat) (x : Str), ordLoop f st pl = some (p, x) → p ≤ pl + f ∧ (x = "nest" ∨ x = "statement") := by
  intro f
  induction f with
  | zero =>
    intro st pl p x h
    cases st <;> cases h
  | succ f ih =>
    intro st pl p x h
    cases st with
    | nil => cases h
    | cons q st =>
      obtain ⟨n, d⟩ := q
      rw [ordLoop] at h
      split at h
      · cases h
        exact ⟨by omega, .inl rfl⟩
      split at h
      · cases h
        exact ⟨by omega, .inr rfl⟩
      · have := ih _ _ _ _ h
        exact ⟨by omega, this.2⟩
theorem Shw.int {i : Int} {k : Nat} (h1 : -(2 ^ 64) < i) (h2 : i < 2 ^ 64) : Shw (.int i) k 70 := by
  refine ⟨by rw [PyData.showable]; exact decide_eq_true (log2_small h1 h2), by rw [PyData.hasDict], by rw [PyData.depth]; exact Nat.zero_le _, ?_⟩
  rw [PyData.shown]
  have h : i.natAbs.log2 < 64 := by
    by_cases h : i.natAbs = 0
    · rw [h]
      decide
    · exact (Nat.log2_lt h).mpr (show i.natAbs < 2 ^ 64 by omega)
  have q := int_text_length_le (k := 64) (by decide) h
  show (Str.ofString (toString i)).length ≤ 70
  rw [ofString_length]
  omega
theorem Shw.perr (d : PyData) (hz : dsz d ≤ 1000000) : Shw (perr d) 1 1000 := by
  have lit : ∀ x : Str, (PyData.strOk x && decide (x.length ≤ 10)) = true → ∀ e : PyData, Shw e 0 200 → Shw (.tuple [e, .str x]) 1 1000 := fun x hx e he =>
    (Shw.tup (k := 0) (n := 200) fun y hy => by
      simp only [List.mem_cons, List.not_mem_nil, or_false] at hy
      rcases hy with rfl | rfl
      · exact he
      · exact (Shw.str (k := 0) (Sok.lit hx)).mono (by omega) (by omega)).mono (by omega) (by simp)
  have er : ∀ x : Str, (PyData.strOk x && decide (x.length ≤ 10)) = true → Shw (errD x) 1 1000 := fun x hx => lit x hx _ ((Shw.non (k := 0)).mono (by omega) (by omega))
  cases d with
  | tuple ds =>
    rw [dsz] at hz
    rw [Aw.perr]
    cases ho : ordErr ds with
    | some x =>
      obtain ⟨p, x⟩ := x
      have q := ordLoop_place _ _ _ _ _ ho
      refine lit x ?_ (.int p) ((Shw.int (k := 0) (by omega) (by omega)).mono (by omega) (by omega))
      rcases q.2 with rfl | rfl <;> decide +kernel
    | none =>
      show Shw (lim (treeOf ds)) 1 1000
      unfold lim
      split
      · exact er _ (by decide +kernel)
      split
      · exact er _ (by decide +kernel)
      split
      · exact er _ (by decide +kernel)
      split
      · exact er _ (by decide +kernel)
      · exact (Shw.non (k := 0)).mono (by omega) (by omega)
  | _ => exact er _ (by decide +kernel)
theorem Sm.vd.mono {m : Nat} : ∀ {n : Nat} {s : Sm}, s.vd m → m ≤ n → s.vd n := by
  induction m with
  | zero =>
    intro n s h hn
    cases s with
    | pl p => cases n <;> exact h
    | ifs t y z =>
      obtain ⟨h1, rfl, rfl⟩ := h
      cases n
      · exact ⟨h1, rfl, rfl⟩
      · exact ⟨h1, (fun _ q => nomatch q), (fun _ q => nomatch q)⟩
    | rep k b =>
      obtain ⟨h1, h2, rfl⟩ := h
      cases n
      · exact ⟨h1, h2, rfl⟩
      · exact ⟨h1, h2, (fun _ q => nomatch q)⟩
  | succ m ih =>
    intro n s h hn
    obtain ⟨n, rfl⟩ : ∃ k, n = k + 1 := ⟨n - 1, by omega⟩
    cases s with
    | pl p => exact h
    | ifs t y z => exact ⟨h.1, fun s q => ih (h.2.1 s q) (by omega), fun s q => ih (h.2.2 s q) (by omega)⟩
    | rep k b => exact ⟨h.1, h.2.1, fun s q => ih (h.2.2 s q) (by omega)⟩
theorem Sm.len_sizes : ∀ b : List Sm, b.length ≤ Sm.sizes b
  | [] => Nat.zero_le _
  | s :: r => by
    have := Sm.len_sizes r
    have q : 1 ≤ s.size := by cases s <;> (rw [Sm.size]; try omega)
    rw [Sm.sizes, List.length_cons]
    omega
theorem ordLoop_vd : ∀ (f : Nat) (st : List (Nat × PyData)) (pl : Nat), stSize st ≤ f → (∀ p ∈ st, p.1 ≤ 3 ∧ ∃ s : Sm, p.2 = s.d ∧ s.vd (3 - p.1)) → ordLoop f st pl = none := by
  intro f
  induction f with
  | zero =>
    intro st pl h _
    cases st with
    | nil => rfl
    | cons q st =>
      obtain ⟨n, d⟩ := q
      rw [stSize_cons] at h
      have := dsz_pos d
      omega
  | succ f ih =>
    intro st pl h hv
    cases st with
    | nil => rfl
    | cons q st =>
      obtain ⟨n, d⟩ := q
      rw [stSize_cons] at h
      have hz := dsz_pos d
      have hi := inner_size d
      obtain ⟨hn, s, hd, hs⟩ := hv (n, d) (List.mem_cons_self ..)
      have hd : d = s.d := hd
      subst hd
      obtain ⟨h1, h2, h3⟩ := hs.is
      rw [ordLoop, if_neg (by omega), if_neg (by rw [h1]; decide)]
      refine ih _ _ (by rw [stSize_app, stSize_map]; omega) fun p hp => ?_
      rcases List.mem_append.mp hp with hp | hp
      · obtain ⟨e, he, rfl⟩ := List.mem_map.mp hp
        rw [h2, Sm.ds_map] at he
        obtain ⟨c, hc, rfl⟩ := List.mem_map.mp he
        obtain ⟨m, hm, hlt⟩ := h3 c hc
        have hn' : n ≤ 3 := hn
        have hlt' : m < 3 - n := hlt
        refine ⟨show n + 1 ≤ 3 by omega, c, rfl, ?_⟩
        exact hm.mono (show m ≤ 3 - (n + 1) by omega)
      · exact hv p (List.mem_cons_of_mem _ hp)
theorem perr_many {n : Nat} (h : 25 ≤ n) : perr (.tuple (List.replicate n (.tuple [.str "say", .str "go"]))) = errD "places" := by
  have ho : ordErr (List.replicate n (.tuple [.str "say", .str "go"])) = none := by
    refine ordLoop_vd _ _ 0 (by rw [stSize_map]; exact Nat.le_refl _) fun p hp => ?_
    obtain ⟨e, he, rfl⟩ := List.mem_map.mp hp
    refine ⟨Nat.zero_le _, .pl (.say "go"), ?_, ?_⟩
    · rw [List.eq_of_mem_replicate he]
      rfl
    · show isWordS "go" = true
      decide +kernel
  rw [perr, ho]
  show lim (treeOf _) = _
  unfold lim
  obtain ⟨e, _⟩ := treeOf_spec ho
  have q : n ≤ Sm.sizes (treeOf (List.replicate n (.tuple [.str "say", .str "go"]))) := by
    have l := congrArg List.length e
    rw [List.length_replicate, Sm.ds_map, List.length_map] at l
    exact Nat.le_trans (Nat.le_of_eq l) (Sm.len_sizes _)
  rw [if_pos (by omega)]
theorem rep_draw2 {K : PySem.W.Frag} {σ : L2.St} {H : Hp} {Q : VK} {E : XK} {te : TE} {x : PyData} {ds : List PyData} {p d c : Addr} {vs : List V} {n m : Int} (a : CD K σ H te x) (e0 : σ[0]? = some (some (.ref d)))
    (hp : H p = some (.lst vs)) (hd : p ≠ d) (hc : p ≠ c) (hv : DtL K H vs ds) (hz : ds.length ≤ 10000) (D : Deck H d c n) (hn : n < 10 ^ 12) (h1 : 1 ≤ m) (h2 : m ≤ 1000)
    (k : ∀ (H' : Hp) (q : Addr) (r : Nat) (ws : List V), (r : Int) < m → Deck H' d c (n + 1) → Kp [d, c] H H' → q ≠ d → q ≠ c → H' q = some (.lst ws) → DtL K H' ws (ds ++ List.replicate r x) → Q (.ref q) H') :
    tOp rRep (tLst (tCons te tNil)) (tCall spDraw [] E (tCons (tVar 0) (tCons (tC (.int m)) tNil))) σ H (fun y H2 => rCat (.ref p) y H2 Q) := by
  refine rep_draw a e0 D hn h1 h2 fun H1 q r us hr D1 k1 q0 qd qc hq hu => ?_
  have hp1 := k1.get hp (by simp [hd, hc])
  have hv1 := hv.kp k1
  have l1 := hv1.len
  have l2 := hu.len
  rw [List.length_replicate] at l2
  refine r_cat hp1 hq (by rw [sizeLine_eq]; omega) fun t ht => ?_
  have k2 : Kp [] H1 (upd H1 t (.lst (vs ++ us))) := Kp.nil.new ht
  have f := D1.fresh ht
  exact k _ t r _ hr (D1.kp k2 (by simp) (by simp)) (k1.new ht) f.1 f.2 upd_same ((hv1.app hu).kp k2)
/-! ### written ints, tuples many times, tuples put together -/
def CI (σ : L2.St) (ti : TE) (k : Int) : Prop := ∀ (H : Hp) (Q : VK), Q (.int k) H → ti σ H Q
section
variable {K : PySem.W.Frag} {σ : L2.St} {H0 : Hp} {te ta tb ti : TE} {ds es : List PyData} {i j k : Int}
theorem ci_int : CI σ (tC (.int k)) k := fun H Q h => h
theorem ci_var {n : Nat} (e : σ[n]? = some (some (.int k))) : CI σ (tVar n) k := fun H Q h => ⟨_, e, h⟩
theorem ci_add (a : CI σ ta i) (b : CI σ tb j) : CI σ (tOp (rI0 fun i j => .int (i + j)) ta tb) (i + j) := fun H Q h => r_op (a _ _ (b _ _ (r_I0 h)))
theorem cd_ci (a : CI σ te k) : CD K σ H0 te (.int k) := fun H Q _ h => a H Q (h H _ Kp.nil (.int k))
theorem cd_repW (a : CD K σ H0 te (.tuple ds)) (b : CI σ ti k) (h0 : ds ≠ []) (h1 : 2 ≤ k) (h2 : k ≤ 100000) (h3 : ds.length ≤ 100) :
    CD K σ H0 (tOp (rRepW K) te ti) (.tuple (List.replicate k.toNat ds).flatten) := fun H Q k0 h =>
  a H _ k0 fun H1 v k1 hv => b _ _ (by
    obtain ⟨p, xs, rfl, hT, hL⟩ := hv.items
    refine r_repW hT (fun e => h0 ?_) h1 h2 (by rw [hL.len]; exact h3) fun q hq => h _ _ (k1.new hq) (((hL.rep _).kp (Kp.nil.new hq)).tup upd_same)
    have q := hL.len
    rw [e] at q
    exact List.length_eq_zero_iff.mp q.symm)
theorem r_catA {H : Hp} {Q : VK} {v u : V} (hv : Dt K H v (.tuple ds)) (hu : Dt K H u (.tuple es)) (hz : ds.length + es.length ≤ 16777216)
    (h : ∀ H' w, Kp [] H H' → Dt K H' w (.tuple (ds ++ es)) → Q w H') : rCatA K v u H Q := by
  obtain ⟨a, xs, rfl, ha, la⟩ := hv.items
  obtain ⟨b, ys, rfl, hb, lb⟩ := hu.items
  refine ⟨a, b, xs, ys, rfl, rfl, ha, hb, by rw [la.len, lb.len, sizeLine_eq]; exact hz, fun e => ?_, fun _ e => ?_, fun _ _ p hp => ?_⟩
  · have q := la.len
    rw [e] at q
    obtain rfl : ds = [] := List.length_eq_zero_iff.mp q.symm
    exact h _ _ Kp.nil hu
  · have q := lb.len
    rw [e] at q
    obtain rfl : es = [] := List.length_eq_zero_iff.mp q.symm
    rw [List.append_nil] at h
    exact h _ _ Kp.nil hv
  · exact h _ _ (Kp.nil.new hp) (((la.app lb).kp (Kp.nil.new hp)).tup upd_same)
theorem cd_cat (a : CD K σ H0 ta (.tuple ds)) (b : CD K σ H0 tb (.tuple es)) (hz : ds.length + es.length ≤ 16777216) : CD K σ H0 (tOp (rCatA K) ta tb) (.tuple (ds ++ es)) := fun H Q k0 h =>
  a H _ k0 fun H1 v k1 hv => b H1 _ (k0.trans k1) fun H2 u k2 hu => r_catA (hv.kp k2) hu hz fun H3 w k3 hw => h _ _ ((k1.trans k2).trans k3) hw
end
theorem Dt.ne_none {K : PySem.W.Frag} {H : Hp} {v : V} {d : PyData} (h : Dt K H v d) (n : d ≠ .none) : v ≠ .non := by
  intro e
  subst e
  cases h
  exact n rfl
theorem perr_none {d : PyData} (h : perr d = .none) : ∃ b : List Sm, d = .tuple (Sm.ds b) ∧ (∀ s ∈ b, Sm.vd 3 s) ∧ Sm.sizes b ≤ 24 ∧ Sm.cnts "weight" b ≤ 30 ∧ Sm.cnts "rest" b ≤ 2 ∧ Sm.cnts "less" b ≤ 2 := by
  cases d with
  | tuple ds =>
    rw [perr] at h
    cases ho : ordErr ds with
    | some x =>
      obtain ⟨p, x⟩ := x
      rw [ho] at h
      cases h
    | none =>
      rw [ho] at h
      have h : lim (treeOf ds) = .none := h
      obtain ⟨e, hv⟩ := treeOf_spec ho
      refine ⟨treeOf ds, by rw [← e], hv, ?_⟩
      unfold lim errD at h
      split at h
      · cases h
      split at h
      · cases h
      split at h
      · cases h
      split at h
      · cases h
      · omega
  | _ => cases h
end Aw

/-! makers of programs within all bounds: promises -/
namespace Aw
open PySem PySem.Spec L2

/-! ### one of a written list -/
theorem one_disp {K : PySem.W.Frag} {H : Hp} {Q : VK} {E : XK} {d c : Addr} {n : Int} {xs : List V} (D : Deck H d c n) (hn : n < 10 ^ 12) (h1 : 1 ≤ xs.length) (h2 : xs.length ≤ 1000)
    (k : ∀ (H' : Hp) (x : V), x ∈ xs → Deck H' d c (n + 1) → Kp [d, c] H H' → Q x H') : xs.length ≤ sizeLine ∧ ∀ p, H p = none → spOne K [.ref d, .ref p] (upd H p (.lst xs)) Q E := by
  refine ⟨by rw [sizeLine_eq]; omega, fun p hp => ?_⟩
  have k1 : Kp [] H (upd H p (.lst xs)) := Kp.nil.new hp
  have f := D.fresh hp
  refine spOne.list (D.kp k1 (by simp) (by simp)) hn (SqL.of upd_same) f.1 f.2 h1 (by omega) fun H' i x hx D' k' => ?_
  exact k H' x (List.mem_of_getElem? hx) D' (((Kp.refl D.ls).new hp).trans k')

/-! ### names -/
structure NmV (H : Hp) (a : Addr) (xs : List Str) : Prop where
  h : H a = some (.lst (xs.map V.str))
  len : xs.length = 4
  ok : ∀ x ∈ xs, isNameS x = true
theorem NmV.kp {M : List Addr} {H H1 : Hp} {a : Addr} {xs : List Str} (h : NmV H a xs) (k : Kp M H H1) (n : a ∉ M) : NmV H1 a xs := ⟨k.get h.h n, h.len, h.ok⟩
theorem NmV.item {H : Hp} {a : Addr} {xs : List Str} (h : NmV H a xs) {i : Nat} {x : V} (e : (xs.map V.str)[i]? = some x) : ∃ z : Str, x = .str z ∧ isNameS z = true := by
  rw [List.getElem?_map] at e
  obtain ⟨z, hz, rfl⟩ := Option.map_eq_some_iff.mp e
  exact ⟨z, rfl, h.ok z (List.mem_of_getElem? hz)⟩
theorem NmV.one {K : PySem.W.Frag} {H : Hp} {Q : VK} {E : XK} {d c a : Addr} {n : Int} {xs : List Str} (h : NmV H a xs) (D : Deck H d c n) (hn : n < 10 ^ 12) (h1 : a ≠ d) (h2 : a ≠ c)
    (k : ∀ (H' : Hp) (z : Str), isNameS z = true → Deck H' d c (n + 1) → Kp [d, c] H H' → Q (.str z) H') : spOne K [.ref d, .ref a] H Q E := by
  refine spOne.list D hn (SqL.of h.h) h1 h2 (by rw [List.length_map, h.len]; omega) (by rw [List.length_map, h.len]; omega) fun H' i x hx D' k' => ?_
  obtain ⟨z, rfl, hz⟩ := h.item hx
  exact k H' z hz D' k'
def spNmV : Sp := fun vs H Q _ => ∃ (d c : Addr) (n : Int), vs = [.ref d] ∧ Deck H d c n ∧ n + 30 < 10 ^ 12 ∧
  ∀ (H' : Hp) (p : Addr) (xs : List Str) (n' : Int), H p = none → Deck H' d c n' → n ≤ n' → n' ≤ n + 30 → Kp [d, c] H H' → NmV H' p xs → Q (.ref p) H'
/-- [one(deck, text) for k in range(u)] -/
theorem lc_signs {K : PySem.W.Frag} {σ : L2.St} {ws : List Nat} {j it : Nat} {H : Hp} {Q : VK} {E : XK} {d c : Addr} {n u : Int} {text : Str} (D : Deck H d c n) (hn : n + u < 10 ^ 12) (u0 : 0 ≤ u) (u1 : u ≤ 100)
    (e0 : ∀ v, ((wipe σ ws).set j (some v))[0]? = some (some (.ref d))) (e1 : ∀ v, ((wipe σ ws).set j (some v))[it]? = some (some (.str text))) (hw : ∀ v, wipe ((wipe σ ws).set j (some v)) ws = wipe σ ws)
    (ht : 1 ≤ text.length) (ht2 : text.length ≤ 1000)
    (k : ∀ (H' : Hp) (p : Addr) (ys : List Str), H p = none → H' p = some (.lst (ys.map V.str)) → ys.length = u.toNat → (∀ y ∈ ys, ∃ c ∈ text.cps.toList, y = ⟨#[c]⟩) → Deck H' d c (n + u) → Kp [d, c] H H' → Q (.ref p) H') :
    LcR (gName j) tYes (tCall (spOne K) [] E (tCons (tVar 0) (tCons (tVar it) tNil))) ws σ Q [.int u] H := by
  refine r_LcR (by omega) (by omega) fun p hp => ?_
  have f := D.fresh hp
  refine ⟨fun i H' => ∃ ys : List Str, H' p = some (.lst (ys.map V.str)) ∧ ys.length = i ∧ (∀ y ∈ ys, ∃ c ∈ text.cps.toList, y = ⟨#[c]⟩) ∧ Deck H' d c (n + i) ∧ Kp [d, c] H H',
    ⟨[], upd_same, rfl, (fun _ h => (nomatch h)), by have := D.kp (Kp.nil.new (o := .lst []) hp) (by simp) (by simp); simpa using this, (Kp.refl D.ls).new hp⟩, ?_, ?_⟩
  · rintro i H1 hi ⟨ys, y1, y2, y3, D1, k1⟩
    refine r_name (r_LcTurn (hw _) (r_yes (ifT (r_call (r_cons (r_var (e0 _) (r_cons (r_var (e1 _) (r_nil ?_)))))))))
    refine spOne.text D1 (by omega) ht ht2 fun H2 z hz D2 k2 => ?_
    have y4 := k2.get y1 (by simp [f.1, f.2])
    refine r_LcEnd y4 (by rw [List.length_map, sizeLine_eq]; omega) ⟨ys ++ [⟨#[z]⟩], ?_, by rw [List.length_append, y2]; rfl, ?_, ?_, (k1.trans k2).own hp⟩
    · rw [upd_same, List.map_append]
      rfl
    · intro y hy
      rcases List.mem_append.mp hy with hy | hy
      · exact y3 y hy
      · exact ⟨z, hz, List.mem_singleton.mp hy⟩
    · have e : n + ((i + 1 : Nat) : Int) = n + (i : Int) + 1 := by omega
      rw [e]
      exact D2.kp (kpW (o := .lst (ys.map V.str ++ [.str ⟨#[z]⟩])) y4) (by simp [Ne.symm f.1]) (by simp [Ne.symm f.2])
  · rintro H1 ⟨ys, y1, y2, y3, D1, k1⟩
    have e : n + ((u.toNat : Nat) : Int) = n + u := by omega
    rw [e] at D1
    exact k H1 p ys hp y1 y2 y3 D1 k1
/-- signs of a text -/
def SgOf (L : List Nat) (x : Str) (n : Nat) : Prop := x.cps.toList.length = n ∧ ∀ c ∈ x.cps.toList, c ∈ L
theorem joinL_signs : ∀ ys : List Str, ∀ L : List Nat, (∀ y ∈ ys, ∃ c ∈ L, y = ⟨#[c]⟩) → SgOf L (Txt.join "" ys) ys.length := by
  intro ys L h
  have key : ∀ zs : List (List Nat), (∀ z ∈ zs, ∃ c ∈ L, z = [c]) → (TL.joinL [] zs).length = zs.length ∧ ∀ c ∈ TL.joinL [] zs, c ∈ L := by
    intro zs
    induction zs with
    | nil => intro _; exact ⟨rfl, fun c hc => nomatch hc⟩
    | cons z r ih =>
      intro hz
      obtain ⟨c, hc, rfl⟩ := hz z (List.mem_cons_self ..)
      obtain ⟨i1, i2⟩ := ih fun z h => hz z (List.mem_cons_of_mem _ h)
      cases r with
      | nil =>
        rw [TL.joinL]
        exact ⟨rfl, fun x hx => by rw [List.mem_singleton.mp hx]; exact hc⟩
      | cons q r =>
        rw [TL.joinL]
        refine ⟨by rw [List.length_append, List.length_append, i1]; simp; omega, fun x hx => ?_⟩
        rcases List.mem_append.mp hx with hx | hx
        · rw [List.mem_singleton.mp hx]; exact hc
        rcases List.mem_append.mp hx with hx | hx
        · cases hx
        · exact i2 x hx
  have e : (Str.join "" ys).cps.toList = TL.joinL ("" : Str).cps.toList (ys.map fun y => y.cps.toList) := TL.tl_join "" ys
  have e0 : ("" : Str).cps.toList = [] := by decide +kernel
  unfold SgOf
  rw [TL.join_eq, e, e0]
  have q := key (ys.map fun y => y.cps.toList) fun z hz => by
    obtain ⟨y, hy, rfl⟩ := List.mem_map.mp hz
    obtain ⟨c, hc, rfl⟩ := h y hy
    exact ⟨c, hc, rfl⟩
  rw [List.length_map] at q
  exact q
theorem sum_one {L : List Nat} : ∀ {ys : List Str}, (∀ y ∈ ys, ∃ c ∈ L, y = ⟨#[c]⟩) → (ys.map (·.length)).sum = ys.length
  | [], _ => rfl
  | y :: r, h => by
    obtain ⟨c, _, rfl⟩ := h y (List.mem_cons_self ..)
    rw [List.map_cons, List.sum_cons, sum_one fun z hz => h z (List.mem_cons_of_mem _ hz), List.length_cons]
    show 1 + r.length = r.length + 1
    omega
def LTT : Str := "abcdefgijkmoquvwxyz"
def QXZ : Str := "qxz"
theorem ltt_let : ∀ c ∈ LTT.cps.toList, isLet c = true ∧ isSgn c = true := by decide +kernel
theorem sgn_sgn : ∀ c ∈ (LTT ++ ("0123456789" : Str)).cps.toList, isSgn c = true := by decide +kernel
theorem qxz_ok : ∀ c ∈ QXZ.cps.toList, isLet c = true ∧ isSgn c = true ∧ ∀ x ∈ KEPTS, c ∉ x.cps.toList := by decide +kernel
theorem name_made {l r : Str} {m n : Nat} {c : Nat} (hl : SgOf LTT.cps.toList l m) (hr : SgOf (LTT ++ ("0123456789" : Str)).cps.toList r n) (hc : c ∈ QXZ.cps.toList) (h : m + n ≤ 7) :
    isNameS (l ++ ⟨#[c]⟩ ++ r) = true := by
  obtain ⟨c1, c2, c3⟩ := qxz_ok c hc
  have e : (l ++ ⟨#[c]⟩ ++ r).cps.toList = l.cps.toList ++ c :: r.cps.toList := by
    rw [Str.cps_append, Str.cps_append, Array.toList_append, Array.toList_append, List.append_assoc]
    rfl
  have len : (l ++ ⟨#[c]⟩ ++ r).length = m + 1 + n := by
    have q : (l ++ ⟨#[c]⟩ ++ r).cps.toList.length = (l ++ ⟨#[c]⟩ ++ r).length := by rw [Array.length_toList]; rfl
    rw [← q, e, List.length_append, List.length_cons, hl.1, hr.1]
    omega
  unfold isNameS
  rw [len, e]
  have h1 : isLet ((l.cps.toList ++ c :: r.cps.toList).headD 0) = true := by
    cases hL : l.cps.toList with
    | nil => exact c1
    | cons x xs => exact (ltt_let x (hl.2 x (by rw [hL]; exact List.mem_cons_self ..))).1
  have h2 : (l.cps.toList ++ c :: r.cps.toList).all isSgn = true := by
    rw [List.all_eq_true]
    intro x hx
    rcases List.mem_append.mp hx with hx | hx
    · exact (ltt_let x (hl.2 x hx)).2
    rcases List.mem_cons.mp hx with rfl | hx
    · exact c2
    · exact sgn_sgn x (hr.2 x hx)
  have h3 : KEPTS.contains (l ++ ⟨#[c]⟩ ++ r) = false := by
    cases hk : KEPTS.contains (l ++ ⟨#[c]⟩ ++ r) with
    | false => rfl
    | true =>
      exfalso
      refine c3 _ (List.contains_iff_mem.mp hk) ?_
      rw [e]
      exact List.mem_append_right _ (List.mem_cons_self ..)
  rw [h1, h2, h3, decide_eq_true (show 1 ≤ m + 1 + n by omega), decide_eq_true (show m + 1 + n ≤ 8 by omega)]
  rfl

/-! ### expressions -/
theorem Ex.vd.succ : ∀ {n : Nat} {e : Ex}, e.vd n → e.vd (n + 1)
  | 0, _, h => h.elim
  | _ + 1, .int _, h => h
  | _ + 1, .name _, h => h
  | _ + 1, .bin _ _ _, h => ⟨h.1.succ, h.2.imp id fun q => ⟨q.1, q.2.succ⟩⟩
theorem Ex.vd.mono {m n : Nat} {e : Ex} (h : e.vd m) (q : m ≤ n) : e.vd n := by
  induction q with
  | refl => exact h
  | step _ ih => exact ih.succ
theorem Ex.vd_int {m : Nat} {i : Int} (h : 1 ≤ m) (h1 : -99 ≤ i) (h2 : i ≤ 99) : (Ex.int i).vd m := by
  cases m with
  | zero => omega
  | succ m => exact ⟨h1, h2⟩
theorem Ex.vd_name {m : Nat} {x : Str} (h : 1 ≤ m) (h1 : isNameS x = true) : (Ex.name x).vd m := by
  cases m with
  | zero => omega
  | succ m => exact h1
theorem Ex.vd_times {m : Nat} {i : Int} {e : Ex} (h1 : -9 ≤ i) (h2 : i ≤ 9) (h : e.vd m) : (Ex.bin "times" (.int i) e).vd (m + 1) := ⟨h, .inl ⟨rfl, i, rfl, h1, h2⟩⟩
def spExV (K : PySem.W.Frag) (m : Nat) : Sp := fun vs H Q _ => ∃ (d c nm : Addr) (n : Int) (xs : List Str), vs = [.ref d, .ref nm, .int m] ∧ Deck H d c n ∧ n + eDraws m < 10 ^ 12 ∧ NmV H nm xs ∧ nm ≠ d ∧ nm ≠ c ∧
  ∀ (H' : Hp) (v : V) (e : Ex) (n' : Int), Deck H' d c n' → n ≤ n' → n' ≤ n + eDraws m → Kp [d, c] H H' → Dt K H' v e.d → e.vd m → Q v H'
def spExVA (K : PySem.W.Frag) : Sp := fun vs H Q E => ∃ i : { m : Nat // 1 ≤ m ∧ m ≤ 3 }, spExV K i.1 vs H Q E
theorem spExVA.use {K : PySem.W.Frag} {H : Hp} {Q : VK} {E : XK} {d c nm : Addr} {n m : Int} {xs : List Str} (j : Nat) (D : Deck H d c n) (hn : n + 21 < 10 ^ 12) (N : NmV H nm xs) (n1 : nm ≠ d) (n2 : nm ≠ c) (hj : m = j) (m1 : 1 ≤ j) (m2 : j ≤ 3)
    (k : ∀ (H' : Hp) (v : V) (e : Ex) (n' : Int), Deck H' d c n' → n ≤ n' → n' ≤ n + 21 → Kp [d, c] H H' → Dt K H' v e.d → e.vd j → Q v H') : spExVA K [.ref d, .ref nm, .int m] H Q E := by
  have hE : eDraws j ≤ 21 := eDraws_le m2
  refine ⟨⟨j, m1, m2⟩, d, c, nm, n, xs, by rw [hj], D, by show n + ((eDraws j : Nat) : Int) < _; omega, N, n1, n2, fun H' v e n' D' q1 q2 k' hv he => ?_⟩
  have q2 : n' ≤ n + ((eDraws j : Nat) : Int) := q2
  exact k H' v e n' D' q1 (by omega) k' hv he
/-! ### tests, statements, blocks -/
theorem Ts.vd.succ : ∀ {n : Nat} {t : Ts}, t.vd n → t.vd (n + 1)
  | n + 1, .not t, h => Ts.vd.succ (n := n) (t := t) h
  | n, .given x, h => by cases n <;> exact h
  | n, .rest e b r, h => by cases n <;> exact h
  | n, .less a b, h => by cases n <;> exact h
theorem Ts.vd.mono {m n : Nat} {t : Ts} (h : t.vd m) (q : m ≤ n) : t.vd n := by
  induction q with
  | refl => exact h
  | step _ ih => exact ih.succ
/-- what a test counts -/
def Ts.one (so : Str) (t : Ts) : Int := if t.bare.word = so then 1 else 0
theorem Sm.cnt_if (t : Ts) (y z : List Sm) (so : Str) (h : so ≠ "weight") : Sm.cnt so (.ifs t y z) = t.one so + (Sm.cnts so y + Sm.cnts so z) := by
  rw [Sm.cnt, Sm.own, if_neg h]
  rfl
theorem Sm.cnt_w (s : Sm) : s.own "weight" = 1 := if_pos rfl
theorem Sm.cnt_pl (p : Pl) (so : Str) : Sm.cnt so (.pl p) = if so = "weight" then 1 else 0 := by
  rw [Sm.cnt]
  rfl
theorem Sm.cnt_rep (k : Int) (b : List Sm) (so : Str) : Sm.cnt so (.rep k b) = (if so = "weight" then 1 else 0) + Sm.cnts so b * k := by
  rw [Sm.cnt]
  rfl
theorem Sm.cnts_one (so : Str) (s : Sm) : Sm.cnts so [s] = Sm.cnt so s := by rw [Sm.cnts, Sm.cnts, Int.add_zero]
theorem Sm.cnts_app (so : Str) : ∀ a b : List Sm, Sm.cnts so (a ++ b) = Sm.cnts so a + Sm.cnts so b
  | [], b => by rw [List.nil_append, Sm.cnts, Int.zero_add]
  | u :: r, b => by rw [List.cons_append, Sm.cnts, Sm.cnts, Sm.cnts_app so r b, Int.add_assoc]
/-- a test is made, as far as rests and comparings are left -/
def spTsV (K : PySem.W.Frag) : Sp := fun vs H Q _ => ∃ (d c nm l : Addr) (n ti a b r s : Int) (xs : List Str), vs = [.ref d, .ref nm, .ref l, .int ti] ∧ Deck H d c n ∧ n + 60 < 10 ^ 12 ∧ NmV H nm xs ∧ nm ≠ d ∧ nm ≠ c ∧ nm ≠ l ∧ l ≠ d ∧ l ≠ c ∧
  Lft H l a b r s ∧ 0 ≤ r ∧ 0 ≤ s ∧ 0 ≤ ti ∧
  ∀ (H' : Hp) (v : V) (t : Ts) (n' r' s' : Int), Deck H' d c n' → n ≤ n' → n' ≤ n + 60 → Lft H' l a b r' s' → 0 ≤ r' → 0 ≤ s' → r' = r - ti * t.one "rest" → s' = s - ti * t.one "less" → Kp [d, c, l] H H' → Dt K H' v t.d → t.vd 2 → Q v H'
def spPlV (K : PySem.W.Frag) : Sp := fun vs H Q _ => ∃ (d c nm : Addr) (n : Int) (xs : List Str), vs = [.ref d, .ref nm] ∧ Deck H d c n ∧ n + 30 < 10 ^ 12 ∧ NmV H nm xs ∧ nm ≠ d ∧ nm ≠ c ∧
  ∀ (H' : Hp) (v : V) (p : Pl) (n' : Int), Deck H' d c n' → n ≤ n' → n' ≤ n + 30 → Kp [d, c] H H' → Dt K H' v p.d → p.vd → Q v H'
/-- what is left behind rows that count so many times -/
structure Took (ti a b r s a' b' r' s' : Int) (x : List Sm) : Prop where
  a : a' = a - Sm.sizes x
  b : b' = b - ti * Sm.cnts "weight" x
  r : r' = r - ti * Sm.cnts "rest" x
  s : s' = s - ti * Sm.cnts "less" x
theorem Took.nil {ti a b r s : Int} : Took ti a b r s a b r s [] := by
  constructor <;> simp [Sm.sizes, Sm.cnts]
theorem Took.app {ti a b r s a1 b1 r1 s1 a2 b2 r2 s2 : Int} {x y : List Sm} (h : Took ti a b r s a1 b1 r1 s1 x) (g : Took ti a1 b1 r1 s1 a2 b2 r2 s2 y) : Took ti a b r s a2 b2 r2 s2 (x ++ y) := by
  have h1 := h.a; have h2 := h.b; have h3 := h.r; have h4 := h.s
  have g1 := g.a; have g2 := g.b; have g3 := g.r; have g4 := g.s
  constructor
  · rw [Sm.sizes_app]; omega
  · rw [Sm.cnts_app, Int.mul_add]; omega
  · rw [Sm.cnts_app, Int.mul_add]; omega
  · rw [Sm.cnts_app, Int.mul_add]; omega
/-- the data of a row that was made, or of none -/
def rowD : List Sm → PyData
  | [s] => s.d
  | _ => .tuple []
def spRowV (K : PySem.W.Frag) (e : Nat) : Sp := fun vs H Q _ => ∃ (d c nm l : Addr) (n ti dep a b r s : Int) (xs : List Str), vs = [.ref d, .ref nm, .ref l, .int ti, .int dep] ∧ Deck H d c n ∧ n + 150 * a < 10 ^ 12 ∧
  NmV H nm xs ∧ nm ≠ d ∧ nm ≠ c ∧ nm ≠ l ∧ l ≠ d ∧ l ≠ c ∧ Lft H l a b r s ∧ 0 ≤ a ∧ 0 ≤ b ∧ 0 ≤ r ∧ 0 ≤ s ∧ a ≤ 1000 ∧ 0 ≤ ti ∧ dep + e = 3 ∧
  ∀ (H' : Hp) (v : V) (x : List Sm) (n' a' b' r' s' : Int), Deck H' d c n' → n ≤ n' → n' ≤ n + 150 * (a - a') → Lft H' l a' b' r' s' → 0 ≤ a' → 0 ≤ b' → 0 ≤ r' → 0 ≤ s' → x.length ≤ 1 → Took ti a b r s a' b' r' s' x → Kp [d, c, l] H H' →
    Dt K H' v (rowD x) → (∀ s ∈ x, Sm.vd e s) → Q v H'
/-- a block at a depth; e + dep = 4 -/
def spBlV (K : PySem.W.Frag) (e : Nat) : Sp := fun vs H Q _ => ∃ (d c nm l : Addr) (n ti dep a b r s : Int) (xs : List Str), vs = [.ref d, .ref nm, .ref l, .int ti, .int dep] ∧ Deck H d c n ∧ n + 1 + 150 * a < 10 ^ 12 ∧
  NmV H nm xs ∧ nm ≠ d ∧ nm ≠ c ∧ nm ≠ l ∧ l ≠ d ∧ l ≠ c ∧ Lft H l a b r s ∧ 0 ≤ a ∧ 0 ≤ b ∧ 0 ≤ r ∧ 0 ≤ s ∧ a ≤ 1000 ∧ 0 ≤ ti ∧ dep + e = 4 ∧
  ∀ (H' : Hp) (v : V) (x : List Sm) (n' a' b' r' s' : Int), Deck H' d c n' → n ≤ n' → n' ≤ n + 1 + 150 * (a - a') → Lft H' l a' b' r' s' → 0 ≤ a' → 0 ≤ b' → 0 ≤ r' → 0 ≤ s' → Took ti a b r s a' b' r' s' x → Kp [d, c, l] H H' →
    Dt K H' v (.tuple (Sm.ds x)) → VdB e x → Q v H'
/-- a program within all bounds -/
structure PgV (b : List Sm) : Prop where
  vd : ∀ s ∈ b, Sm.vd 3 s
  size : Sm.sizes b ≤ 24
  weight : Sm.cnts "weight" b ≤ 30
  rest : Sm.cnts "rest" b ≤ 2
  less : Sm.cnts "less" b ≤ 2
def spPgV (K : PySem.W.Frag) : Sp := fun vs H Q _ => ∃ (d c nm : Addr) (n : Int) (xs : List Str), vs = [.ref d, .ref nm] ∧ Deck H d c n ∧ n + 5000 < 10 ^ 12 ∧ NmV H nm xs ∧ nm ≠ d ∧ nm ≠ c ∧
  ∀ (H' : Hp) (v : V) (x : List Sm) (n' : Int), Deck H' d c n' → n ≤ n' → n' ≤ n + 5000 → Kp [d, c] H H' → Dt K H' v (.tuple (Sm.ds x)) → PgV x → Q v H'
theorem Kp.out {H H1 H2 : Hp} {d c l : Addr} (k1 : Kp [d, c] H H1) (hl : H l = none) (k2 : Kp [d, c, l] H1 H2) : Kp [d, c] H H2 := fun z o e => ⟨(k1 z o e).1, fun nm' => by
  refine (k2 z o ((k1 z o e).2 nm')).2 fun hz => ?_
  simp only [List.mem_cons, List.not_mem_nil, or_false, not_or] at hz nm'
  rcases hz with rfl | rfl | rfl
  · exact nm'.1 rfl
  · exact nm'.2 rfl
  · rw [hl] at e
    cases e⟩
/-! ### a tree is told by its data -/
theorem Ex.d_inj : ∀ {a b : Ex}, a.d = b.d → a = b
  | .int i, .int j, h => by cases h; rfl
  | .name x, .name y, h => by cases h; rfl
  | .bin o a b, .bin o' a' b', h => by
    rw [Ex.d, Ex.d] at h
    simp only [PyData.tuple.injEq, List.cons.injEq, PyData.str.injEq, and_true] at h
    rw [h.1, Ex.d_inj h.2.1, Ex.d_inj h.2.2]
  | .int _, .name _, h => by cases h
  | .int _, .bin _ _ _, h => by cases h
  | .name _, .int _, h => by cases h
  | .name _, .bin _ _ _, h => by cases h
  | .bin _ _ _, .int _, h => by cases h
  | .bin _ _ _, .name _, h => by cases h
theorem tup_head {a b : Str} {r s : List PyData} (h : PyData.tuple (.str a :: r) = .tuple (.str b :: s)) : a = b ∧ r = s := by
  simp only [PyData.tuple.injEq, List.cons.injEq, PyData.str.injEq] at h
  exact h
theorem Ts.d_inj : ∀ {a b : Ts}, a.d = b.d → a = b
  | .not t, .not u, h => by
    have q := (tup_head h).2
    simp only [List.cons.injEq, and_true] at q
    rw [Ts.d_inj q]
  | .given x, .given y, h => by
    have q := (tup_head h).2
    simp only [List.cons.injEq, PyData.str.injEq, and_true] at q
    rw [q]
  | .rest e b r, .rest e' b' r', h => by
    have q := (tup_head h).2
    simp only [List.cons.injEq, PyData.int.injEq, and_true] at q
    rw [Ex.d_inj q.1, q.2.1, q.2.2]
  | .less a b, .less a' b', h => by
    have q := (tup_head h).2
    simp only [List.cons.injEq, and_true] at q
    rw [Ex.d_inj q.1, Ex.d_inj q.2]
  | .not _, .given _, h => absurd (tup_head h).1 (by decide +kernel)
  | .not _, .rest _ _ _, h => absurd (tup_head h).1 (by decide +kernel)
  | .not _, .less _ _, h => absurd (tup_head h).1 (by decide +kernel)
  | .given _, .not _, h => absurd (tup_head h).1 (by decide +kernel)
  | .given _, .rest _ _ _, h => absurd (tup_head h).1 (by decide +kernel)
  | .given _, .less _ _, h => absurd (tup_head h).1 (by decide +kernel)
  | .rest _ _ _, .not _, h => absurd (tup_head h).1 (by decide +kernel)
  | .rest _ _ _, .given _, h => absurd (tup_head h).1 (by decide +kernel)
  | .rest _ _ _, .less _ _, h => absurd (tup_head h).1 (by decide +kernel)
  | .less _ _, .not _, h => absurd (tup_head h).1 (by decide +kernel)
  | .less _ _, .given _, h => absurd (tup_head h).1 (by decide +kernel)
  | .less _ _, .rest _ _ _, h => absurd (tup_head h).1 (by decide +kernel)
theorem Pl.d_inj {a b : Pl} (h : a.d = b.d) : a = b := by
  cases a <;> cases b <;> first
    | exact absurd (tup_head h).1 (by decide +kernel)
    | (have q := (tup_head h).2
       simp only [List.cons.injEq, PyData.str.injEq, and_true] at q
       first
         | rw [q]
         | rw [Ex.d_inj q]
         | rw [q.1, Ex.d_inj q.2])
mutual
theorem Sm.d_inj : ∀ {a b : Sm}, a.d = b.d → a = b
  | .pl p, .pl q, h => by rw [Sm.d, Sm.d] at h; rw [Pl.d_inj h]
  | .ifs t y z, .ifs t' y' z', h => by
    rw [Sm.d, Sm.d] at h
    have q := (tup_head h).2
    simp only [List.cons.injEq, PyData.tuple.injEq, and_true] at q
    rw [Ts.d_inj q.1, Sm.ds_inj q.2.1, Sm.ds_inj q.2.2]
  | .rep k b, .rep k' b', h => by
    rw [Sm.d, Sm.d] at h
    have q := (tup_head h).2
    simp only [List.cons.injEq, PyData.tuple.injEq, PyData.int.injEq, and_true] at q
    rw [q.1, Sm.ds_inj q.2]
  | .pl p, .ifs t y z, h => by
    rw [Sm.d, Sm.d] at h
    obtain ⟨u, r, e, n1, n2⟩ := Pl.hd p
    rw [e] at h
    exact absurd (tup_head h).1 n1
  | .pl p, .rep k b, h => by
    rw [Sm.d, Sm.d] at h
    obtain ⟨u, r, e, n1, n2⟩ := Pl.hd p
    rw [e] at h
    exact absurd (tup_head h).1 n2
  | .ifs t y z, .pl p, h => by
    rw [Sm.d, Sm.d] at h
    obtain ⟨u, r, e, n1, n2⟩ := Pl.hd p
    rw [e] at h
    exact absurd (tup_head h).1.symm n1
  | .rep k b, .pl p, h => by
    rw [Sm.d, Sm.d] at h
    obtain ⟨u, r, e, n1, n2⟩ := Pl.hd p
    rw [e] at h
    exact absurd (tup_head h).1.symm n2
  | .ifs t y z, .rep k b, h => by
    rw [Sm.d, Sm.d] at h
    exact absurd (tup_head h).1 (by decide +kernel)
  | .rep k b, .ifs t y z, h => by
    rw [Sm.d, Sm.d] at h
    exact absurd (tup_head h).1 (by decide +kernel)
theorem Sm.ds_inj : ∀ {a b : List Sm}, Sm.ds a = Sm.ds b → a = b
  | [], [], _ => rfl
  | s :: r, s' :: r', h => by
    rw [Sm.ds, Sm.ds] at h
    simp only [List.cons.injEq] at h
    rw [Sm.d_inj h.1, Sm.ds_inj h.2]
  | [], _ :: _, h => by rw [Sm.ds, Sm.ds] at h; cases h
  | _ :: _, [], h => by rw [Sm.ds, Sm.ds] at h; cases h
end
theorem vd_ordErr {b : List Sm} (h : ∀ s ∈ b, Sm.vd 3 s) : ordErr (Sm.ds b) = none := by
  refine ordLoop_vd _ _ 0 (by rw [stSize_map]; exact Nat.le_refl _) fun p hp => ?_
  obtain ⟨e, he, rfl⟩ := List.mem_map.mp hp
  rw [Sm.ds_map] at he
  obtain ⟨s, hs, rfl⟩ := List.mem_map.mp he
  exact ⟨Nat.zero_le _, s, rfl, h s hs⟩
theorem perr_vd {b : List Sm} (h : ∀ s ∈ b, Sm.vd 3 s) : perr (.tuple (Sm.ds b)) = lim b := by
  have ho := vd_ordErr h
  rw [perr, ho]
  show lim (treeOf (Sm.ds b)) = _
  rw [← Sm.ds_inj (treeOf_spec ho).1]
theorem PgV.perr {b : List Sm} (h : PgV b) : perr (.tuple (Sm.ds b)) = .none := by
  have := h.size; have := h.weight; have := h.rest; have := h.less
  rw [perr_vd h.vd, lim, if_neg (by omega), if_neg (by omega), if_neg (by omega), if_neg (by omega)]
end Aw

/-! odd data: written, shown, cut -/
namespace Aw
open PySem PySem.Spec L2

/-! ### data that may be shown: small ints, texts -/
mutual
def shb : PyData → Bool
  | .none => true
  | .bool _ => true
  | .int i => decide (i.natAbs.log2 < 200)
  | .str x => PyData.strOk x
  | .list ds => shbs ds
  | .tuple ds => shbs ds
  | .dict [] => true
  | .dict [(.str x, .int i)] => PyData.strOk x && decide (x.length ≤ 8) && decide (i.natAbs.log2 < 200)
  | .dict _ => false
def shbs : List PyData → Bool
  | [] => true
  | d :: r => shb d && shbs r
end
theorem shbs_app : ∀ a b : List PyData, shbs (a ++ b) = (shbs a && shbs b)
  | [], b => by rw [List.nil_append, shbs, Bool.true_and]
  | d :: r, b => by rw [List.cons_append, shbs, shbs, shbs_app r b, Bool.and_assoc]
theorem shbs_mem {d : PyData} : ∀ {b : List PyData}, shbs b = true → d ∈ b → shb d = true
  | _ :: r, h, .head _ => by rw [shbs, Bool.and_eq_true] at h; exact h.1
  | _ :: r, h, .tail _ m => by rw [shbs, Bool.and_eq_true] at h; exact shbs_mem h.2 m
theorem shbs_all : ∀ {b : List PyData}, (∀ d ∈ b, shb d = true) → shbs b = true
  | [], _ => by rw [shbs]
  | d :: r, h => by rw [shbs, h d (List.mem_cons_self ..), shbs_all fun e he => h e (List.mem_cons_of_mem _ he)]; rfl
theorem int_len {i : Int} (h : i.natAbs.log2 < 200) : (Str.ofString (toString i)).length ≤ 201 := by
  have q := int_text_length_le (k := 200) (by decide) h
  rw [ofString_length]
  omega
mutual
theorem shb_ok : ∀ d : PyData, shb d = true → d.showable = true ∧ d.shown.length + 2 ≤ 300 * dsz d
  | .none, _ => ⟨by rw [PyData.showable], by rw [PyData.shown, dsz]; decide +kernel⟩
  | .bool b, _ => ⟨by rw [PyData.showable], by rw [PyData.shown, dsz]; cases b <;> decide +kernel⟩
  | .int i, h => by
    rw [shb, decide_eq_true_eq] at h
    refine ⟨by rw [PyData.showable]; exact decide_eq_true (by omega), ?_⟩
    rw [PyData.shown, dsz]
    have := int_len h
    show (Str.ofString (toString i)).length + 2 ≤ 300 * 1
    omega
  | .str x, h => by
    rw [shb] at h
    refine ⟨by rw [PyData.showable], ?_⟩
    rw [PyData.shown, dsz]
    have := (Sok.repr (x := x) (n := x.length) ⟨h, Nat.le_refl _⟩)
    omega
  | .list ds, h => by
    rw [shb] at h
    obtain ⟨a, b, c⟩ := shbs_ok ds h
    refine ⟨by rw [PyData.showable]; exact a, ?_⟩
    rw [PyData.shown, dsz]
    have q := listText_len_le (PyData.shownAll ds)
    omega
  | .tuple ds, h => by
    rw [shb] at h
    obtain ⟨a, b, c⟩ := shbs_ok ds h
    refine ⟨by rw [PyData.showable]; exact a, ?_⟩
    rw [PyData.shown, dsz]
    have q := tupleText_len_le (PyData.shownAll ds)
    omega
  | .dict [], _ => ⟨by rw [PyData.showable, PyData.showableKv], by rw [PyData.shown, PyData.shownKv, dsz]; decide +kernel⟩
  | .dict [(.str x, .int i)], h => by
    rw [shb, Bool.and_eq_true, Bool.and_eq_true, decide_eq_true_eq, decide_eq_true_eq] at h
    obtain ⟨⟨h1, h2⟩, h3⟩ := h
    refine ⟨by simp [PyData.showable, PyData.showableKv]; omega, ?_⟩
    rw [PyData.shown, dsz]
    have q := dictText_len_le (PyData.shownKv [(.str x, .int i)])
    have e : PyData.shownKv [(.str x, .int i)] = [reprText x ++ ": " ++ Str.ofString (toString i)] := by
      simp [PyData.shownKv, PyData.shown]
    rw [e] at q ⊢
    have r1 := (Sok.repr (x := x) (n := 8) ⟨h1, h2⟩)
    have r2 := int_len h3
    simp only [List.map_cons, List.map_nil, List.sum_cons, List.sum_nil, List.length_cons, List.length_nil, Str.length_append] at q
    have r3 : (": " : Str).length = 2 := by decide +kernel
    omega
  | .dict ((.none, _) :: _), h => by simp [shb] at h
  | .dict ((.bool _, _) :: _), h => by simp [shb] at h
  | .dict ((.int _, _) :: _), h => by simp [shb] at h
  | .dict ((.list _, _) :: _), h => by simp [shb] at h
  | .dict ((.tuple _, _) :: _), h => by simp [shb] at h
  | .dict ((.dict _, _) :: _), h => by simp [shb] at h
  | .dict ((.str _, .none) :: _), h => by simp [shb] at h
  | .dict ((.str _, .bool _) :: _), h => by simp [shb] at h
  | .dict ((.str _, .str _) :: _), h => by simp [shb] at h
  | .dict ((.str _, .list _) :: _), h => by simp [shb] at h
  | .dict ((.str _, .tuple _) :: _), h => by simp [shb] at h
  | .dict ((.str _, .dict _) :: _), h => by simp [shb] at h
  | .dict ((.str _, .int _) :: _ :: _), h => by simp [shb] at h
theorem shbs_ok : ∀ ds : List PyData, shbs ds = true → PyData.showableAll ds = true ∧ (PyData.shownAll ds).length = ds.length ∧ ((PyData.shownAll ds).map (·.length)).sum + 2 * (PyData.shownAll ds).length ≤ 300 * dszs ds
  | [], _ => ⟨by rw [PyData.showableAll], by rw [PyData.shownAll]; rfl, by rw [PyData.shownAll]; simp⟩
  | d :: r, h => by
    rw [shbs, Bool.and_eq_true] at h
    obtain ⟨a, b⟩ := shb_ok d h.1
    obtain ⟨a1, b1, c1⟩ := shbs_ok r h.2
    refine ⟨by rw [PyData.showableAll, a, a1]; rfl, by rw [PyData.shownAll, List.length_cons, List.length_cons, b1], ?_⟩
    rw [PyData.shownAll, List.map_cons, List.sum_cons, List.length_cons, dszs]
    omega
end
theorem depthAll_mem {d : PyData} : ∀ {b : List PyData}, d ∈ b → d.depth ≤ PyData.depthAll b
  | _ :: r, .head _ => by rw [PyData.depthAll]; omega
  | _ :: r, .tail _ m => by have := depthAll_mem m; rw [PyData.depthAll]; omega
theorem depthAll_le {k : Nat} : ∀ {b : List PyData}, (∀ d ∈ b, d.depth ≤ k) → PyData.depthAll b ≤ k
  | [], _ => by rw [PyData.depthAll]; omega
  | d :: r, h => by
    have := h d (List.mem_cons_self ..)
    have := depthAll_le fun e he => h e (List.mem_cons_of_mem _ he)
    rw [PyData.depthAll]
    omega
/-- data of a size, that may be shown, of a depth -/
structure Dok (d : PyData) (z k : Nat) : Prop where
  sz : dsz d ≤ z
  sh : shb d = true
  dp : d.depth ≤ k
theorem Dok.shw {d : PyData} {z k : Nat} (h : Dok d z k) : ShwD d k (300 * z) := by
  obtain ⟨a, b⟩ := shb_ok d h.sh
  have := h.sz
  exact ⟨a, h.dp, by omega⟩
theorem Dok.mono {d : PyData} {z k z' k' : Nat} (h : Dok d z k) (hz : z ≤ z') (hk : k ≤ k') : Dok d z' k' := ⟨Nat.le_trans h.sz hz, h.sh, Nat.le_trans h.dp hk⟩
theorem Dok.by {d : PyData} {z k : Nat} (h : (decide (dsz d ≤ z) && shb d && decide (d.depth ≤ k)) = true) : Dok d z k := by
  rw [Bool.and_eq_true, Bool.and_eq_true, decide_eq_true_eq, decide_eq_true_eq] at h
  exact ⟨h.1.1, h.1.2, h.2⟩

/-! ### written data with lists and dicts, none of them at M -/
def Oc (M : List Addr) (H : Hp) : Prop := ∀ a ∈ M, ∃ o, H a = some o
theorem Oc.new {M : List Addr} {H H1 : Hp} {p : Addr} (h : Oc M H) (k : Kp [] H H1) (hp : H1 p = none) : p ∉ M := fun m => by
  obtain ⟨o, e⟩ := h p m
  rw [k.get e (by simp)] at hp
  cases hp
def CW (M : List Addr) (K : PySem.W.Frag) (σ : L2.St) (H0 : Hp) (te : TE) (d : PyData) : Prop := ∀ (H : Hp) (Q : VK), Kp [] H0 H → (∀ H' v, Kp [] H H' → Dw M K H' v d → Q v H') → te σ H Q
def CWs (M : List Addr) (K : PySem.W.Frag) (σ : L2.St) (H0 : Hp) (ts : TA) (ds : List PyData) : Prop := ∀ (H : Hp) (R : List V → Hp → Prop), Kp [] H0 H → (∀ H' vs, Kp [] H H' → DwL M K H' vs ds → R vs H') → ts σ H R
section
variable {M : List Addr} {K : PySem.W.Frag} {σ : L2.St} {H0 : Hp} {te ta tb : TE} {ts : TA} {d : PyData} {ds es : List PyData}
theorem DwL.tup {H : Hp} {vs : List V} {a : Addr} (h : DwL M K H vs ds) (e : H a = some (.tup vs)) : Dw M K H (.ref a) (.tuple ds) := .tup (SqT.of e) h.len h.all
theorem DwL.lst {H : Hp} {vs : List V} {a : Addr} (h : DwL M K H vs ds) (e : H a = some (.lst vs)) (n : a ∉ M) : Dw M K H (.ref a) (.list ds) := .lst e n h.len h.all
theorem DwL.app {H : Hp} {vs us : List V} (h : DwL M K H vs ds) (g : DwL M K H us es) : DwL M K H (vs ++ us) (ds ++ es) := by
  refine ⟨by rw [List.length_append, List.length_append, h.len, g.len], fun i u e q q' => ?_⟩
  by_cases hi : i < vs.length
  · rw [List.getElem?_append_left hi] at q
    rw [List.getElem?_append_left (by rw [← h.len]; exact hi)] at q'
    exact h.all i u e q q'
  · rw [List.getElem?_append_right (by omega)] at q
    rw [List.getElem?_append_right (by rw [← h.len]; omega), ← h.len] at q'
    exact g.all _ u e q q'
theorem DwL.mem {H : Hp} {vs : List V} {x : V} (h : DwL M K H vs ds) (m : x ∈ vs) : ∃ d ∈ ds, Dw M K H x d := by
  obtain ⟨i, hi, rfl⟩ := List.mem_iff_getElem.mp m
  obtain ⟨d, e, q⟩ := h.get (List.getElem?_eq_getElem hi)
  exact ⟨d, List.mem_of_getElem? e, q⟩
theorem cw_str {x : Str} : CW M K σ H0 (tC (.str x)) (.str x) := fun H Q _ h => h H _ Kp.nil (.str x)
theorem cw_int {x : Int} : CW M K σ H0 (tC (.int x)) (.int x) := fun H Q _ h => h H _ Kp.nil (.int x)
theorem cw_bl {x : Bool} : CW M K σ H0 (tC (.bl x)) (.bool x) := fun H Q _ h => h H _ Kp.nil (.bl x)
theorem cw_non : CW M K σ H0 (tC .non) .none := fun H Q _ h => h H _ Kp.nil .non
theorem cw_var {i : Nat} {v : V} (e : σ[i]? = some (some v)) (hv : Dw M K H0 v d) : CW M K σ H0 (tVar i) d := fun H Q k h => ⟨v, e, h H _ Kp.nil (hv.kp0 k)⟩
theorem cw_neg {i : Int} : CW M K σ H0 (tUn (rU fun i => .int (-i)) (tC (.int i))) (.int (-i)) := fun H Q _ h => r_un (r_C (r_U (h H _ Kp.nil (.int _))))
theorem cw_pow {i j : Int} (h0 : CPow i j) : CW M K σ H0 (tOp (rI CPow fun i j => .int (i ^ j.toNat)) (tC (.int i)) (tC (.int j))) (.int (i ^ j.toNat)) := fun H Q _ h => r_op (r_C (r_C (r_I (h H _ Kp.nil (.int _)) h0)))
theorem cws_nil : CWs M K σ H0 tNil [] := fun H R _ h => h H _ Kp.nil DwL.nil
theorem cws_cons (a : CW M K σ H0 te d) (b : CWs M K σ H0 ts ds) : CWs M K σ H0 (tCons te ts) (d :: ds) := fun H R k h =>
  a H _ k fun H1 v k1 hv => b H1 _ (k.trans k1) fun H2 vs k2 hs => h H2 (v :: vs) (k1.trans k2) (DwL.cons (hv.kp0 k2) hs)
theorem cw_tup (b : CWs M K σ H0 ts ds) (hz : ds.length ≤ 16777216) : CW M K σ H0 (tTup ts) (.tuple ds) := fun H Q k h =>
  b H _ k fun H1 vs k1 hs => ⟨by rw [hs.len, sizeLine_eq]; exact hz, fun p hp => h _ _ (k1.new hp) ((hs.kp0 (Kp.nil.new hp)).tup upd_same)⟩
theorem cw_lst (hM : Oc M H0) (b : CWs M K σ H0 ts ds) (hz : ds.length ≤ 16777216) : CW M K σ H0 (tLst ts) (.list ds) := fun H Q k h =>
  b H _ k fun H1 vs k1 hs => ⟨by rw [hs.len, sizeLine_eq]; exact hz, fun p hp => h _ _ (k1.new hp) ((hs.kp0 (Kp.nil.new hp)).lst upd_same (hM.new (k.trans k1) hp))⟩
theorem cw_d0 (hM : Oc M H0) : CW M K σ H0 tDNewK (.dict []) := fun H Q k h p hp => h _ _ (Kp.nil.new hp) (.dct upd_same (hM.new k hp) rfl (fun i kv p e => by simp at e) (fun i kv p e => by simp at e))
theorem cw_d1 {x : Str} {i : Int} (hM : Oc M H0) : CW M K σ H0 (tDisp [(tC (.str x), tC (.int i))]) (.dict [(.str x, .int i)]) := fun H Q k h p hp => by
  refine r_pcons (r_C (r_C (r_pnil ⟨upd_same, [(Sum.inr x, .int i)], rfl, by simp, ?_⟩)))
  have e : mergeK [] [((Sum.inr x : Key), V.int i)] = [(Sum.inr x, .int i)] := rfl
  rw [e, upd_upd]
  refine h _ _ (Kp.nil.new hp) (.dct upd_same (hM.new k hp) rfl (fun j kv p e e' => ?_) (fun j kv p e e' => ?_))
  · match j, e, e' with
    | 0, e, e' => cases e; cases e'; rfl
  · match j, e, e' with
    | 0, e, e' => cases e; cases e'; exact .int i
theorem CW.use {H : Hp} {Q : VK} (a : CW M K σ H te d) (h : ∀ H' v, Kp [] H H' → Dw M K H' v d → Q v H') : te σ H Q := a H Q Kp.nil h
theorem CWs.use {H : Hp} {R : List V → Hp → Prop} (a : CWs M K σ H ts ds) (h : ∀ H' vs, Kp [] H H' → DwL M K H' vs ds → R vs H') : ts σ H R := a H R Kp.nil h

/-! ### cuts -/
def cutD {α : Type} (xs : List α) (lo hi : Option Int) : List α := (xs.drop (HT.sIx xs.length 0 lo)).take (HT.sIx xs.length xs.length hi - HT.sIx xs.length 0 lo)
theorem DwL.cut {H : Hp} {vs : List V} (h : DwL M K H vs ds) (lo hi : Option Int) : DwL M K H (cutV vs lo hi) (cutD ds lo hi) := by
  have hl := h.len
  unfold cutV cutD
  rw [hl]
  refine ⟨by rw [List.length_take, List.length_take, List.length_drop, List.length_drop, hl], fun i v d e e' => ?_⟩
  have hi := (List.getElem?_eq_some_iff.mp e).1
  rw [List.length_take] at hi
  rw [List.getElem?_take, if_pos (by omega), List.getElem?_drop] at e e'
  exact h.all _ v d e e'
theorem r_slW {H : Hp} {Q : VK} {v : V} {lo hi : Option Int} (h : Dw M K H v (.tuple ds)) (k : ∀ H' w, Kp [] H H' → Dw M K H' w (.tuple (cutD ds lo hi)) → Q w H') : rSlA K v lo hi H Q := by
  obtain ⟨a, xs, rfl, hT, hL⟩ := h.items
  refine ⟨a, xs, rfl, hT, fun hw => ?_, fun _ p hp => k _ _ (Kp.nil.new hp) (((hL.cut lo hi).kp0 (Kp.nil.new hp)).tup upd_same)⟩
  refine k _ _ Kp.nil ?_
  have e : cutD ds lo hi = ds := by
    unfold cutD
    rw [hL.len] at hw
    rw [hw.1, hw.2, List.drop_zero, Nat.sub_zero, List.take_length]
  rw [e]
  exact h
theorem r_catW {H : Hp} {Q : VK} {v u : V} (hv : Dw M K H v (.tuple ds)) (hu : Dw M K H u (.tuple es)) (hz : ds.length + es.length ≤ 16777216)
    (h : ∀ H' w, Kp [] H H' → Dw M K H' w (.tuple (ds ++ es)) → Q w H') : rCatA K v u H Q := by
  obtain ⟨a, xs, rfl, ha, la⟩ := hv.items
  obtain ⟨b, ys, rfl, hb, lb⟩ := hu.items
  refine ⟨a, b, xs, ys, rfl, rfl, ha, hb, by rw [la.len, lb.len, sizeLine_eq]; exact hz, fun e => ?_, fun _ e => ?_, fun _ _ p hp => ?_⟩
  · have q := la.len
    rw [e] at q
    obtain rfl : ds = [] := List.length_eq_zero_iff.mp q.symm
    exact h _ _ Kp.nil hu
  · have q := lb.len
    rw [e] at q
    obtain rfl : es = [] := List.length_eq_zero_iff.mp q.symm
    rw [List.append_nil] at h
    exact h _ _ Kp.nil hv
  · exact h _ _ (Kp.nil.new hp) (((la.app lb).kp0 (Kp.nil.new hp)).tup upd_same)
end
theorem cutD_mem {α : Type} {xs : List α} {lo hi : Option Int} {x : α} (h : x ∈ cutD xs lo hi) : x ∈ xs := List.mem_of_mem_drop (List.mem_of_mem_take h)
theorem dszs_take : ∀ (n : Nat) (b : List PyData), dszs (b.take n) ≤ dszs b
  | 0, b => by rw [List.take_zero, dszs]; omega
  | n + 1, [] => by rw [List.take_nil]; omega
  | n + 1, d :: r => by have := dszs_take n r; rw [List.take_succ_cons, dszs, dszs]; omega
theorem dszs_drop : ∀ (n : Nat) (b : List PyData), dszs (b.drop n) ≤ dszs b
  | 0, b => by rw [List.drop_zero]; omega
  | n + 1, [] => by rw [List.drop_nil]; omega
  | n + 1, d :: r => by have := dszs_drop n r; rw [List.drop_succ_cons, dszs]; omega
theorem dszs_cut (b : List PyData) (lo hi : Option Int) : dszs (cutD b lo hi) ≤ dszs b := Nat.le_trans (dszs_take _ _) (dszs_drop _ _)
theorem cutD_to {α : Type} (xs : List α) (n : Nat) (h : n ≤ xs.length) : cutD xs none (some (n : Int)) = xs.take n := by
  unfold cutD
  rw [HT.sIx_none, HT.sIx_nat, List.drop_zero, Nat.min_eq_left h, Nat.sub_zero]
theorem cutD_from {α : Type} (xs : List α) (n : Nat) (h : n ≤ xs.length) : cutD xs (some (n : Int)) none = xs.drop n := by
  unfold cutD
  rw [HT.sIx_none, HT.sIx_nat, Nat.min_eq_left h, List.take_of_length_le (by rw [List.length_drop]; omega)]
theorem dszs_split (b : List PyData) {i : Nat} {d : PyData} (h : b[i]? = some d) : dszs b = dszs (b.take i) + dsz d + dszs (b.drop (i + 1)) := by
  obtain ⟨hi, e⟩ := List.getElem?_eq_some_iff.mp h
  have q : b = b.take i ++ d :: b.drop (i + 1) := by rw [← e, ← List.drop_eq_getElem_cons hi, List.take_append_drop]
  conv => lhs; rw [q]
  rw [dszs_app, dszs]
  omega

/-! ### trees as data -/
theorem name_ok {x : Str} (h : isNameS x = true) : PyData.strOk x = true ∧ x.length ≤ 8 := by
  unfold isNameS at h
  simp only [Bool.and_eq_true, decide_eq_true_eq] at h
  obtain ⟨⟨⟨⟨_, h1⟩, _⟩, h2⟩, _⟩ := h
  refine ⟨?_, h1⟩
  unfold PyData.strOk
  rw [Array.all_eq_true_iff_forall_mem]
  intro c hc
  have q : ∀ c ∈ SGN.cps.toList, c < 1114112 := by decide +kernel
  exact decide_eq_true (q c (of_decide_eq_true (List.all_eq_true.mp h2 c (Array.mem_def.mp hc))))
theorem word_ok {x : Str} (h : isWordS x = true) : PyData.strOk x = true ∧ x.length ≤ 8 := by
  unfold isWordS at h
  simp only [Bool.and_eq_true, decide_eq_true_eq] at h
  obtain ⟨⟨⟨_, h1⟩, _⟩, h2⟩ := h
  refine ⟨?_, h1⟩
  unfold PyData.strOk
  rw [Array.all_eq_true_iff_forall_mem]
  intro c hc
  have q : ∀ c ∈ SGN.cps.toList, c < 1114112 := by decide +kernel
  exact decide_eq_true (q c (of_decide_eq_true (List.all_eq_true.mp h2 c (Array.mem_def.mp hc))))
theorem small_log {i : Int} (h1 : -1000 ≤ i) (h2 : i ≤ 1000) : i.natAbs.log2 < 200 := by
  by_cases h : i.natAbs = 0
  · rw [h]
    decide
  · exact Nat.lt_of_lt_of_le ((Nat.log2_lt (k := 10) h).mpr (by omega)) (by decide)
theorem Dok.int {i : Int} (h1 : -1000 ≤ i) (h2 : i ≤ 1000) : Dok (.int i) 1 0 := ⟨by rw [dsz]; omega, by rw [shb]; exact decide_eq_true (small_log h1 h2), by rw [PyData.depth]; omega⟩
theorem Dok.str {x : Str} {n : Nat} (h : PyData.strOk x = true ∧ x.length ≤ n) : Dok (.str x) (n + 1) 0 := ⟨by rw [dsz]; omega, by rw [shb]; exact h.1, by rw [PyData.depth]; omega⟩
theorem Dok.nil {k : Nat} : Dok (.tuple []) 1 (k + 1) := ⟨by simp [dsz, dszs], by simp [shb, shbs], by simp [PyData.depth, PyData.depthAll]⟩
/-- lists of data -/
structure Doks (ds : List PyData) (z k : Nat) : Prop where
  sz : dszs ds ≤ z
  sh : shbs ds = true
  dp : PyData.depthAll ds ≤ k
theorem Doks.nil {k : Nat} : Doks [] 0 k := ⟨by rw [dszs]; omega, by rw [shbs], by rw [PyData.depthAll]; omega⟩
theorem Doks.cons {d : PyData} {ds : List PyData} {z z' k k' : Nat} (a : Dok d z k') (b : Doks ds z' k) (h : k' ≤ k) : Doks (d :: ds) (z + z') k := by
  have := a.sz; have := b.sz; have := a.dp; have := b.dp
  exact ⟨by rw [dszs]; omega, by rw [shbs, a.sh, b.sh]; rfl, by rw [PyData.depthAll]; omega⟩
theorem Doks.tup {ds : List PyData} {z k : Nat} (h : Doks ds z k) : Dok (.tuple ds) (z + 1) (k + 1) := by
  have := h.sz; have := h.dp
  exact ⟨by rw [dsz]; omega, by rw [shb]; exact h.sh, by rw [PyData.depth]; omega⟩
theorem Dok.tups {ds : List PyData} {z k : Nat} (h : Dok (.tuple ds) (z + 1) (k + 1)) : Doks ds z k := by
  have h1 := h.sz; have h2 := h.dp; have h3 := h.sh
  rw [dsz] at h1
  rw [PyData.depth] at h2
  rw [shb] at h3
  exact ⟨by omega, h3, by omega⟩
theorem Dok.lst {ds : List PyData} {z k : Nat} (h : Dok (.tuple ds) z k) : Dok (.list ds) z k := by
  have h1 := h.sz; have h2 := h.dp; have h3 := h.sh
  rw [dsz] at h1
  rw [PyData.depth] at h2
  rw [shb] at h3
  exact ⟨by rw [dsz]; exact h1, by rw [shb]; exact h3, by rw [PyData.depth]; exact h2⟩
theorem lit_ok {x : Str} {n : Nat} (h : (PyData.strOk x && decide (x.length ≤ n)) = true) : PyData.strOk x = true ∧ x.length ≤ n := by
  rw [Bool.and_eq_true, decide_eq_true_eq] at h
  exact h
def eZ : Nat → Nat
  | 0 => 0
  | n + 1 => 2 * eZ n + 10
theorem Ex.vd.dok : ∀ {n : Nat} {e : Ex}, e.vd n → Dok e.d (eZ n) n
  | 0, _, h => h.elim
  | n + 1, .int i, h => (Dok.int (by have := h.1; omega) (by have := h.2; omega)).mono (by unfold eZ; omega) (by omega)
  | n + 1, .name x, h => (Dok.str (name_ok h)).mono (by unfold eZ; omega) (by omega)
  | n + 1, .bin o a b, h => by
    obtain ⟨hb, h⟩ := h
    have qb := Ex.vd.dok hb
    have key : ∀ {o : Str}, PyData.strOk o = true ∧ o.length ≤ 5 → Dok a.d (eZ n) n → Dok (Ex.bin o a b).d (eZ (n + 1)) (n + 1) := fun ho qa =>
      (Doks.tup (Doks.cons (Dok.str ho) (Doks.cons qa (Doks.cons qb (Doks.nil (k := n)) (Nat.le_refl _)) (Nat.le_refl _)) (Nat.zero_le _))).mono (by show _ ≤ 2 * eZ n + 10; omega) (by omega)
    rcases h with ⟨rfl, i, rfl, h1, h2⟩ | ⟨ho, ha⟩
    · refine key (lit_ok (by decide +kernel)) ((Dok.int (by omega) (by omega)).mono ?_ (by omega))
      cases n with
      | zero => exact hb.elim
      | succ n => unfold eZ; omega
    · refine key ?_ (Ex.vd.dok ha)
      rcases ho with rfl | rfl <;> exact lit_ok (by decide +kernel)
theorem Ts.vd.dok : ∀ {n : Nat} {t : Ts}, t.vd n → Dok t.d (5 * n + 160) (n + 4)
  | n + 1, .not t, h => by
    have q := Ts.vd.dok (n := n) (t := t) h
    exact (Doks.tup (Doks.cons (Dok.str (lit_ok (x := "not") (n := 3) (by decide +kernel))) (Doks.cons q (Doks.nil (k := n + 4)) (Nat.le_refl _)) (by omega))).mono (by omega) (by omega)
  | n, .given x, h => by
    have q : isNameS x = true := by cases n <;> exact h
    exact (Doks.tup (Doks.cons (Dok.str (lit_ok (x := "given") (n := 5) (by decide +kernel))) (Doks.cons (Dok.str (name_ok q)) (Doks.nil (k := 0)) (by omega)) (by omega))).mono (by omega) (by omega)
  | n, .rest e b r, h => by
    have q : e.vd 3 ∧ 2 ≤ b ∧ b ≤ 6 ∧ 0 ≤ r ∧ r ≤ b - 1 := by cases n <;> exact h
    obtain ⟨q, b0, b1, r0, r1⟩ := q
    have e3 : eZ 3 = 70 := rfl
    exact (Doks.tup (Doks.cons (Dok.str (lit_ok (x := "rest") (n := 5) (by decide +kernel))) (Doks.cons q.dok (Doks.cons (Dok.int (by omega) (by omega)) (Doks.cons (Dok.int (by omega) (by omega)) (Doks.nil (k := 3)) (by omega)) (by omega)) (by omega)) (by omega))).mono (by omega) (by omega)
  | n, .less a b, h => by
    have q : a.vd 3 ∧ b.vd 3 := by cases n <;> exact h
    have e3 : eZ 3 = 70 := rfl
    exact (Doks.tup (Doks.cons (Dok.str (lit_ok (x := "less") (n := 5) (by decide +kernel))) (Doks.cons q.1.dok (Doks.cons q.2.dok (Doks.nil (k := 3)) (by omega)) (by omega)) (by omega))).mono (by omega) (by omega)
theorem Pl.vd.dok {p : Pl} (h : p.vd) : Dok p.d 100 4 := by
  have e3 : eZ 3 = 70 := rfl
  cases p with
  | set x e => exact (Doks.tup (Doks.cons (Dok.str (lit_ok (x := "set") (n := 5) (by decide +kernel))) (Doks.cons (Dok.str (name_ok h.1)) (Doks.cons h.2.dok (Doks.nil (k := 3)) (by omega)) (by omega)) (by omega))).mono (by omega) (by omega)
  | unset x => exact (Doks.tup (Doks.cons (Dok.str (lit_ok (x := "unset") (n := 5) (by decide +kernel))) (Doks.cons (Dok.str (name_ok h)) (Doks.nil (k := 3)) (by omega)) (by omega))).mono (by omega) (by omega)
  | tell e => exact (Doks.tup (Doks.cons (Dok.str (lit_ok (x := "tell") (n := 5) (by decide +kernel))) (Doks.cons (Ex.vd.dok (n := 3) h) (Doks.nil (k := 3)) (by omega)) (by omega))).mono (by omega) (by omega)
  | say x => exact (Doks.tup (Doks.cons (Dok.str (lit_ok (x := "say") (n := 5) (by decide +kernel))) (Doks.cons (Dok.str (word_ok h)) (Doks.nil (k := 3)) (by omega)) (by omega))).mono (by omega) (by omega)
  | stop x => exact (Doks.tup (Doks.cons (Dok.str (lit_ok (x := "stop") (n := 5) (by decide +kernel))) (Doks.cons (Dok.str (word_ok h)) (Doks.nil (k := 3)) (by omega)) (by omega))).mono (by omega) (by omega)
theorem Sm.vd.doks : ∀ (n : Nat) (b : List Sm), VdB n b → Doks (Sm.ds b) (200 * Sm.sizes b) (2 * n + 6) := by
  intro n
  induction n with
  | zero =>
    intro b h
    have h : b = [] := h
    subst h
    rw [Sm.ds, Sm.sizes]
    exact Doks.nil
  | succ n ih =>
    intro b h
    induction b with
    | nil =>
      rw [Sm.ds, Sm.sizes]
      exact Doks.nil
    | cons s r ihr =>
      have hr := ihr fun z hz => h z (List.mem_cons_of_mem _ hz)
      have hs : Dok s.d (200 * s.size) (2 * (n + 1) + 6) := by
        have hv := h s (List.mem_cons_self ..)
        have hp := hv.parts
        cases s with
        | pl p =>
          have q : p.vd := by cases n <;> exact hv
          rw [Sm.d, Sm.size]
          exact q.dok.mono (by omega) (by omega)
        | ifs t y z =>
          have ht : t.vd 2 := by cases n <;> exact hv.1
          have q1 := ih y (hp y (by simp [Sm.parts]))
          have q2 := ih z (hp z (by simp [Sm.parts]))
          rw [Sm.d, Sm.size]
          exact (Doks.tup (Doks.cons (Dok.str (lit_ok (x := "if") (n := 2) (by decide +kernel))) (Doks.cons ht.dok (Doks.cons q1.tup (Doks.cons q2.tup (Doks.nil (k := 2 * n + 7)) (by omega)) (by omega)) (by omega)) (by omega))).mono (by omega) (by omega)
        | rep k b =>
          have hk : 0 ≤ k ∧ k ≤ 8 := by cases n <;> exact ⟨hv.1, hv.2.1⟩
          have q1 := ih b (hp b (by simp [Sm.parts]))
          rw [Sm.d, Sm.size]
          exact (Doks.tup (Doks.cons (Dok.str (lit_ok (x := "repeat") (n := 6) (by decide +kernel))) (Doks.cons (Dok.int (by omega) (by omega)) (Doks.cons q1.tup (Doks.nil (k := 2 * n + 7)) (by omega)) (by omega)) (by omega))).mono (by omega) (by omega)
      rw [Sm.ds, Sm.sizes]
      have q := Doks.cons hs hr (Nat.le_refl _)
      exact ⟨by have := q.sz; omega, q.sh, q.dp⟩
theorem PgV.dok {b : List Sm} (h : PgV b) : Dok (.tuple (Sm.ds b)) 4801 15 := by
  have q := (Sm.vd.doks 4 b h.vd).tup
  have := h.size
  exact q.mono (by omega) (by omega)

abbrev ODD1 : List PyData := [.none, .bool true, .int 0, .int 9, .int (-100), .int ((10 : Int) ^ (50 : Int).toNat), .str "", .str "n", .str "unset", .str "Ab", .str "a_", .str "abcdefghi", .tuple [], .list [], .dict [], .tuple [.int 1], .tuple [.str "say"]]
abbrev ODD2 : List PyData := [.tuple [.str "given", .str "n"], .list [.str "say", .str "x"], .tuple [.str "say", .str "x"], .tuple [.tuple [.str "say", .str "x"]], .tuple [.tuple [.str "say", .str "X"]], .tuple [.str "tell", .tuple [.str "plus", .int 1]]]
theorem odd1_ok : ∀ d ∈ ODD1, Dok d 3000 30 := by
  have h : ODD1.all (fun d => decide (dsz d ≤ 3000) && shb d && decide (d.depth ≤ 30)) = true := by decide +kernel
  exact fun d hd => Dok.by (List.all_eq_true.mp h d hd)
theorem odd2_ok : ∀ d ∈ ODD2, Dok d 3000 30 := by
  have h : ODD2.all (fun d => decide (dsz d ≤ 3000) && shb d && decide (d.depth ≤ 30)) = true := by decide +kernel
  exact fun d hd => Dok.by (List.all_eq_true.mp h d hd)
def strL (x : Str) (n : Nat) : Prop := PyData.strOk x = true ∧ x.length ≤ n
/-- one if more around it -/
theorem deep_ok {x : PyData} {z k : Nat} (h : Dok x z k) : Dok (.tuple [.str "if", .tuple [.str "given", .str "n"], .tuple [x], .tuple []]) (z + 30) (k + 2) :=
  (Doks.tup (Doks.cons (Dok.str (lit_ok (x := "if") (n := 2) (by decide +kernel))) (Doks.cons (Dok.by (z := 12) (k := 1) (by decide +kernel)) (Doks.cons (Doks.cons h (Doks.nil (k := k)) (Nat.le_refl _)).tup (Doks.cons (Dok.nil (k := 0)) (Doks.nil (k := k + 1)) (by omega)) (by omega)) (by omega)) (by omega))).mono (by omega) (by omega)
theorem twice_ok {x : PyData} {z k : Nat} (h : Dok x z k) : Dok (.tuple [.str "repeat", .int 8, .tuple [x, x]]) (2 * z + 30) (k + 2) :=
  (Doks.tup (Doks.cons (Dok.str (lit_ok (x := "repeat") (n := 6) (by decide +kernel))) (Doks.cons (Dok.int (by omega) (by omega)) (Doks.cons (Doks.cons h (Doks.cons h (Doks.nil (k := k)) (Nat.le_refl _)) (Nat.le_refl _)).tup (Doks.nil (k := k + 1)) (by omega)) (by omega)) (by omega))).mono (by omega) (by omega)

/-! ### promises -/
theorem Deck.oc {H : Hp} {d c : Addr} {n : Int} (D : Deck H d c n) : Oc [d, c] H := fun a m => by
  obtain ⟨xs, e⟩ := D.ls a m
  exact ⟨_, e⟩
theorem Deck.ocM {H : Hp} {d c : Addr} {n : Int} {M : List Addr} (D : Deck H d c n) (h : Oc M H) : Oc (d :: c :: M) H := fun a m => by
  rcases List.mem_cons.mp m with rfl | m
  · exact ⟨_, D.hd⟩
  rcases List.mem_cons.mp m with rfl | m
  · exact D.oc _ (by simp)
  · exact h a m
theorem Oc.kp {M : List Addr} {H H1 : Hp} (h : Oc M H) (k : Kp [] H H1) : Oc M H1 := fun a m => by
  obtain ⟨o, e⟩ := h a m
  exact ⟨o, k.get e (by simp)⟩
theorem Oc.deck {M : List Addr} {H H1 : Hp} {d c : Addr} {n : Int} (h : Oc M H) (D : Deck H1 d c n) (k : Kp [d, c] H H1) : Oc M H1 := fun a m => by
  by_cases hm : a ∈ [d, c]
  · exact D.oc a hm
  · obtain ⟨o, e⟩ := h a m
    exact ⟨o, k.get e hm⟩
theorem dcM {d c : Addr} {M : List Addr} : ∀ b ∈ [d, c], b ∈ d :: c :: M := fun b hb => by
  simp only [List.mem_cons, List.not_mem_nil, or_false] at hb ⊢
  rcases hb with rfl | rfl
  · exact .inl rfl
  · exact .inr (.inl rfl)
def spOdd (K : PySem.W.Frag) : Sp := fun vs H Q _ => ∃ (d c : Addr) (n : Int) (M : List Addr), vs = [.ref d] ∧ Deck H d c n ∧ n + 10 < 10 ^ 12 ∧ Oc M H ∧
  ∀ (H' : Hp) (v : V) (x : PyData) (n' : Int), Deck H' d c n' → n ≤ n' → n' ≤ n + 10 → Kp [d, c] H H' → Dw (d :: c :: M) K H' v x → Dok x 3000 30 → Q v H'
def spBent (K : PySem.W.Frag) (m : Nat) : Sp := fun vs H Q _ => ∃ (d c : Addr) (n : Int) (M : List Addr) (v : V) (x : PyData) (z k : Nat), vs = [.ref d, v, .int m] ∧ Deck H d c n ∧ n + 20 + 10 * m < 10 ^ 12 ∧ Oc M H ∧ Dw (d :: c :: M) K H v x ∧ Dok x z k ∧ z ≤ 1000000 ∧
  ∀ (H' : Hp) (w : V) (y : PyData) (n' : Int), Deck H' d c n' → n ≤ n' → n' ≤ n + 20 + 10 * m → Kp [d, c] H H' → Dw (d :: c :: M) K H' w y → Dok y (3 * z + 3000) (max k (30 + m)) → Q w H'
end Aw

/-! single statements: makers of data -/
namespace Aw
open PySem PySem.Spec L2

section
variable {M : List Addr} {K : PySem.W.Frag} {σ : L2.St} {H : Hp} {Q : VK} {E : XK} {te : TE} {ts : TA} {ds es : List PyData} {d c p : Addr} {n : Int} {vs : List V}
theorem one_dw (D : Deck H d c n) (hn : n < 10 ^ 12) (h : H p = some (.lst vs)) (hL : DwL (d :: c :: M) K H vs ds) (h1 : p ≠ d) (h2 : p ≠ c) (l1 : 1 ≤ ds.length) (l2 : ds.length ≤ 1000)
    (k : ∀ (H' : Hp) (x : V) (e : PyData), e ∈ ds → Dw (d :: c :: M) K H' x e → Deck H' d c (n + 1) → Kp [d, c] H H' → Q x H') : spOne K [.ref d, .ref p] H Q E := by
  have ll := hL.len
  refine spOne.list D hn (SqL.of h) h1 h2 (by omega) (by omega) fun H' i x hx D' k' => ?_
  obtain ⟨e, he, hxe⟩ := hL.get hx
  exact k H' x e (List.mem_of_getElem? he) (hxe.kpS k' dcM) D' k'
/-- one(deck, [..]) -/
theorem call_one (D : Deck H d c n) (hn : n < 10 ^ 12) (e0 : σ[0]? = some (some (.ref d))) (oc : Oc (d :: c :: M) H) (a : CWs (d :: c :: M) K σ H ts ds) (l1 : 1 ≤ ds.length) (l2 : ds.length ≤ 1000)
    (k : ∀ (H' : Hp) (x : V) (e : PyData), e ∈ ds → Dw (d :: c :: M) K H' x e → Deck H' d c (n + 1) → Kp [d, c] H H' → Q x H') :
    tCall (spOne K) [] E (tCons (tVar 0) (tCons (tLst ts) tNil)) σ H Q := by
  refine r_call (r_cons (r_var e0 (r_cons (r_lst (a.use fun H1 vs k1 hs => ⟨by rw [hs.len, sizeLine_eq]; omega, fun p hp => r_nil ?_⟩)))))
  have k2 : Kp [] H (upd H1 p (.lst vs)) := k1.new hp
  have D2 := D.kp k2 (by simp) (by simp)
  have f := (D.kp k1 (by simp) (by simp)).fresh hp
  refine one_dw (M := M) D2 hn upd_same (hs.kp0 (Kp.nil.new hp)) f.1 f.2 l1 l2 fun H' x e he hx D' k' => ?_
  exact k H' x e he hx D' ((k2.sub D.ls (by simp)).trans k')
/-- x + [..] -/
theorem cat_some {i : Nat} (ei : σ[i]? = some (some (.ref p))) (hp : H p = some (.lst vs)) (hL : DwL M K H vs ds) (a : CWs M K σ H ts es) (l : ds.length + es.length ≤ 10000)
    (k : ∀ (H' : Hp) (q : Addr) (ws : List V), H q = none → H' q = some (.lst ws) → DwL M K H' ws (ds ++ es) → Kp [] H H' → Q (.ref q) H') : tOp rCat (tVar i) (tLst ts) σ H Q := by
  refine r_op (r_var ei (r_lst (a.use fun H1 us k1 hs => ⟨by rw [hs.len, sizeLine_eq]; omega, fun q hq => ?_⟩)))
  have k2 : Kp [] H (upd H1 q (.lst us)) := k1.new hq
  have l1 := hL.len
  have l2 := hs.len
  refine r_cat (k2.get hp (by simp)) upd_same (by rw [sizeLine_eq]; omega) fun t ht => ?_
  have k3 := k2.new (o := .lst (vs ++ us)) ht
  refine k _ t _ ?_ upd_same ((((hL.kp0 k2).app (hs.kp0 (Kp.nil.new hq)))).kp0 (Kp.nil.new ht)) k3
  exact k2.free (fun b hb => by cases hb) ht
/-- one(deck, x + [..]) -/
theorem call_oneC {i : Nat} (D : Deck H d c n) (hn : n < 10 ^ 12) (e0 : σ[0]? = some (some (.ref d))) (ei : σ[i]? = some (some (.ref p))) (hp : H p = some (.lst vs)) (hL : DwL (d :: c :: M) K H vs ds) (a : CWs (d :: c :: M) K σ H ts es)
    (l1 : 1 ≤ ds.length) (l2 : ds.length + es.length ≤ 1000)
    (k : ∀ (H' : Hp) (x : V) (e : PyData), e ∈ ds ++ es → Dw (d :: c :: M) K H' x e → Deck H' d c (n + 1) → Kp [d, c] H H' → Q x H') :
    tCall (spOne K) [] E (tCons (tVar 0) (tCons (tOp rCat (tVar i) (tLst ts)) tNil)) σ H Q := by
  refine r_call (r_cons (r_var e0 (r_cons (cat_some ei hp hL a (by omega) fun H1 q ws hq h1 hs k1 => r_nil ?_))))
  have f := D.fresh hq
  refine one_dw (M := M) (D.kp k1 (by simp) (by simp)) hn h1 hs f.1 f.2 (by rw [List.length_append]; omega) (by rw [List.length_append]; omega) fun H' x e he hx D' k' => ?_
  exact k H' x e he hx D' ((k1.sub D.ls (by simp)).trans k')
theorem cw_ix {i : Nat} {a : Addr} {x : V} {y : PyData} {j : Int} {H0 : Hp} (e : σ[i]? = some (some (.ref a))) (h : H0 a = some (.lst vs)) (at_ : atI vs j = some x) (hx : Dw M K H0 x y) : CW M K σ H0 (tOp (rIxL K) (tVar i) (tC (.int j))) y := fun H Q k q =>
  r_op (r_var e (r_C (r_ixL (SqL.of (k.get h (by simp))) at_ (q H _ Kp.nil (hx.kp0 k)))))
theorem cw_tupL {i : Nat} {a : Addr} {H0 : Hp} (e : σ[i]? = some (some (.ref a))) (h : H0 a = some (.lst vs)) (hL : DwL M K H0 vs ds) : CW M K σ H0 (tCB (qTup K) (tCons (tVar i) tNil)) (.tuple ds) := fun H Q k q =>
  r_CB (r_cons (r_var e (r_nil (r_tupL (SqL.of (k.get h (by simp))) fun l hl => q _ _ (Kp.nil.new hl) (((hL.kp0 k).kp0 (Kp.nil.new hl)).tup upd_same)))))
theorem cw_addS {x y : Str} {H0 : Hp} (a : CW M K σ H0 te (.str x)) (l : x.length + y.length ≤ 16777216) : CW M K σ H0 (tOp rAddS te (tC (.str y))) (.str (x ++ y)) := fun H Q k q =>
  r_op (a H _ k fun H1 v k1 hv => by
    obtain rfl := hv.isStr
    exact r_C (r_addS (q H1 _ k1 (.str _)) (by rw [sizeLine_eq]; exact l)))
end
theorem NmV.dwl {H : Hp} {a : Addr} {xs : List Str} {M : List Addr} {K : PySem.W.Frag} (N : NmV H a xs) : DwL M K H (xs.map V.str) (xs.map PyData.str) := by
  refine ⟨by rw [List.length_map, List.length_map], fun i v d e e' => ?_⟩
  rw [List.getElem?_map] at e e'
  obtain ⟨x, hx, rfl⟩ := Option.map_eq_some_iff.mp e
  rw [hx] at e'
  cases e'
  exact .str x
theorem NmV.dok {H : Hp} {a : Addr} {xs : List Str} (N : NmV H a xs) : ∀ x ∈ xs.map PyData.str, Dok x 9 0 := by
  intro x hx
  obtain ⟨y, hy, rfl⟩ := List.mem_map.mp hx
  exact Dok.str (name_ok (N.ok y hy))
abbrev OD1 : List PyData := [.none, .bool true, .bool false, .int 0, .int 1, .int 6, .int 7, .int 8, .int 9, .int (-9), .int (-10), .int 99, .int (-99), .int 100, .int ((10 : Int) ^ (50 : Int).toNat), .str "", .str "n", .str "unset", .str "of", .str "unsure"]
abbrev OD2 : List PyData := [.str "a1", .str "1a", .str "Ab", .str "a_", .str "a\n", .str "a{", .str "abcdefgh", .str "abcdefghi", .str "plus", .str "times", .tuple [], .list [], .dict [], .tuple [.int 1]]
abbrev OD3 : List PyData := [.tuple [.str "given", .str "n"], .tuple [.str "plus", .int 1, .int 2], .list [.str "plus", .int 1, .int 2], .tuple [.str "times", .int 2, .str "n"], .tuple [.str "times", .str "n", .int 2]]
abbrev OD4 : List PyData := [.tuple [.str "not", .tuple [.str "given", .str "n"]], .tuple [.str "less", .int 1], .tuple [.str "say", .str "x"], .tuple [.tuple [.str "say", .str "x"]], .dict [(.str "n", .int 1)], .tuple [.str "given", .int 1]]
abbrev OD5 : List PyData := [.tuple [.str "rest", .str "n", .int 6, .int 5], .tuple [.str "rest", .str "n", .int 6, .int 6], .tuple [.str "rest", .str "n", .int 7, .int 0], .tuple [.str "minus", .str "n"]]
theorem od_ok : ∀ d ∈ OD1 ++ OD2 ++ OD3 ++ OD4 ++ OD5, Dok d 3000 30 := by
  have h : (OD1 ++ OD2 ++ OD3 ++ OD4 ++ OD5).all (fun d => decide (dsz d ≤ 3000) && shb d && decide (d.depth ≤ 30)) = true := by decide +kernel
  exact fun d hd => Dok.by (List.all_eq_true.mp h d hd)
/-- an expression of any sort -/
def spDeep (K : PySem.W.Frag) : Sp := fun vs H Q _ => ∃ (d c nm : Addr) (n m : Int) (xs : List Str) (M : List Addr), vs = [.ref d, .ref nm, .int m] ∧ Deck H d c n ∧ n + 20 < 10 ^ 12 ∧ NmV H nm xs ∧ nm ≠ d ∧ nm ≠ c ∧ Oc M H ∧ 1 ≤ m ∧ m ≤ 4 ∧
  ∀ (H' : Hp) (v : V) (x : PyData) (n' : Int), Deck H' d c n' → n ≤ n' → n' ≤ n + 20 → Kp [d, c] H H' → Dw (d :: c :: M) K H' v x → Dok x 200 5 → Q v H'
def spKept : Sp := fun vs H Q _ => vs = [] ∧ ∀ (H' : Hp) (p : Addr), H p = none → Kp [] H H' → H' p = some (.lst (KEPTS.map V.str)) → Q (.ref p) H'
def spStm (K : PySem.W.Frag) : Sp := fun vs H Q _ => ∃ (d c nm : Addr) (n : Int) (xs : List Str), vs = [.ref d, .ref nm] ∧ Deck H d c n ∧ n + 100 < 10 ^ 12 ∧ NmV H nm xs ∧ nm ≠ d ∧ nm ≠ c ∧
  ∀ (H' : Hp) (v : V) (x : PyData) (n' : Int), Deck H' d c n' → n ≤ n' → n' ≤ n + 100 → Kp [d, c] H H' → Dw [d, c] K H' v x → Dok x 3000 20 → Q v H'
end Aw

namespace Aw
open PySem L2
def topS (i : Nat) : Stmt := PySem.Challenge.pw_anewread_k28_single_statements.main.body.getD i (.Pass ⟨0, 0, 0, 0⟩)
local macro_rules | `(tactic| walk_at "isa") => `(tactic| first | assumption | (focus (simp [isaD, tyD]; done)))
local macro_rules | `(tactic| walk_at "hd") => `(tactic| first
  | exact Dp.int _ | exact Dp.str _ | exact Dp.bl _ | exact Dp.non
  | exact Dt.dp (by assumption) | assumption)
local macro_rules | `(tactic| walk_at "ne") => `(tactic| first
  | assumption
  | exact Ne.symm (by assumption)
  | exact ne_of_none (by assumption) (by assumption)
  | exact Ne.symm (ne_of_none (by assumption) (by assumption)))
local macro_rules | `(tactic| walk_at "hp") => `(tactic| first
  | assumption
  | exact upd_same
  | ((refine Eq.trans (upd_ne ?_) ?_); (walk_at "ne"); (walk_at "hp")))
local macro_rules | `(tactic| walk_at "hs") => `(tactic| first
  | assumption
  | ((with_reducible apply SqL.of); (walk_at "hp"))
  | ((with_reducible apply SqT.of); (walk_at "hp")))
local macro_rules | `(tactic| walk_at "hw") => `(tactic| first | assumption | exact Dw.int _ | exact Dw.str _ | exact Dw.bl _ | exact Dw.non)
local macro_rules | `(tactic| walk_at "cd") => `(tactic| repeat (first | with_reducible exact cd_str | with_reducible exact cd_int | with_reducible exact cd_non | with_reducible exact cds_nil | with_reducible refine cds_cons ?_ ?_ | with_reducible refine cd_tup ?_ (by simp) | ((with_reducible apply cd_var); (exact rfl); assumption)))
local macro_rules | `(tactic| walk_at "cw") => `(tactic| repeat (first | with_reducible exact cw_str | with_reducible exact cw_int | with_reducible exact cw_bl | with_reducible exact cw_non | with_reducible exact cw_neg | with_reducible exact cws_nil | with_reducible exact cw_pow (c_pow (by decide) (by decide) (by decide)) | with_reducible exact cw_d0 (by assumption) | with_reducible exact cw_d1 (by assumption) | with_reducible refine cws_cons ?_ ?_ | with_reducible refine cw_tup ?_ (by simp) | with_reducible refine cw_lst (by assumption) ?_ (by simp) | ((with_reducible apply cw_var); (exact rfl); assumption)))
local macro_rules | `(tactic| walk_at "rd1") => `(tactic| first
  | with_reducible refine r_next ?_ | with_reducible refine r_asg ?_
  | with_reducible refine r_name ?_ | with_reducible refine r_sub ?_ | with_reducible refine r_ifS ?_
  | with_reducible refine r_ret ?_ | with_reducible refine r_retN ?_ | with_reducible refine r_drop ?_
  | (with_reducible refine r_par ?_) | (with_reducible refine r_two ?_) | (with_reducible refine r_par3 ?_) | (with_reducible refine r_three ?_)
  | ((with_reducible apply r_var); exact rfl)
  | ((with_reducible apply r_aug); exact rfl)
  | with_reducible refine r_addS ?_ ?_
  | with_reducible refine r_C ?_ | with_reducible refine r_op ?_ | with_reducible refine r_un ?_
  | with_reducible refine r_I0 ?_ | with_reducible refine r_I ?_ ?_ | with_reducible refine r_U ?_ | with_reducible refine r_ipI ?_
  | (with_reducible refine r_tup ?_) | (with_reducible refine r_lst ?_)
  | with_reducible refine r_nil ?_ | with_reducible refine r_cons ?_
  | with_reducible refine r_call ?_ | with_reducible refine r_CB ?_
  | with_reducible refine r_BM ?_ | with_reducible refine r_BM0 ?_ | with_reducible refine r_M1 ?_ | with_reducible refine r_isS ?_
  | with_reducible refine r_bl ?_ | with_reducible refine r_test ?_ | with_reducible refine r_B ?_
  | ((with_reducible apply r_orP); (focus (intro _ hR_; (walk_at "rd"); exact hR_)); (focus (intro _ hR_; (walk_at "rd"); exact hR_)))
  | ((with_reducible apply r_andP); (focus (intro _ hR_; (walk_at "rd"); exact hR_)); (focus (intro _ hR_; (walk_at "rd"); exact hR_)))
  | with_reducible refine r_and ?_ | with_reducible refine r_or ?_ | with_reducible refine r_not ?_
  | with_reducible refine r_andV ?_ | with_reducible refine r_orV ?_ | with_reducible refine r_notV ?_ | with_reducible refine r_chain ?_
  | ((with_reducible apply r_eqT); (with_reducible rfl); exact rfl) | ((with_reducible apply r_eqF); (decide +kernel); exact rfl)
  | ((with_reducible apply r_neF); (with_reducible rfl); exact rfl) | ((with_reducible apply r_neT); (decide +kernel); exact rfl)
  | ((with_reducible apply r_eq); exact rfl) | ((with_reducible apply r_ne); exact rfl)
  | with_reducible refine r_gcons ?_ | with_reducible refine r_gnil ?_
  | ((with_reducible apply r_gtup); (walk_at "hs"); exact rfl)
  | with_reducible refine r_abs ?_ | with_reducible refine r_int ?_ | with_reducible refine r_intB ?_
  | with_reducible refine r_strI ?_ ?_ | with_reducible refine r_strS ?_ | with_reducible refine r_lenS ?_ ?_
  | ((with_reducible apply r_lenL); (walk_at "hs")) | ((with_reducible apply r_lenT); (walk_at "hs"))
  | ((with_reducible apply r_ixL); (walk_at "hs"); (first | exact rfl | assumption))
  | ((with_reducible apply r_ixT); (walk_at "hs"); (first | exact rfl | assumption))
  | ((with_reducible apply r_ixD); assumption)
  | ((with_reducible apply r_isT); (walk_at "hd"); (walk_at "isa"); decide) | ((with_reducible apply r_isF); (walk_at "hd"); (walk_at "isa"); decide)
  | ((with_reducible apply r_is2T); (walk_at "hw"); (walk_at "isa"); decide) | ((with_reducible apply r_is2F); (walk_at "hw"); (walk_at "isa"); decide)
  | ((with_reducible apply r_setL); (walk_at "hp"); (first | exact rfl | assumption))
  | ((with_reducible apply r_tyL); (walk_at "hp"))
  | ((with_reducible apply r_append); (walk_at "hp"))
  | ((with_reducible apply r_extend); (walk_at "hp"); (walk_at "hp"))
  | with_reducible refine r_forT ?_ | with_reducible refine r_forL ?_ | with_reducible refine r_forR ?_ | with_reducible refine r_forR2 ?_
  | with_reducible refine r_lcT ?_ | with_reducible refine r_lcL ?_ | with_reducible refine r_lcR ?_ | with_reducible refine r_yes ?_
  | (with_reducible refine r_LcTurn rfl ?_)
  | with_reducible refine r_dget2 ?_ | ((with_reducible apply r_DG2a); (walk_at "hp")) | ((with_reducible apply r_DG2); (walk_at "hp"))
  | with_reducible refine r_lcR2 ?_ | with_reducible refine r_forE ?_
  | with_reducible refine r_lcS ?_ | with_reducible refine r_revL ?_ | with_reducible refine r_inC ?_ | with_reducible refine r_notinC ?_
  | ((with_reducible apply r_eqNL); (walk_at "hs"); (walk_at "hs")) | ((with_reducible apply r_eqNT); (walk_at "hs"); (walk_at "hs"))
  | ((with_reducible apply r_neNL); (walk_at "hs"); (walk_at "hs")) | ((with_reducible apply r_neNT); (walk_at "hs"); (walk_at "hs"))
  | with_reducible refine r_sl ?_ | with_reducible refine r_noPart ?_ | with_reducible refine r_part ?_ | with_reducible refine r_partI ?_
  | with_reducible refine r_pcons ?_ | with_reducible refine r_pnil ?_ | with_reducible refine r_dget ?_
  | with_reducible refine ifT ?_ | with_reducible refine ifF ?_ | with_reducible refine ifnT ?_ | with_reducible refine ifnF ?_)
local macro_rules | `(tactic| walk_at "rds") => `(tactic| repeat (walk_at "rd1"))
local macro_rules | `(tactic| walk_at "rdj") => `(tactic| repeat (first | with_reducible refine r_seq ?_ | walk_at "rd1"))
local macro_rules | `(tactic| walk_at "rd") => `(tactic| repeat (first | with_reducible refine r_seq ?_ | walk_at "rd1" | with_reducible refine r_if ?_))
local macro_rules | `(tactic| walk_at "sc") => `(tactic| first
  | omega | decide
  | exact c_pow (by first | decide | omega) (by decide) (by decide)
  | exact c_div (by omega) (by omega)
  | exact c_mulL (by first | decide | omega) (by first | decide | omega)
  | exact c_mulR (by first | decide | omega) (by first | decide | omega))
local macro_rules | `(tactic| walk_at "sl") => `(tactic| ((try simp only [Str.length_append]); rw [sizeLine_eq]; omega))
local macro_rules | `(tactic| walk_at "sz") => `(tactic| ((try simp only [sizeLine_eq, List.length_append, List.length_map, List.length_cons, List.length_nil, Str.length_append]); omega))
section
variable {P : Program} {w : World} {K : PySem.W.Frag} {mg : Str → Option Value} {base : Heap}
abbrev sis_whole : Stmt := topS 18
abbrev Nis_whole : List Str := ["value", "least", "most"]
abbrev Pis_whole : List Str := ["value", "least", "most"]
theorem scis_whole : FnScope Nis_whole Pis_whole (defScope sis_whole) :=
  ⟨rfl, rfl, rfl, by decide +kernel, rfl, by decide +kernel, by decide +kernel⟩
theorem ok_is_whole (D : Df K mg "is_whole" sis_whole Pis_whole) (B : Blt mg) : Has P w K mg base CX0 "is_whole" Pis_whole 1 (spWhole K) := by
  refine D.has scis_whole (fun vs H Q E h => ?_) (fun f cdv A outer s H vs Q E hr h => ?_)
  · obtain ⟨v, d, lo, hi, rfl, _⟩ := h
    rfl
  obtain ⟨v, d, lo, hi, rfl, hd, k⟩ := h
  refine ⟨_, (pss_one (ps_ret (pe_and (pe_callB c_is2 (by rfl) B.isinstance (by decide +kernel) (pa_cons (pv 0) (pa_cons (pe_ty (T := "int") (by rfl) B.int (by decide +kernel)) pa_nil))) (pe_and (pe_not (pe_callB c_is2 (by rfl) B.isinstance (by decide +kernel) (pa_cons (pv 0) (pa_cons (pe_ty (T := "bool") (by rfl) B.bool (by decide +kernel)) pa_nil)))) (pe_one (pe_chain op_le op_le (pv 1) (pv 0) (pv 2))))))), ?_⟩
  cases d with
  | int i =>
    obtain rfl := hd.isInt
    walk_at "rd"
    have q : Q (.bl (decide (lo ≤ i) && decide (i ≤ hi))) H := k
    refine ifd (fun c => ?_) (fun c => ?_)
    · walk_at "rd"
      rw [decide_eq_true c, Bool.true_and] at q
      exact q
    · rw [decide_eq_false c, Bool.false_and] at q
      exact q
  | _ => walk_at "rd"; exact k
abbrev sis_word : Stmt := topS 19
abbrev Nis_word : List Str := ["value", "sign"]
abbrev Pis_word : List Str := ["value"]
theorem scis_word : FnScope Nis_word Pis_word (defScope sis_word) :=
  ⟨rfl, rfl, rfl, by decide +kernel, rfl, by decide +kernel, by decide +kernel⟩
theorem ok_is_word (D : Df K mg "is_word" sis_word Pis_word) (B : Blt mg) {t1 t2 t3 : Tok} (g_MAX_WORD : mg "MAX_WORD" = some (.int 8 t1)) (g_UNSURE : mg "UNSURE" = some (.str "unsure" t2)) (g_SIGNS : mg "SIGNS" = some (.str SGN t3)) :
    Has P w K mg base CX0 "is_word" Pis_word 1 (spAsk K isWord) := by
  refine D.has scis_word (fun vs H Q E h => ?_) (fun f cdv A outer s H vs Q E hr h => ?_)
  · obtain ⟨v, d, rfl, _⟩ := h
    rfl
  obtain ⟨v, d, rfl, hd, hz, k⟩ := h
  refine ⟨_, (pss_cons (ps_if (PW.pt (pw_or (pt_not (pt_val (pe_callB c_is2 (by rfl) B.isinstance (by decide +kernel) (pa_cons (pv 0) (pa_cons (pe_ty (T := "str") (by rfl) B.str (by decide +kernel)) pa_nil))))) (pw_or (pt_not (pt_chain op_le op_le pe_int (pe_callB c_len (by rfl) B.len (by decide +kernel) (pa_cons (pv 0) pa_nil)) (pe_gint (by rfl) g_MAX_WORD))) (pw_or1 (pt_cmpR op_eq (pv 0) (pe_gstr (by rfl) g_UNSURE) (nomark _)))))) (pss_one (ps_ret pe_bl))
        pss_nil)
      (pss_one (ps_ret (pe_cmpR (op_eqNil hr.h64) (pe_lc (own := [("sign", 1)]) (g := gName 1) (by rfl) scis_word.nd (pi_str (pv 0)) (blkOk_by (own := [("sign", 1)]) (N := Nis_word) (sc := defScope sis_word) (by decide +kernel)) (fun _ _ _ _ _ => (pg_name (i := 1) scis_word.nd rfl (Or.inl rfl))) (fun _ _ _ _ _ => (pts_one (pt_cmpR op_notinC (pv 1) (pe_gstr (by rfl) g_SIGNS) (by rfl)))) (fun _ _ _ _ _ => (pv 1))) (pe_lst pa_nil) (nomark _))))), ?_⟩
  cases d with
  | str x =>
    obtain rfl := hd.isStr
    rw [dsz] at hz
    change ∀ H', Kp [] H H' → Q (.bl (isWordS x)) H' at k
    have kf : isWordS x = false → Q (.bl false) H := fun e => by
      have q := k H Kp.nil
      rw [e] at q
      exact q
    walk_at "rd"
    rotate_left 1
    · walk_at "sz"
    refine ifd (fun c1 => ?_) (fun c1 => ?_)
    rotate_left 1
    · walk_at "rd"
      refine kf ?_
      unfold isWordS
      rw [decide_eq_false (by omega), Bool.false_and, Bool.false_and, Bool.false_and]
    walk_at "rd"
    refine ifn (fun c2 => ?_) (fun c2 => ?_)
    · walk_at "rd"
      refine kf ?_
      unfold isWordS
      rw [decide_eq_false (p := x.length ≤ 8) (by omega), Bool.and_false, Bool.false_and, Bool.false_and]
    walk_at "rd"
    refine ifd (fun c3 => ?_) (fun c3 => ?_)
    · walk_at "rd"
      refine kf ?_
      unfold isWordS
      cases c3
      rw [decide_eq_true (p := ("unsure" : Str) = "unsure") rfl, Bool.not_true, Bool.and_false, Bool.false_and]
    have c3 : x ≠ "unsure" := fun e => c3 (by rw [e])
    walk_at "rd"
    refine r_LcSf (f := fun c => !isSgn c) (i := 1) (by omega) (fun c H' R h => ?_) (fun c H' R h => ?_) (fun _ => rfl) fun p hp => ?_
    · walk_at "rd"
      exact h
    · walk_at "rd"
      exact h
    walk_at "rd"
    refine ⟨by decide, fun q hq => ?_⟩
    have e1 : upd (upd H p (.lst ((x.cps.toList.filter fun c => !isSgn c).map fun c => V.str ⟨#[c]⟩))) q (.lst []) p = some (.lst ((x.cps.toList.filter fun c => !isSgn c).map fun c => V.str ⟨#[c]⟩)) := by
      rw [upd_ne (Ne.symm (Ne.symm (ne_of_none upd_same hq)))]
      exact upd_same
    refine r_eqNL (SqL.of e1) (SqL.of upd_same) ?_
    have q := k _ ((Kp.nil.new hp).new (o := .lst []) hq)
    unfold isWordS at q
    rw [decide_eq_true (by omega), decide_eq_true (by omega), decide_eq_false c3, Bool.not_false, Bool.true_and, Bool.true_and, Bool.true_and] at q
    rw [List.isEmpty_map, filter_all]
    exact q
  | _ => walk_at "rd"; exact k _ Kp.nil
abbrev sis_name : Stmt := topS 20
abbrev Nis_name : List Str := ["value", "sign"]
abbrev Pis_name : List Str := ["value"]
theorem scis_name : FnScope Nis_name Pis_name (defScope sis_name) :=
  ⟨rfl, rfl, rfl, by decide +kernel, rfl, by decide +kernel, by decide +kernel⟩
theorem ok_is_name (D : Df K mg "is_name" sis_name Pis_name) (B : Blt mg) {t1 t2 t3 : Tok} (g_MAX_NAME : mg "MAX_NAME" = some (.int 8 t1)) (g_LETTERS : mg "LETTERS" = some (.str LETT t2)) {aK : Addr} (g_KEPT : mg "KEPT" = some (.ref aK)) (hK : ∀ H : Hp, SqT K H aK (KEPTS.map V.str)) (g_SIGNS : mg "SIGNS" = some (.str SGN t3)) :
    Has P w K mg base CX0 "is_name" Pis_name 1 (spAsk K isName) := by
  refine D.has scis_name (fun vs H Q E h => ?_) (fun f cdv A outer s H vs Q E hr h => ?_)
  · obtain ⟨v, d, rfl, _⟩ := h
    rfl
  obtain ⟨v, d, rfl, hd, hz, k⟩ := h
  refine ⟨_, (pss_cons (ps_if (PW.pt (pw_or (pt_not (pt_val (pe_callB c_is2 (by rfl) B.isinstance (by decide +kernel) (pa_cons (pv 0) (pa_cons (pe_ty (T := "str") (by rfl) B.str (by decide +kernel)) pa_nil))))) (pw_or (pt_not (pt_chain op_le op_le pe_int (pe_callB c_len (by rfl) B.len (by decide +kernel) (pa_cons (pv 0) pa_nil)) (pe_gint (by rfl) g_MAX_NAME))) (pw_or1 (pt_cmpR op_notinC (pe_ix ix_str (pv 0) pe_int (fun _ _ => rfl)) (pe_gstr (by rfl) g_LETTERS) (by rfl)))))) (pss_one (ps_ret pe_bl))
        pss_nil)
      (pss_one (ps_ret (pe_and (pe_cmpR (op_eqNil hr.h64) (pe_lc (own := [("sign", 1)]) (g := gName 1) (by rfl) scis_name.nd (pi_str (pv 0)) (blkOk_by (own := [("sign", 1)]) (N := Nis_name) (sc := defScope sis_name) (by decide +kernel)) (fun _ _ _ _ _ => (pg_name (i := 1) scis_name.nd rfl (Or.inl rfl))) (fun _ _ _ _ _ => (pts_one (pt_cmpR op_notinC (pv 1) (pe_gstr (by rfl) g_SIGNS) (by rfl)))) (fun _ _ _ _ _ => (pv 1))) (pe_lst pa_nil) (nomark _)) (pe_one (pe_cmpR op_notIn_seq (pv 0) (pe_gref (by rfl) g_KEPT) (by rfl))))))), ?_⟩
  cases d with
  | str x =>
    obtain rfl := hd.isStr
    rw [dsz] at hz
    change ∀ H', Kp [] H H' → Q (.bl (isNameS x)) H' at k
    have kf : isNameS x = false → Q (.bl false) H := fun e => by
      have q := k H Kp.nil
      rw [e] at q
      exact q
    walk_at "rd"
    rotate_left 1
    · walk_at "sz"
    refine ifd (fun c1 => ?_) (fun c1 => ?_)
    rotate_left 1
    · walk_at "rd"
      refine kf ?_
      unfold isNameS
      rw [decide_eq_false (by omega), Bool.false_and, Bool.false_and, Bool.false_and, Bool.false_and]
    walk_at "rd"
    refine ifn (fun c2 => ?_) (fun c2 => ?_)
    · walk_at "rd"
      refine kf ?_
      unfold isNameS
      rw [decide_eq_false (p := x.length ≤ 8) (by omega), Bool.and_false, Bool.false_and, Bool.false_and, Bool.false_and]
    walk_at "rd"
    have hne : x.cps.toList ≠ [] := fun e => by
      have q : x.cps.toList.length = x.length := by rw [Array.length_toList]; rfl
      rw [e, List.length_nil] at q
      omega
    obtain ⟨c0, cr, hc0⟩ := List.exists_cons_of_ne_nil hne
    have hat : atI x.cps.toList 0 = some c0 := at_nn (Int.le_refl 0) (by rw [hc0]; rfl)
    have hlet : x.cps.toList.headD 0 = c0 := by rw [hc0]; rfl
    refine r_ixS (by walk_at "sz") hat ?_
    walk_at "rd"
    refine ifn (fun c3 => ?_) (fun c3 => ?_)
    · walk_at "rd"
      refine kf ?_
      unfold isNameS isLet
      rw [hlet, decide_eq_false (p := c0 ∈ LETT.cps.toList) c3, Bool.and_false, Bool.false_and, Bool.false_and]
    walk_at "rd"
    refine r_LcSf (f := fun c => !isSgn c) (i := 1) (by omega) (fun c H' R h => ?_) (fun c H' R h => ?_) (fun _ => rfl) fun p hp => ?_
    · walk_at "rd"
      exact h
    · walk_at "rd"
      exact h
    walk_at "rd"
    refine ⟨by decide, fun q hq => ?_⟩
    have e1 : upd (upd H p (.lst ((x.cps.toList.filter fun c => !isSgn c).map fun c => V.str ⟨#[c]⟩))) q (.lst []) p = some (.lst ((x.cps.toList.filter fun c => !isSgn c).map fun c => V.str ⟨#[c]⟩)) := by
      rw [upd_ne (Ne.symm (Ne.symm (ne_of_none upd_same hq)))]
      exact upd_same
    refine r_eqNL (SqL.of e1) (SqL.of upd_same) ?_
    have q := k _ ((Kp.nil.new hp).new (o := .lst []) hq)
    unfold isNameS isLet at q
    rw [hlet, decide_eq_true (by omega), decide_eq_true (by omega), decide_eq_true c3, Bool.true_and, Bool.true_and, Bool.true_and] at q
    rw [List.isEmpty_map, filter_all]
    walk_at "rd"
    cases hall : x.cps.toList.all isSgn with
    | false =>
      rw [hall, Bool.false_and] at q
      walk_at "rd"
      exact q
    | true =>
      rw [hall, Bool.true_and] at q
      walk_at "rd"
      refine ⟨aK, _, rfl, .inr (hK _), rfl, by decide +kernel, ?_⟩
      rw [if_pos rfl, inV_strs]
      exact q
  | _ => walk_at "rd"; exact k _ Kp.nil
abbrev sis_expression : Stmt := topS 21
abbrev Nis_expression : List Str := ["value", "left"]
abbrev Pis_expression : List Str := ["value", "left"]
theorem scis_expression : FnScope Nis_expression Pis_expression (defScope sis_expression) :=
  ⟨rfl, rfl, rfl, by decide +kernel, rfl, by decide +kernel, by decide +kernel⟩
theorem ok_is_expression1 (D : Df K mg "is_expression" sis_expression Pis_expression) (B : Blt mg) {n lv : Nat} {sp2 : Sp} {t1 t2 : Tok} (hlv : 1 ≤ lv)
    (g_MOST_NUMBER : mg "MOST_NUMBER" = some (.int 99 t1)) (g_MOST_FACTOR : mg "MOST_FACTOR" = some (.int 9 t2))
    (Gis_whole : Has P w K mg base CX0 "is_whole" ["value", "least", "most"] 1 (spWhole K)) (Gis_name : Has P w K mg base CX0 "is_name" ["value"] 1 (spAsk K isName))
    (Gis_expression : Has P w K mg base CX0 "is_expression" Pis_expression lv sp2) (hs : ∀ m, n = m + 1 → sp2 = spAskN K isExpr m) :
    Has P w K mg base CX0 "is_expression" Pis_expression (lv + 1) (spAskN K isExpr n) := by
  refine D.has scis_expression (fun vs H Q E h => ?_) (fun f cdv A outer s H vs Q E hr h => ?_)
  · obtain ⟨v, d, rfl, _⟩ := h
    rfl
  obtain ⟨v, d, rfl, hd, hz, k⟩ := h
  refine ⟨_, (pss_cons (ps_if (pt_cmpR op_eq (pv 1) pe_int (nomark _)) (pss_one (ps_ret pe_bl))
        pss_nil)
      (pss_cons (ps_if (pt_not (pt_val (pe_callB c_is2 (by rfl) B.isinstance (by decide +kernel) (pa_cons (pv 0) (pa_cons (pe_ty (T := "tuple") (by rfl) B.tuple (by decide +kernel)) pa_nil))))) (pss_one (ps_ret (pe_or (pe_f Gis_name (hr.mono (by omega)) (by rfl) pass0 (pa_cons (pv 0) pa_nil)) (pe_one (pe_f Gis_whole (hr.mono (by omega)) (by rfl) pass0 (pa_cons (pv 0) (pa_cons (pe_op op_sub pe_int (pe_gint (by rfl) g_MOST_NUMBER)) (pa_cons (pe_gint (by rfl) g_MOST_NUMBER) pa_nil))))))))
        pss_nil)
      (pss_cons (ps_if (PW.pt (pw_or (pt_cmpR op_ne (pe_callB c_len (by rfl) B.len (by decide +kernel) (pa_cons (pv 0) pa_nil)) pe_int (nomark _)) (pw_or (pt_not (pt_val (pe_callB c_is2 (by rfl) B.isinstance (by decide +kernel) (pa_cons (pe_ix ix_tup (pv 0) pe_int (fun _ _ => rfl)) (pa_cons (pe_ty (T := "str") (by rfl) B.str (by decide +kernel)) pa_nil))))) (pw_or1 (pt_not (pt_val (pe_f Gis_expression (hr.mono (by omega)) (by rfl) pass0 (pa_cons (pe_ix ix_tup (pv 0) pe_int (fun _ _ => rfl)) (pa_cons (pe_op op_sub (pv 1) pe_int) pa_nil))))))))) (pss_one (ps_ret pe_bl))
        pss_nil)
      (pss_cons (ps_if (pt_cmpR op_eq (pe_ix ix_tup (pv 0) pe_int (fun _ _ => rfl)) pe_str (nomark _)) (pss_one (ps_ret (pe_f Gis_whole (hr.mono (by omega)) (by rfl) pass0 (pa_cons (pe_ix ix_tup (pv 0) pe_int (fun _ _ => rfl)) (pa_cons (pe_op op_sub pe_int (pe_gint (by rfl) g_MOST_FACTOR)) (pa_cons (pe_gint (by rfl) g_MOST_FACTOR) pa_nil))))))
        pss_nil)
      (pss_one (ps_ret (pe_and (pe_cmpR op_in_seq (pe_ix ix_tup (pv 0) pe_int (fun _ _ => rfl)) (pe_tup (pa_cons pe_str (pa_cons pe_str pa_nil))) (by rfl)) (pe_one (pe_f Gis_expression (hr.mono (by omega)) (by rfl) pass0 (pa_cons (pe_ix ix_tup (pv 0) pe_int (fun _ _ => rfl)) (pa_cons (pe_op op_sub (pv 1) pe_int) pa_nil))))))))))), ?_⟩
  walk_at "rd"
  refine ifd (fun c => ?_) (fun c => ?_)
  · obtain rfl : n = 0 := by
      have q := V.int.inj c
      omega
    walk_at "rd"
    exact k _ Kp.nil
  obtain ⟨m, rfl⟩ : ∃ m, n = m + 1 := ⟨n - 1, by
    have q : n ≠ 0 := fun e => c (by rw [e]; rfl)
    omega⟩
  obtain rfl := hs m rfl
  have em : ((m + 1 : Nat) : Int) - 1 = (m : Int) := by omega
  cases d with
  | tuple ds =>
    obtain ⟨a, xs, rfl, hT, hL⟩ := hd.items
    rw [dsz] at hz
    change ∀ H', Kp [] H H' → Q (.bl (isExprL (isExpr m) ds)) H' at k
    walk_at "rd"
    refine ifn (fun c1 => ?_) (fun c1 => ?_)
    · walk_at "rd"
      have q := k _ Kp.nil
      rw [isExprL_len (fun e => c1 (by rw [hL.len, e]; rfl))] at q
      exact q
    have c1 : xs.length = 3 := by
      have q := V.int.inj c1
      omega
    obtain ⟨x, y, z, d0, d1, d2, rfl, rfl, h0, h1, h2⟩ := hL.is3 c1
    simp only [dszs] at hz
    walk_at "rd"
    cases hx : isaD d0 "str" with
    | false =>
      walk_at "rd"
      have q := k _ Kp.nil
      rw [isExprL_str hx] at q
      exact q
    | true =>
      obtain ⟨u, rfl⟩ := isStr_of hx
      obtain rfl := h0.isStr
      walk_at "rd"
      refine ⟨z, d2, by rw [em]; rfl, h2, by omega, fun H1 k1 => ?_⟩
      have hT1 := sqT_kp k1 hT
      cases he : isExpr m d2 with
      | false =>
        walk_at "rd"
        have q := k _ k1
        rw [isExprL, he, Bool.false_and] at q
        exact q
      | true =>
        rw [isExprL, he, Bool.true_and] at k
        walk_at "rd"
        refine ifd (fun c2 => ?_) (fun c2 => ?_)
        · walk_at "rd"
          refine ⟨y, d1, _, _, rfl, h1.kp0 k1, ?_⟩
          have q := k _ k1
          rw [if_pos (V.str.inj c2)] at q
          exact q
        have c2 : u ≠ "times" := fun e => c2 (by rw [e])
        simp only [if_neg c2] at k
        walk_at "rd"
        refine ⟨by decide, fun p hp => ?_⟩
        have k2 : Kp [] H (upd H1 p (.tup [.str "plus", .str "minus"])) := k1.new hp
        refine r_in (.inr (SqT.of upd_same)) rfl rfl ?_
        have e2 : inV (.str u) [.str "plus", .str "minus"] = (decide (u = "plus") || decide (u = "minus")) := inV_two u "plus" "minus"
        rw [e2]
        walk_at "rd"
        cases he2 : (decide (u = "plus") || decide (u = "minus")) with
        | false =>
          walk_at "rd"
          have q := k _ k2
          rw [he2, Bool.false_and] at q
          exact q
        | true =>
          have hT2 := sqT_kp k2 hT
          rw [he2, Bool.true_and] at k
          walk_at "rd"
          refine ⟨y, d1, by rw [em]; rfl, h1.kp0 k2, by omega, fun H3 k3 => ?_⟩
          exact k _ (k2.trans k3)
  | _ =>
    walk_at "rd"
    refine ⟨v, _, rfl, hd, hz, fun H1 k1 => ?_⟩
    have hd1 := hd.kp0 k1
    have q := k _ k1
    rw [isExpr, isExprW] at q
    · cases hN : isName _ with
      | true =>
        rw [hN, Bool.true_or] at q
        walk_at "rd"
        exact q
      | false =>
        rw [hN, Bool.false_or] at q
        walk_at "rd"
        exact ⟨v, _, _, _, rfl, hd1, q⟩
    · intro ds e
      cases e
abbrev sis_rest : Stmt := topS 22
abbrev Nis_rest : List Str := ["value"]
abbrev Pis_rest : List Str := ["value"]
theorem scis_rest : FnScope Nis_rest Pis_rest (defScope sis_rest) :=
  ⟨rfl, rfl, rfl, by decide +kernel, rfl, by decide +kernel, by decide +kernel⟩
theorem ok_is_rest (D : Df K mg "is_rest" sis_rest Pis_rest) (B : Blt mg) {lv : Nat} {t1 t2 : Tok} (hlv : 1 ≤ lv)
    (g_MAX_DEEP : mg "MAX_DEEP" = some (.int 3 t1)) (g_MAX_BY : mg "MAX_BY" = some (.int 6 t2))
    (Gis_whole : Has P w K mg base CX0 "is_whole" ["value", "least", "most"] 1 (spWhole K))
    (Gis_expression : Has P w K mg base CX0 "is_expression" ["value", "left"] lv (spAskN K isExpr 3)) :
    Has P w K mg base CX0 "is_rest" Pis_rest (lv + 1) (spAskL K isRestL) := by
  refine D.has scis_rest (fun vs H Q E h => ?_) (fun f cdv A outer s H vs Q E hr h => ?_)
  · obtain ⟨v, ds, rfl, _⟩ := h
    rfl
  obtain ⟨v, ds, rfl, hd, hz, k⟩ := h
  refine ⟨_, (pss_cons (ps_if (PW.pt (pw_or (pt_cmpR op_ne (pe_callB c_len (by rfl) B.len (by decide +kernel) (pa_cons (pv 0) pa_nil)) pe_int (nomark _)) (pw_or (pt_not (pt_val (pe_f Gis_expression (hr.mono (by omega)) (by rfl) pass0 (pa_cons (pe_ix ix_tup (pv 0) pe_int (fun _ _ => rfl)) (pa_cons (pe_gint (by rfl) g_MAX_DEEP) pa_nil))))) (pw_or1 (pt_not (pt_val (pe_f Gis_whole (hr.mono (by omega)) (by rfl) pass0 (pa_cons (pe_ix ix_tup (pv 0) pe_int (fun _ _ => rfl)) (pa_cons pe_int (pa_cons (pe_gint (by rfl) g_MAX_BY) pa_nil)))))))))) (pss_one (ps_ret pe_bl))
        pss_nil)
      (pss_one (ps_ret (pe_f Gis_whole (hr.mono (by omega)) (by rfl) pass0 (pa_cons (pe_ix ix_tup (pv 0) pe_int (fun _ _ => rfl)) (pa_cons pe_int (pa_cons (pe_op op_sub (pe_ix ix_tup (pv 0) pe_int (fun _ _ => rfl)) pe_int) pa_nil))))))), ?_⟩
  obtain ⟨a, xs, rfl, hT, hL⟩ := hd.items
  walk_at "rd"
  refine ifn (fun c1 => ?_) (fun c1 => ?_)
  · walk_at "rd"
    have q := k _ Kp.nil
    rw [isRestL_len (fun e => c1 (by rw [hL.len, e]; rfl))] at q
    exact q
  have c1 : xs.length = 4 := by
    have q := V.int.inj c1
    omega
  obtain ⟨x, y, z, u, d0, d1, d2, d3, rfl, rfl, h0, h1, h2, h3⟩ := hL.is4 c1
  simp only [dszs] at hz
  rw [isRestL4] at k
  walk_at "rd"
  refine ⟨y, d1, rfl, h1, by omega, fun H1 k1 => ?_⟩
  have hT1 := sqT_kp k1 hT
  cases he : isExpr 3 d1 with
  | false =>
    walk_at "rd"
    have q := k _ k1
    rw [he, Bool.false_and] at q
    exact q
  | true =>
    rw [he, Bool.true_and] at k
    walk_at "rd"
    refine ⟨z, d2, _, _, rfl, h2.kp0 k1, ?_⟩
    cases hw : isWhole 2 6 d2 with
    | false =>
      walk_at "rd"
      have q := k _ k1
      rw [hw, Bool.false_and] at q
      exact q
    | true =>
      rw [hw, Bool.true_and] at k
      obtain ⟨i, rfl, i1, i2⟩ := whole_view hw
      obtain rfl := h2.isInt
      walk_at "rd"
      exact ⟨u, d3, _, _, rfl, h3.kp0 k1, k _ k1⟩
abbrev sis_test : Stmt := topS 23
abbrev Nis_test : List Str := ["value", "nots"]
abbrev Pis_test : List Str := ["value", "nots"]
theorem scis_test : FnScope Nis_test Pis_test (defScope sis_test) :=
  ⟨rfl, rfl, rfl, by decide +kernel, rfl, by decide +kernel, by decide +kernel⟩
theorem ok_is_test1 (D : Df K mg "is_test" sis_test Pis_test) (B : Blt mg) {n lv : Nat} {sp2 : Sp} {t1 : Tok} (hlv : 6 ≤ lv)
    (g_MAX_DEEP : mg "MAX_DEEP" = some (.int 3 t1)) (Gis_rest : Has P w K mg base CX0 "is_rest" ["value"] 6 (spAskL K isRestL))
    (Gis_name : Has P w K mg base CX0 "is_name" ["value"] 1 (spAsk K isName)) (Gis_expression : Has P w K mg base CX0 "is_expression" ["value", "left"] 5 (spAskN K isExpr 3))
    (Gis_test : Has P w K mg base CX0 "is_test" Pis_test lv sp2) (hs : ∀ m, n = m + 1 → sp2 = spAskN K isTest m) :
    Has P w K mg base CX0 "is_test" Pis_test (lv + 1) (spAskN K isTest n) := by
  refine D.has scis_test (fun vs H Q E h => ?_) (fun f cdv A outer s H vs Q E hr h => ?_)
  · obtain ⟨v, d, rfl, _⟩ := h
    rfl
  obtain ⟨v, d, rfl, hd, hz, k⟩ := h
  refine ⟨_, (pss_cons (ps_if (PW.pt (pw_or (pt_not (pt_val (pe_callB c_is2 (by rfl) B.isinstance (by decide +kernel) (pa_cons (pv 0) (pa_cons (pe_ty (T := "tuple") (by rfl) B.tuple (by decide +kernel)) pa_nil))))) (pw_or (pt_cmpR op_eq (pe_callB c_len (by rfl) B.len (by decide +kernel) (pa_cons (pv 0) pa_nil)) pe_int (nomark _)) (pw_or1 (pt_not (pt_val (pe_callB c_is2 (by rfl) B.isinstance (by decide +kernel) (pa_cons (pe_ix ix_tup (pv 0) pe_int (fun _ _ => rfl)) (pa_cons (pe_ty (T := "str") (by rfl) B.str (by decide +kernel)) pa_nil))))))))) (pss_one (ps_ret pe_bl))
        pss_nil)
      (pss_cons (ps_if (pt_cmpR op_eq (pe_ix ix_tup (pv 0) pe_int (fun _ _ => rfl)) pe_str (nomark _)) (pss_one (ps_ret (pe_and (pe_cmpR op_eq (pe_callB c_len (by rfl) B.len (by decide +kernel) (pa_cons (pv 0) pa_nil)) pe_int (nomark _)) (pe_and (pe_f Gis_expression (hr.mono (by omega)) (by rfl) pass0 (pa_cons (pe_ix ix_tup (pv 0) pe_int (fun _ _ => rfl)) (pa_cons (pe_gint (by rfl) g_MAX_DEEP) pa_nil))) (pe_one (pe_f Gis_expression (hr.mono (by omega)) (by rfl) pass0 (pa_cons (pe_ix ix_tup (pv 0) pe_int (fun _ _ => rfl)) (pa_cons (pe_gint (by rfl) g_MAX_DEEP) pa_nil))))))))
        pss_nil)
      (pss_cons (ps_if (pt_cmpR op_eq (pe_ix ix_tup (pv 0) pe_int (fun _ _ => rfl)) pe_str (nomark _)) (pss_one (ps_ret (pe_f Gis_rest (hr.mono (by omega)) (by rfl) pass0 (pa_cons (pv 0) pa_nil))))
        pss_nil)
      (pss_cons (ps_if (pt_cmpR op_eq (pe_ix ix_tup (pv 0) pe_int (fun _ _ => rfl)) pe_str (nomark _)) (pss_one (ps_ret (pe_and (pe_cmpR op_eq (pe_callB c_len (by rfl) B.len (by decide +kernel) (pa_cons (pv 0) pa_nil)) pe_int (nomark _)) (pe_one (pe_f Gis_name (hr.mono (by omega)) (by rfl) pass0 (pa_cons (pe_ix ix_tup (pv 0) pe_int (fun _ _ => rfl)) pa_nil))))))
        pss_nil)
      (pss_one (ps_ret (pe_and (pe_cmpR op_eq (pe_ix ix_tup (pv 0) pe_int (fun _ _ => rfl)) pe_str (nomark _)) (pe_and (pe_cmpR op_eq (pe_callB c_len (by rfl) B.len (by decide +kernel) (pa_cons (pv 0) pa_nil)) pe_int (nomark _)) (pe_and (pe_cmpR op_gt (pv 1) pe_int (nomark _)) (pe_one (pe_f Gis_test (hr.mono (by omega)) (by rfl) pass0 (pa_cons (pe_ix ix_tup (pv 0) pe_int (fun _ _ => rfl)) (pa_cons (pe_op op_sub (pv 1) pe_int) pa_nil))))))))))))), ?_⟩
  obtain ⟨F, hF, hF2⟩ : ∃ F : PyData → Bool, isTest n d = isTestW F d ∧ ((n = 0 ∧ F = fun _ => false) ∨ ∃ m, n = m + 1 ∧ F = isTest m) := isTest_F n d
  rw [hF] at k
  cases d with
  | tuple ds =>
    obtain ⟨a, xs, rfl, hT, hL⟩ := hd.items
    rw [dsz] at hz
    cases ds with
    | nil =>
      obtain rfl := hL.inv0
      walk_at "rd"
      exact k _ Kp.nil
    | cons d0 r =>
      obtain ⟨x, ys, rfl, h0, hR⟩ := hL.inv
      rw [dszs] at hz
      have hlen := hR.len
      walk_at "rd"
      refine ifd (fun c => ?_) (fun _ => ?_)
      · have q := V.int.inj c
        rw [List.length_cons] at q
        omega
      have hx0 : atI (x :: ys) 0 = some x := at_nn (Int.le_refl 0) rfl
      walk_at "rd"
      cases hx : isaD d0 "str" with
      | false =>
        walk_at "rd"
        have q := k _ Kp.nil
        rw [isTestW_str hx] at q
        exact q
      | true =>
        obtain ⟨u, rfl⟩ := isStr_of hx
        obtain rfl := h0.isStr
        change ∀ H', Kp [] H H' → Q (.bl (isTestL F u r)) H' at k
        unfold isTestL at k
        walk_at "rd"
        refine ifd (fun c1 => ?_) (fun c1 => ?_)
        · simp only [if_pos (V.str.inj c1)] at k
          walk_at "rd"
          refine ifd (fun c2 => ?_) (fun c2 => ?_)
          rotate_left 1
          · have q := k _ Kp.nil
            rw [two_len (fun e => c2 (by rw [List.length_cons, hlen, e]; rfl))] at q
            exact q
          have c2 : ys.length = 2 := by
            have q := V.int.inj c2
            rw [List.length_cons] at q
            omega
          obtain ⟨y, z, d1, d2, rfl, rfl, h1, h2⟩ := hR.is2 c2
          simp only [dszs] at hz
          simp only [two] at k
          walk_at "rd"
          refine ⟨y, d1, rfl, h1, by omega, fun H1 k1 => ?_⟩
          have hT1 := sqT_kp k1 hT
          cases he : isExpr 3 d1 with
          | false =>
            walk_at "rd"
            have q := k _ k1
            rw [he, Bool.false_and] at q
            exact q
          | true =>
            rw [he] at k
            simp only [Bool.true_and] at k
            walk_at "rd"
            exact ⟨z, d2, rfl, h2.kp0 k1, by omega, fun H2 k2 => k _ (k1.trans k2)⟩
        have c1 : u ≠ "less" := fun e => c1 (by rw [e])
        simp only [if_neg c1] at k
        walk_at "rd"
        refine ifd (fun c2 => ?_) (fun c2 => ?_)
        · simp only [if_pos (V.str.inj c2)] at k
          walk_at "rd"
          exact ⟨_, _, rfl, hd, by rw [dszs]; omega, k⟩
        have c2 : u ≠ "rest" := fun e => c2 (by rw [e])
        simp only [if_neg c2] at k
        walk_at "rd"
        refine ifd (fun c3 => ?_) (fun c3 => ?_)
        · simp only [if_pos (V.str.inj c3)] at k
          walk_at "rd"
          refine ifd (fun c4 => ?_) (fun c4 => ?_)
          rotate_left 1
          · have q := k _ Kp.nil
            rw [one_len (fun e => c4 (by rw [List.length_cons, hlen, e]; rfl))] at q
            exact q
          have c4 : ys.length = 1 := by
            have q := V.int.inj c4
            rw [List.length_cons] at q
            omega
          obtain ⟨y, d1, rfl, rfl, h1⟩ := hR.is1 c4
          simp only [dszs] at hz
          walk_at "rd"
          exact ⟨y, d1, rfl, h1, by omega, k⟩
        have c3 : u ≠ "given" := fun e => c3 (by rw [e])
        simp only [if_neg c3] at k
        walk_at "rd"
        refine ifd (fun c4 => ?_) (fun c4 => ?_)
        rotate_left 1
        · have c4 : u ≠ "not" := fun e => c4 (by rw [e])
          simp only [if_neg c4] at k
          exact k _ Kp.nil
        simp only [if_pos (V.str.inj c4)] at k
        walk_at "rd"
        refine ifd (fun c5 => ?_) (fun c5 => ?_)
        rotate_left 1
        · have q := k _ Kp.nil
          rw [one_len (fun e => c5 (by rw [List.length_cons, hlen, e]; rfl))] at q
          exact q
        have c5 : ys.length = 1 := by
          have q := V.int.inj c5
          rw [List.length_cons] at q
          omega
        obtain ⟨y, d1, rfl, rfl, h1⟩ := hR.is1 c5
        simp only [dszs] at hz
        walk_at "rd"
        refine ifd (fun c6 => ?_) (fun c6 => ?_)
        rotate_left 1
        · rcases hF2 with ⟨rfl, rfl⟩ | ⟨m, rfl, _⟩
          · exact k _ Kp.nil
          · omega
        rcases hF2 with ⟨rfl, rfl⟩ | ⟨m, rfl, rfl⟩
        · omega
        obtain rfl := hs m rfl
        have em : ((m + 1 : Nat) : Int) - 1 = (m : Int) := by omega
        walk_at "rd"
        exact ⟨y, d1, by rw [em]; rfl, h1, by omega, k⟩
  | _ => walk_at "rd"; exact k _ Kp.nil
abbrev sis_plain : Stmt := topS 24
abbrev Nis_plain : List Str := ["value"]
abbrev Pis_plain : List Str := ["value"]
theorem scis_plain : FnScope Nis_plain Pis_plain (defScope sis_plain) :=
  ⟨rfl, rfl, rfl, by decide +kernel, rfl, by decide +kernel, by decide +kernel⟩
theorem ok_is_plain (D : Df K mg "is_plain" sis_plain Pis_plain) (B : Blt mg) {t1 : Tok}
    (g_MAX_DEEP : mg "MAX_DEEP" = some (.int 3 t1)) (Gis_word : Has P w K mg base CX0 "is_word" ["value"] 1 (spAsk K isWord))
    (Gis_name : Has P w K mg base CX0 "is_name" ["value"] 1 (spAsk K isName)) (Gis_expression : Has P w K mg base CX0 "is_expression" ["value", "left"] 5 (spAskN K isExpr 3)) :
    Has P w K mg base CX0 "is_plain" Pis_plain 6 (spAskT K isPlainL) := by
  refine D.has scis_plain (fun vs H Q E h => ?_) (fun f cdv A outer s H vs Q E hr h => ?_)
  · obtain ⟨v, w, r, rfl, _⟩ := h
    rfl
  obtain ⟨v, u, r, rfl, hd, hz, k⟩ := h
  refine ⟨_, (pss_cons (ps_if (pt_cmpR op_eq (pe_ix ix_tup (pv 0) pe_int (fun _ _ => rfl)) pe_str (nomark _)) (pss_one (ps_ret (pe_and (pe_cmpR op_eq (pe_callB c_len (by rfl) B.len (by decide +kernel) (pa_cons (pv 0) pa_nil)) pe_int (nomark _)) (pe_and (pe_f Gis_name (hr.mono (by omega)) (by rfl) pass0 (pa_cons (pe_ix ix_tup (pv 0) pe_int (fun _ _ => rfl)) pa_nil)) (pe_one (pe_f Gis_expression (hr.mono (by omega)) (by rfl) pass0 (pa_cons (pe_ix ix_tup (pv 0) pe_int (fun _ _ => rfl)) (pa_cons (pe_gint (by rfl) g_MAX_DEEP) pa_nil))))))))
        pss_nil)
      (pss_cons (ps_if (pt_cmpR op_eq (pe_ix ix_tup (pv 0) pe_int (fun _ _ => rfl)) pe_str (nomark _)) (pss_one (ps_ret (pe_and (pe_cmpR op_eq (pe_callB c_len (by rfl) B.len (by decide +kernel) (pa_cons (pv 0) pa_nil)) pe_int (nomark _)) (pe_one (pe_f Gis_name (hr.mono (by omega)) (by rfl) pass0 (pa_cons (pe_ix ix_tup (pv 0) pe_int (fun _ _ => rfl)) pa_nil))))))
        pss_nil)
      (pss_cons (ps_if (pt_cmpR op_eq (pe_ix ix_tup (pv 0) pe_int (fun _ _ => rfl)) pe_str (nomark _)) (pss_one (ps_ret (pe_and (pe_cmpR op_eq (pe_callB c_len (by rfl) B.len (by decide +kernel) (pa_cons (pv 0) pa_nil)) pe_int (nomark _)) (pe_one (pe_f Gis_expression (hr.mono (by omega)) (by rfl) pass0 (pa_cons (pe_ix ix_tup (pv 0) pe_int (fun _ _ => rfl)) (pa_cons (pe_gint (by rfl) g_MAX_DEEP) pa_nil)))))))
        pss_nil)
      (pss_one (ps_ret (pe_and (pe_cmpR op_in_seq (pe_ix ix_tup (pv 0) pe_int (fun _ _ => rfl)) (pe_tup (pa_cons pe_str (pa_cons pe_str pa_nil))) (by rfl)) (pe_and (pe_cmpR op_eq (pe_callB c_len (by rfl) B.len (by decide +kernel) (pa_cons (pv 0) pa_nil)) pe_int (nomark _)) (pe_one (pe_f Gis_word (hr.mono (by omega)) (by rfl) pass0 (pa_cons (pe_ix ix_tup (pv 0) pe_int (fun _ _ => rfl)) pa_nil)))))))))), ?_⟩
  obtain ⟨a, xs, rfl, hT, hL⟩ := hd.items
  obtain ⟨x, ys, rfl, h0, hR⟩ := hL.inv
  obtain rfl := h0.isStr
  have hlen := hR.len
  have hx0 : atI (V.str u :: ys) 0 = some (V.str u) := at_nn (Int.le_refl 0) rfl
  unfold isPlainL at k
  walk_at "rd"
  refine ifd (fun c1 => ?_) (fun c1 => ?_)
  · simp only [if_pos (V.str.inj c1)] at k
    walk_at "rd"
    refine ifd (fun c2 => ?_) (fun c2 => ?_)
    rotate_left 1
    · have q := k _ Kp.nil
      rw [two_len (fun e => c2 (by rw [List.length_cons, hlen, e]; rfl))] at q
      exact q
    have c2 : ys.length = 2 := by
      have q := V.int.inj c2
      rw [List.length_cons] at q
      omega
    obtain ⟨y, z, d1, d2, rfl, rfl, h1, h2⟩ := hR.is2 c2
    simp only [dszs] at hz
    simp only [two] at k
    walk_at "rd"
    refine ⟨y, d1, rfl, h1, by omega, fun H1 k1 => ?_⟩
    have hT1 := sqT_kp k1 hT
    cases he : isName d1 with
    | false =>
      walk_at "rd"
      have q := k _ k1
      rw [he, Bool.false_and] at q
      exact q
    | true =>
      rw [he] at k
      simp only [Bool.true_and] at k
      walk_at "rd"
      exact ⟨z, d2, rfl, h2.kp0 k1, by omega, fun H2 k2 => k _ (k1.trans k2)⟩
  have c1 : u ≠ "set" := fun e => c1 (by rw [e])
  simp only [if_neg c1] at k
  walk_at "rd"
  refine ifd (fun c3 => ?_) (fun c3 => ?_)
  · simp only [if_pos (V.str.inj c3)] at k
    walk_at "rd"
    refine ifd (fun c4 => ?_) (fun c4 => ?_)
    rotate_left 1
    · have q := k _ Kp.nil
      rw [one_len (fun e => c4 (by rw [List.length_cons, hlen, e]; rfl))] at q
      exact q
    have c4 : ys.length = 1 := by
      have q := V.int.inj c4
      rw [List.length_cons] at q
      omega
    obtain ⟨y, d1, rfl, rfl, h1⟩ := hR.is1 c4
    simp only [dszs] at hz
    walk_at "rd"
    exact ⟨y, d1, rfl, h1, by omega, k⟩
  have c3 : u ≠ "unset" := fun e => c3 (by rw [e])
  simp only [if_neg c3] at k
  walk_at "rd"
  refine ifd (fun c5 => ?_) (fun c5 => ?_)
  · simp only [if_pos (V.str.inj c5)] at k
    walk_at "rd"
    refine ifd (fun c4 => ?_) (fun c4 => ?_)
    rotate_left 1
    · have q := k _ Kp.nil
      rw [one_len (fun e => c4 (by rw [List.length_cons, hlen, e]; rfl))] at q
      exact q
    have c4 : ys.length = 1 := by
      have q := V.int.inj c4
      rw [List.length_cons] at q
      omega
    obtain ⟨y, d1, rfl, rfl, h1⟩ := hR.is1 c4
    simp only [dszs] at hz
    walk_at "rd"
    exact ⟨y, d1, rfl, h1, by omega, k⟩
  have c5 : u ≠ "tell" := fun e => c5 (by rw [e])
  simp only [if_neg c5] at k
  walk_at "rd"
  refine ⟨by decide, fun p hp => ?_⟩
  have k2 : Kp [] H (upd H p (.tup [.str "say", .str "stop"])) := Kp.nil.new hp
  have hT2 := sqT_kp k2 hT
  refine r_in (.inr (SqT.of upd_same)) rfl rfl ?_
  rw [inV_two u "say" "stop"]
  generalize upd H p (.tup [.str "say", .str "stop"]) = H2 at k2 hT2 ⊢
  cases he2 : (decide (u = "say") || decide (u = "stop")) with
  | false =>
    walk_at "rd"
    have q := k _ k2
    rw [if_neg (by intro e; rw [Bool.or_eq_false_iff, decide_eq_false_iff_not, decide_eq_false_iff_not] at he2; exact e.elim he2.1 he2.2)] at q
    exact q
  | true =>
    rw [Bool.or_eq_true, decide_eq_true_eq, decide_eq_true_eq] at he2
    simp only [if_pos he2] at k
    walk_at "rd"
    refine ifd (fun c4 => ?_) (fun c4 => ?_)
    rotate_left 1
    · have q := k _ k2
      rw [one_len (fun e => c4 (by rw [List.length_cons, hlen, e]; rfl))] at q
      exact q
    have c4 : ys.length = 1 := by
      have q := V.int.inj c4
      rw [List.length_cons] at q
      omega
    obtain ⟨y, d1, rfl, rfl, h1⟩ := hR.is1 c4
    simp only [dszs] at hz
    walk_at "rd"
    exact ⟨y, d1, rfl, h1.kp0 k2, by omega, fun H3 k3 => k _ (k2.trans k3)⟩
abbrev sis_statement : Stmt := topS 25
abbrev Nis_statement : List Str := ["value"]
abbrev Pis_statement : List Str := ["value"]
theorem scis_statement : FnScope Nis_statement Pis_statement (defScope sis_statement) :=
  ⟨rfl, rfl, rfl, by decide +kernel, rfl, by decide +kernel, by decide +kernel⟩
theorem ok_is_statement (D : Df K mg "is_statement" sis_statement Pis_statement) (B : Blt mg) {t1 t2 : Tok}
    (g_MAX_NOTS : mg "MAX_NOTS" = some (.int 2 t1)) (g_MAX_TIMES : mg "MAX_TIMES" = some (.int 8 t2)) (Gis_whole : Has P w K mg base CX0 "is_whole" ["value", "least", "most"] 1 (spWhole K))
    (Gis_test : Has P w K mg base CX0 "is_test" ["value", "nots"] 9 (spAskN K isTest 2)) (Gis_plain : Has P w K mg base CX0 "is_plain" ["value"] 6 (spAskT K isPlainL)) :
    Has P w K mg base CX0 "is_statement" Pis_statement 10 (spAsk K isStmt) := by
  refine D.has scis_statement (fun vs H Q E h => ?_) (fun f cdv A outer s H vs Q E hr h => ?_)
  · obtain ⟨v, d, rfl, _⟩ := h
    rfl
  obtain ⟨v, d, rfl, hd, hz, k⟩ := h
  refine ⟨_, (pss_cons (ps_if (PW.pt (pw_or (pt_not (pt_val (pe_callB c_is2 (by rfl) B.isinstance (by decide +kernel) (pa_cons (pv 0) (pa_cons (pe_ty (T := "tuple") (by rfl) B.tuple (by decide +kernel)) pa_nil))))) (pw_or (pt_cmpR op_eq (pe_callB c_len (by rfl) B.len (by decide +kernel) (pa_cons (pv 0) pa_nil)) pe_int (nomark _)) (pw_or1 (pt_not (pt_val (pe_callB c_is2 (by rfl) B.isinstance (by decide +kernel) (pa_cons (pe_ix ix_tup (pv 0) pe_int (fun _ _ => rfl)) (pa_cons (pe_ty (T := "str") (by rfl) B.str (by decide +kernel)) pa_nil))))))))) (pss_one (ps_ret pe_bl))
        pss_nil)
      (pss_cons (ps_if (pt_cmpR op_eq (pe_ix ix_tup (pv 0) pe_int (fun _ _ => rfl)) pe_str (nomark _)) (pss_cons (ps_if (PW.pt (pw_or (pt_cmpR op_ne (pe_callB c_len (by rfl) B.len (by decide +kernel) (pa_cons (pv 0) pa_nil)) pe_int (nomark _)) (pw_or1 (pt_not (pt_val (pe_f Gis_test (hr.mono (by omega)) (by rfl) pass0 (pa_cons (pe_ix ix_tup (pv 0) pe_int (fun _ _ => rfl)) (pa_cons (pe_gint (by rfl) g_MAX_NOTS) pa_nil)))))))) (pss_one (ps_ret pe_bl))
        pss_nil)
      (pss_one (ps_ret (pe_and (pe_callB c_is2 (by rfl) B.isinstance (by decide +kernel) (pa_cons (pe_ix ix_tup (pv 0) pe_int (fun _ _ => rfl)) (pa_cons (pe_ty (T := "tuple") (by rfl) B.tuple (by decide +kernel)) pa_nil))) (pe_one (pe_callB c_is2 (by rfl) B.isinstance (by decide +kernel) (pa_cons (pe_ix ix_tup (pv 0) pe_int (fun _ _ => rfl)) (pa_cons (pe_ty (T := "tuple") (by rfl) B.tuple (by decide +kernel)) pa_nil))))))))
        pss_nil)
      (pss_cons (ps_if (pt_cmpR op_eq (pe_ix ix_tup (pv 0) pe_int (fun _ _ => rfl)) pe_str (nomark _)) (pss_one (ps_ret (pe_and (pe_cmpR op_eq (pe_callB c_len (by rfl) B.len (by decide +kernel) (pa_cons (pv 0) pa_nil)) pe_int (nomark _)) (pe_and (pe_f Gis_whole (hr.mono (by omega)) (by rfl) pass0 (pa_cons (pe_ix ix_tup (pv 0) pe_int (fun _ _ => rfl)) (pa_cons pe_int (pa_cons (pe_gint (by rfl) g_MAX_TIMES) pa_nil)))) (pe_one (pe_callB c_is2 (by rfl) B.isinstance (by decide +kernel) (pa_cons (pe_ix ix_tup (pv 0) pe_int (fun _ _ => rfl)) (pa_cons (pe_ty (T := "tuple") (by rfl) B.tuple (by decide +kernel)) pa_nil))))))))
        pss_nil)
      (pss_one (ps_ret (pe_f Gis_plain (hr.mono (by omega)) (by rfl) pass0 (pa_cons (pv 0) pa_nil))))))), ?_⟩
  cases d with
  | tuple ds =>
    obtain ⟨a, xs, rfl, hT, hL⟩ := hd.items
    rw [dsz] at hz
    cases ds with
    | nil =>
      obtain rfl := hL.inv0
      walk_at "rd"
      exact k _ Kp.nil
    | cons d0 r =>
      obtain ⟨x, ys, rfl, h0, hR⟩ := hL.inv
      rw [dszs] at hz
      have hlen := hR.len
      walk_at "rd"
      refine ifd (fun c => ?_) (fun _ => ?_)
      · have q := V.int.inj c
        rw [List.length_cons] at q
        omega
      have hx0 : atI (x :: ys) 0 = some x := at_nn (Int.le_refl 0) rfl
      walk_at "rd"
      cases hx : isaD d0 "str" with
      | false =>
        walk_at "rd"
        have q := k _ Kp.nil
        rw [isStmt_str hx] at q
        exact q
      | true =>
        obtain ⟨u, rfl⟩ := isStr_of hx
        obtain rfl := h0.isStr
        change ∀ H', Kp [] H H' → Q (.bl (isStmtL u r)) H' at k
        unfold isStmtL at k
        walk_at "rd"
        refine ifd (fun c1 => ?_) (fun c1 => ?_)
        · simp only [if_pos (V.str.inj c1)] at k
          walk_at "rd"
          refine ifn (fun c2 => ?_) (fun c2 => ?_)
          · walk_at "rd"
            have q := k _ Kp.nil
            rw [three_len (fun e => c2 (by rw [List.length_cons, hlen, e]; rfl))] at q
            exact q
          have c2 : ys.length = 3 := by
            have q := V.int.inj c2
            rw [List.length_cons] at q
            omega
          obtain ⟨x1, x2, x3, d1, d2, d3, rfl, rfl, h1, h2, h3⟩ := hR.is3 c2
          simp only [dszs] at hz
          simp only [three] at k
          walk_at "rd"
          refine ⟨x1, d1, rfl, h1, by omega, fun H1 k1 => ?_⟩
          have hT1 := sqT_kp k1 hT
          have h2 := h2.kp0 k1
          have h3 := h3.kp0 k1
          cases he : isTest 2 d1 with
          | false =>
            walk_at "rd"
            have q := k _ k1
            rw [he, Bool.false_and] at q
            exact q
          | true =>
            rw [he] at k
            simp only [Bool.true_and] at k
            rw [← isa_tup, ← isa_tup] at k
            have q := k _ k1
            walk_at "rd"
            refine r_is2 h2 (by decide) ?_
            cases ht : isaD d2 "tuple" with
            | false =>
              rw [ht, Bool.false_and] at q
              walk_at "rd"
              exact q
            | true =>
              rw [ht, Bool.true_and] at q
              walk_at "rd"
              exact r_is2 h3 (by decide) q
        have c1 : u ≠ "if" := fun e => c1 (by rw [e])
        simp only [if_neg c1] at k
        walk_at "rd"
        refine ifd (fun c2 => ?_) (fun c2 => ?_)
        · simp only [if_pos (V.str.inj c2)] at k
          walk_at "rd"
          refine ifd (fun c4 => ?_) (fun c4 => ?_)
          rotate_left 1
          · have q := k _ Kp.nil
            rw [two_len (fun e => c4 (by rw [List.length_cons, hlen, e]; rfl))] at q
            exact q
          have c4 : ys.length = 2 := by
            have q := V.int.inj c4
            rw [List.length_cons] at q
            omega
          obtain ⟨x1, x2, d1, d2, rfl, rfl, h1, h2⟩ := hR.is2 c4
          simp only [dszs] at hz
          simp only [two] at k
          have q := k _ Kp.nil
          walk_at "rd"
          refine ⟨x1, d1, _, _, rfl, h1, ?_⟩
          cases he : isWhole 0 8 d1 with
          | false =>
            rw [he, Bool.false_and] at q
            walk_at "rd"
            exact q
          | true =>
            rw [he, Bool.true_and, ← isa_tup] at q
            walk_at "rd"
            exact r_is2 h2 (by decide) q
        have c2 : u ≠ "repeat" := fun e => c2 (by rw [e])
        simp only [if_neg c2] at k
        walk_at "rd"
        exact ⟨_, u, r, rfl, hd, by omega, k⟩
  | _ => walk_at "rd"; exact k _ Kp.nil
abbrev sblocks_of : Stmt := topS 26
abbrev Nblocks_of : List Str := ["statement"]
abbrev Pblocks_of : List Str := ["statement"]
theorem scblocks_of : FnScope Nblocks_of Pblocks_of (defScope sblocks_of) :=
  ⟨rfl, rfl, rfl, by decide +kernel, rfl, by decide +kernel, by decide +kernel⟩
theorem ok_blocks_of (D : Df K mg "blocks_of" sblocks_of Pblocks_of) (B : Blt mg) : Has P w K mg base CX0 "blocks_of" Pblocks_of 1 (spBlocks K) := by
  refine D.has scblocks_of (fun vs H Q E h => ?_) (fun f cdv A outer s H vs Q E hr h => ?_)
  · obtain ⟨M, v, d, rfl, _⟩ := h
    rfl
  obtain ⟨M, v, d, rfl, hd, hs, k⟩ := h
  refine ⟨_, (pss_cons (ps_if (pt_cmpR op_eq (pe_ix ix_tup (pv 0) pe_int (fun _ _ => rfl)) pe_str (nomark _)) (pss_one (ps_ret (pe_lst (pa_cons (pe_ix ix_tup (pv 0) pe_int (fun _ _ => rfl)) (pa_cons (pe_ix ix_tup (pv 0) pe_int (fun _ _ => rfl)) pa_nil)))))
        pss_nil)
      (pss_one (ps_ret (pe_ifExp (pt_cmpR op_eq (pe_ix ix_tup (pv 0) pe_int (fun _ _ => rfl)) pe_str (nomark _)) (pe_lst (pa_cons (pe_ix ix_tup (pv 0) pe_int (fun _ _ => rfl)) pa_nil)) (pe_lst pa_nil))))), ?_⟩
  rcases stmt_view hs with ⟨p, rfl, hp, hb⟩ | ⟨t, y, z, rfl, ht, hb⟩ | ⟨n, b, rfl, k1, k2, hb⟩
  · obtain ⟨u, r, e, n1, n2⟩ := Pl.hd p
    rw [hb] at k
    rw [e] at hd
    obtain ⟨a, xs, rfl, hT, hL⟩ := hd.items
    obtain ⟨x, ys, rfl, h0, hR⟩ := hL.inv
    obtain rfl := h0.isStr
    have hx0 : atI (V.str u :: ys) 0 = some (V.str u) := at_nn (Int.le_refl 0) rfl
    walk_at "rd"
    refine ifd (fun c => absurd (V.str.inj c) n1) fun _ => ?_
    walk_at "rd"
    refine ifd (fun c => absurd (V.str.inj c) n2) fun _ => ?_
    walk_at "rd"
    exact ⟨by decide, fun p hp => k _ p [] hp (Kp.nil.new hp) upd_same DwL.nil⟩
  · rw [hb] at k
    obtain ⟨a, xs, rfl, hT, hL⟩ := hd.items
    obtain ⟨x0, x1, x2, x3, d0, d1, d2, d3, rfl, e, h0, h1, h2, h3⟩ := hL.is4 hL.len
    cases e
    obtain rfl := h0.isStr
    walk_at "rd"
    refine ⟨by walk_at "sz", fun p hp => ?_⟩
    have k1 : Kp [] H (upd H p (.lst [x2, x3])) := Kp.nil.new hp
    exact k _ p [x2, x3] hp k1 upd_same (DwL.cons (h2.kp0 k1) (DwL.cons (h3.kp0 k1) DwL.nil))
  · rw [hb] at k
    obtain ⟨a, xs, rfl, hT, hL⟩ := hd.items
    obtain ⟨x0, x1, x2, d0, d1, d2, rfl, e, h0, h1, h2⟩ := hL.is3 hL.len
    cases e
    obtain rfl := h0.isStr
    walk_at "rd"
    refine ⟨by walk_at "sz", fun p hp => ?_⟩
    have k1 : Kp [] H (upd H p (.lst [x2])) := Kp.nil.new hp
    exact k _ p [x2] hp k1 upd_same (DwL.cons (h2.kp0 k1) DwL.nil)
abbrev sitems_within : Stmt := topS 27
abbrev Nitems_within : List Str := ["statement", "depth", "found", "block", "item"]
abbrev Pitems_within : List Str := ["statement", "depth"]
theorem scitems_within : FnScope Nitems_within Pitems_within (defScope sitems_within) :=
  ⟨rfl, rfl, rfl, by decide +kernel, rfl, by decide +kernel, by decide +kernel⟩
theorem ok_items_within (D : Df K mg "items_within" sitems_within Pitems_within) (B : Blt mg) (Gblocks_of : Has P w K mg base CX0 "blocks_of" ["statement"] 1 (spBlocks K)) :
    Has P w K mg base CX0 "items_within" Pitems_within 2 (spItems K) := by
  refine D.has scitems_within (fun vs H Q E h => ?_) (fun f cdv A outer s H vs Q E hr h => ?_)
  · obtain ⟨M, v, d, n, rfl, _⟩ := h
    rfl
  obtain ⟨M, v, d, n, rfl, hd, hs, hz, k⟩ := h
  refine ⟨_, (pss_cons (ps_set (i := 2) scitems_within.nd rfl (Or.inl rfl) (pe_lst pa_nil))
      (pss_cons (ps_for PassesOwn.never rfl (pi_list (pe_f Gblocks_of (hr.mono (by omega)) (by rfl) pass0 (pa_cons (pv 0) pa_nil))) (pg_name (i := 3) scitems_within.nd rfl (Or.inl rfl))
        (pss_one (ps_expr (pe_bm PySem.F.plainAttrs_list PySem.F.slot_list_extend PySem.F.type_list_extend mt_extend (pv 2) (pa_cons (pe_lc (own := [("item", 4)]) (g := gName 4) (by rfl) scitems_within.nd (pi_tup (pv 3)) (blkOk_by (own := [("item", 4)]) (N := Nitems_within) (sc := defScope sitems_within) (by decide +kernel)) (fun _ _ _ _ _ => (pg_name (i := 4) scitems_within.nd rfl (Or.inl rfl))) (fun _ _ _ _ _ => pts_nil) (fun _ _ _ _ _ => (pe_tup (pa_cons (pe_op op_add (pv 1) pe_int) (pa_cons (pv 4) pa_nil))))) pa_nil)))))
      (pss_one (ps_ret (pe_revL (pv 2)))))), ?_⟩
  walk_at "rd"
  refine ⟨by decide, fun p hp => ?_⟩
  have k1 : Kp [] H (upd H p (.lst [])) := Kp.nil.new hp
  have hp1 : upd H p (.lst []) p = some (.lst []) := upd_same
  have hd1 : Dw (p :: M) K (upd H p (.lst [])) v d := (hd.fresh hp).kp0 k1
  generalize upd H p (.lst []) = H1 at k1 hp1 hd1 ⊢
  walk_at "rd"
  refine ⟨p :: M, v, d, rfl, hd1, hs, fun H2 b xs hb k2 hb2 hL => ?_⟩
  have hp2 := k2.get hp1 (by simp)
  have hbp : b ≠ p := Ne.symm (ne_of_none hp1 hb)
  refine r_ForL (xs := xs) (SqL.of hb2) (fun i σ H' => ∃ (us : List V) (bx ix : Option V), σ = [some v, some (.int n), some (.ref p), bx, ix] ∧ Kp [] H H' ∧ H' b = some (.lst xs) ∧
      DwL (p :: M) K H' xs ((blks d).map PyData.tuple) ∧ H' p = some (.lst us) ∧ Stk (p :: M) K H' us ((((blks d).take i).flatten).map fun e => (n + 1, e)))
    ⟨[], none, none, rfl, k1.trans k2, hb2, hL, hp2, Stk.nil⟩ (fun i σ H' ⟨us, bx, ix, _, _, q, _⟩ => SqL.of q) ?_ ?_
  · rintro i x σ H3 hx ⟨us, bx, ix, rfl, k3, hb3, hL3, hp3, hS3⟩
    obtain ⟨dd, hdd, hxd⟩ := hL3.get hx
    rw [List.getElem?_map] at hdd
    obtain ⟨bl, hbl, rfl⟩ := Option.map_eq_some_iff.mp hdd
    obtain ⟨a, ys, rfl, hT, hY⟩ := hxd.items
    have hsz := inner_size d
    have hfl : (((blks d).take i).flatten) ++ bl ++ ((blks d).drop (i + 1)).flatten = inner d := by
      unfold inner
      have q : (blks d).take i ++ bl :: (blks d).drop (i + 1) = blks d := by
        obtain ⟨hi, hbe⟩ := List.getElem?_eq_some_iff.mp hbl
        rw [← hbe, ← List.drop_eq_getElem_cons hi, List.take_append_drop]
      conv => rhs; rw [← q]
      rw [List.flatten_append, List.flatten_cons, List.append_assoc]
    have hlen := dszs_len (inner d)
    have hle : (((blks d).take i).flatten).length + bl.length ≤ (inner d).length := by
      rw [← hfl, List.length_append, List.length_append]
      omega
    walk_at "rd"
    refine lc_stk (n := n + 1) hT hY (by omega) (fun y H' R hR => ?_) (fun _ => rfl) fun q H4 ws hq k4 hq4 hS4 => ?_
    · walk_at "rd"
      exact ⟨by walk_at "sz", hR⟩
    have hp4 := k4.get hp3 (by simp)
    have hb4 := k4.get hb3 (by simp)
    have hqp : q ≠ p := Ne.symm (ne_of_none hp3 hq)
    have l1 : us.length = (((blks d).take i).flatten).length := by rw [hS3.len, List.length_map]
    have l2 : ws.length = bl.length := by rw [hS4.len, List.length_map]
    walk_at "rd"
    · have k5 := kpW (o := .lst (us ++ ws)) hp4
      have sub : ∀ b ∈ [p], b ∈ p :: M := fun b hb => by rw [List.mem_singleton.mp hb]; exact List.mem_cons_self ..
      refine ⟨us ++ ws, _, _, rfl, (k3.trans k4).own hp, k5.get hb4 (by simp [hbp]), (hL3.kp0 k4).kpS k5 sub, upd_same, ?_⟩
      have htk : (blks d).take (i + 1) = (blks d).take i ++ [bl] := by rw [List.take_add_one, hbl]; rfl
      rw [htk, List.flatten_append, List.flatten_cons, List.flatten_nil, List.append_nil, List.map_append]
      exact ((hS3.kp0 k4).kpS k5 sub).app (hS4.kpS k5 sub)
    · rw [sizeLine_eq]
      omega
  · rintro σ H3 ⟨us, bx, ix, rfl, k3, hb3, hL3, hp3, hS3⟩
    walk_at "rd"
    refine r_RevL (SqL.of hp3) fun q hq => ?_
    have k4 : Kp [] H3 (upd H3 q (.lst us.reverse)) := Kp.nil.new hq
    have hx := hL3.len
    rw [List.length_map] at hx
    rw [hx, List.take_length] at hS3
    refine k _ q us.reverse ?_ (k3.trans k4) upd_same ((hS3.kp0 k4).sub fun b hb => List.mem_cons_of_mem _ hb).rev
    exact k3.free (fun b hb => by cases hb) hq
abbrev srows_of : Stmt := topS 28
abbrev Nrows_of : List Str := ["program", "left", "found", "item", "depth", "statement"]
abbrev Prows_of : List Str := ["program"]
theorem scrows_of : FnScope Nrows_of Prows_of (defScope srows_of) :=
  ⟨rfl, rfl, rfl, by decide +kernel, rfl, by decide +kernel, by decide +kernel⟩
theorem ok_rows_of (D : Df K mg "rows_of" srows_of Prows_of) (B : Blt mg) (Gitems_within : Has P w K mg base CX0 "items_within" ["statement", "depth"] 2 (spItems K)) :
    Has P w K mg base CX0 "rows_of" Prows_of 3 (spRows K) := by
  refine D.has scrows_of (fun vs H Q E h => ?_) (fun f cdv A outer s H vs Q E hr h => ?_)
  · obtain ⟨M, v, p, rfl, _⟩ := h
    rfl
  obtain ⟨M, v, p, rfl, hd, hv, hz, k⟩ := h
  refine ⟨_, (pss_cons (ps_par (i := 1) (j := 2) (by rfl) scrows_of.nd rfl rfl (by decide) rfl rfl (pa_cons (pe_revL (pe_lc (own := [("item", 3)]) (g := gName 3) (by rfl) scrows_of.nd (pi_tup (pv 0)) (blkOk_by (own := [("item", 3)]) (N := Nrows_of) (sc := defScope srows_of) (by decide +kernel)) (fun _ _ _ _ _ => (pg_name (i := 3) scrows_of.nd rfl (Or.inl rfl))) (fun _ _ _ _ _ => pts_nil) (fun _ _ _ _ _ => (pe_tup (pa_cons pe_int (pa_cons (pv 3) pa_nil)))))) (pa_cons (pe_lst pa_nil) pa_nil)) (by rfl))
      (pss_cons (ps_while PassesOwn.never (pt_cmpR (op_neNil hr.h64) (pv 1) (pe_lst pa_nil) (nomark _)) (pss_cons (ps_asg (pe_bm0 PySem.F.plainAttrs_list PySem.F.slot_list_pop PySem.F.type_list_pop mt_pop (pv 1)) (pg_tup rfl (pgs_cons (pg_name (i := 4) scrows_of.nd rfl (Or.inl rfl)) (pgs_cons (pg_name (i := 5) scrows_of.nd rfl (Or.inl rfl)) pgs_nil))))
      (pss_cons (ps_expr (pe_bm PySem.F.plainAttrs_list PySem.F.slot_list_append PySem.F.type_list_append mt_append (pv 2) (pa_cons (pe_tup (pa_cons (pv 4) (pa_cons (pv 5) pa_nil))) pa_nil)))
      (pss_one (ps_expr (pe_bm PySem.F.plainAttrs_list PySem.F.slot_list_extend PySem.F.type_list_extend mt_extend (pv 1) (pa_cons (pe_f Gitems_within (hr.mono (by omega)) (by rfl) pass0 (pa_cons (pv 5) (pa_cons (pv 4) pa_nil))) pa_nil)))))))
      (pss_one (ps_ret (pv 2))))), ?_⟩
  obtain ⟨a, xs, rfl, hT, hL⟩ := hd.items
  have hlen := dszs_len (Sm.ds p)
  walk_at "rd"
  refine lc_stk (n := 0) hT hL (by omega) (fun y H' R hR => ?_) (fun _ => rfl) fun q0 H1 us hq0 k1 hq1 hS1 => ?_
  · walk_at "rd"
    exact ⟨by walk_at "sz", hR⟩
  refine r_RevL (SqL.of hq1) fun l hl => ?_
  have k2 : Kp [] H (upd H1 l (.lst us.reverse)) := k1.new hl
  have hl2 : upd H1 l (.lst us.reverse) l = some (.lst us.reverse) := upd_same
  have S2 : Stk (l :: M) K (upd H1 l (.lst us.reverse)) us.reverse (((Sm.ds p).map fun e => (0, e)).reverse) := ((hS1.fresh hl).kp0 (Kp.nil.new hl)).rev
  have hl0 : H l = none := k1.free (fun b hb => by cases hb) hl
  generalize upd H1 l (.lst us.reverse) = H2 at k2 hl2 S2 ⊢
  walk_at "rd"
  refine ⟨by decide, fun g hg => ?_⟩
  have k2' : Kp [] H2 (upd H2 g (.lst [])) := Kp.nil.new hg
  have k3 := k2.trans k2'
  have hl3 := k2'.get hl2 (by simp)
  have hg3 : upd H2 g (.lst []) g = some (.lst []) := upd_same
  have S3 := (S2.fresh hg).kp0 k2'
  have hg0 : H g = none := k2.free (fun b hb => by cases hb) hg
  have hgl : g ≠ l := Ne.symm (ne_of_none hl2 hg)
  generalize upd H2 g (.lst []) = H3 at k3 hl3 hg3 S3 ⊢
  walk_at "rd"
  have hN0 : (Sm.rowsL 0 p).length ≤ dszs (Sm.ds p) := by
    rw [Sm.rowsL_len]
    exact Sm.sizes_dszs p
  refine r_while (fun m σ H' => ∃ (us gs : List V) (T : List (Nat × Sm)) (dn : List (Nat × PyData)) (ix dx sx : Option V), σ = [some (.ref a), some (.ref l), some (.ref g), ix, dx, sx] ∧ Kp [] H H' ∧ H' l = some (.lst us) ∧ H' g = some (.lst gs) ∧
      Stk (g :: l :: M) K H' us (dT T).reverse ∧ Stk (g :: l :: M) K H' gs dn ∧ dn ++ rowsT T = Sm.rowsL 0 p ∧ (∀ q ∈ T, ∃ n, Sm.vd n q.2) ∧ stSize (dT T) = m ∧ m ≤ 1000000) (dszs (Sm.ds p))
    ⟨_, [], p.map fun s => (0, s), [], none, none, none, rfl, k3, hl3, hg3, by rw [dT_map]; exact S3, Stk.nil, by rw [rowsT_map]; rfl, fun q hq => ?_, by rw [dT_map]; exact stSize_map _ _, hz⟩ ?_
  · obtain ⟨s, hs, rfl⟩ := List.mem_map.mp hq
    exact hv s hs
  rintro m σ H4 ⟨us, gs, T, dn, ix, dx, sx, rfl, k4, hl4, hg4, S4, G4, hrow, hvT, hm, hmz⟩
  walk_at "rd"
  refine ⟨by decide, fun q hq => ?_⟩
  have kq : Kp [] H4 (upd H4 q (.lst [])) := Kp.nil.new hq
  have hl5 := kq.get hl4 (by simp)
  have hg5 := kq.get hg4 (by simp)
  have S5 := S4.kp0 kq
  have G5 := G4.kp0 kq
  refine r_neNL (SqL.of hl5) (SqL.of upd_same) ?_
  have k5 := k4.trans kq
  generalize upd H4 q (.lst []) = H5 at k5 hl5 hg5 S5 G5 ⊢
  cases T with
  | nil =>
    have e : us = [] := List.length_eq_zero_iff.mp S5.len
    subst e
    have he0 : (!([] : List V).isEmpty) = false := rfl
    rw [he0]
    walk_at "rd"
    refine k _ g gs hg0 k5 hg5 ?_
    have e2 : dn = Sm.rowsL 0 p := by
      rw [← hrow]
      exact (List.append_nil _).symm
    rw [← e2]
    exact G5.sub fun b hb => List.mem_cons_of_mem _ (List.mem_cons_of_mem _ hb)
  | cons z T =>
    obtain ⟨dep, sm⟩ := z
    have eT : dT ((dep, sm) :: T) = (dep, sm.d) :: dT T := rfl
    rw [eT, List.reverse_cons] at S5
    rw [eT, stSize_cons] at hm
    obtain ⟨us', b, y, rfl, S6, hb, hy⟩ := S5.last
    obtain ⟨nv, hsv⟩ := hvT (dep, sm) (List.mem_cons_self ..)
    obtain ⟨hst, hin, hkids⟩ := hsv.is
    have hdp := dsz_pos sm.d
    have hisz := inner_size sm.d
    have he : (!(us' ++ [V.ref b]).isEmpty) = true := by cases us' <;> rfl
    rw [he]
    walk_at "rd"
    refine r_turn ?_
    walk_at "rd"
    refine r_pop hl5 ?_
    have sl : ∀ b ∈ [l], b ∈ g :: l :: M := fun b hb => by rw [List.mem_singleton.mp hb]; exact List.mem_cons_of_mem _ (List.mem_cons_self ..)
    have sg : ∀ b ∈ [g], b ∈ g :: l :: M := fun b hb => by rw [List.mem_singleton.mp hb]; exact List.mem_cons_self ..
    have k6 := kpW (o := .lst us') hl5
    have k6' : Kp [] H (upd H5 l (.lst us')) := k5.own hl0
    have hb6 := k6.tup hb
    have S7 := S6.kpS k6 sl
    have G7 := G5.kpS k6 sl
    have hy6 := hy.kpS k6 sl
    have hl6 : upd H5 l (.lst us') l = some (.lst us') := upd_same
    have hg6 := k6.get hg5 (by simp [hgl])
    generalize upd H5 l (.lst us') = H6 at k6 k6' hb6 S7 G7 hy6 hl6 hg6 ⊢
    walk_at "rd"
    refine ⟨by walk_at "sz", fun t ht => ?_⟩
    have k7 : Kp [] H6 (upd H6 t (.tup [.int dep, y])) := Kp.nil.new ht
    have hg7 := k7.get hg6 (by simp)
    have hl7 := k7.get hl6 (by simp)
    have ht7 : upd H6 t (.tup [.int dep, y]) t = some (.tup [.int dep, y]) := upd_same
    have hy7 := hy6.kp0 k7
    have S8 := S7.kp0 k7
    have G8 := G7.kp0 k7
    have k7' := k6'.trans k7
    generalize upd H6 t (.tup [.int dep, y]) = H7 at k7 k7' hg7 hl7 ht7 hy7 S8 G8 ⊢
    have hgl2 : gs.length < (Sm.rowsL 0 p).length := by
      rw [G8.len, ← hrow, List.length_append]
      have q1 : 1 ≤ (rowsT ((dep, sm) :: T)).length := by
        unfold rowsT
        rw [List.flatMap_cons, Sm.rows_kids]
        simp
      omega
    walk_at "rd"
    rotate_left 1
    · rw [sizeLine_eq]
      omega
    have k8 := kpW (o := .lst (gs ++ [V.ref t])) hg7
    have k8' : Kp [] H (upd H7 g (.lst (gs ++ [V.ref t]))) := k7'.own hg0
    have hl8 := k8.get hl7 (by simp [Ne.symm hgl])
    have hg8 : upd H7 g (.lst (gs ++ [V.ref t])) g = some (.lst (gs ++ [V.ref t])) := upd_same
    have S9 := S8.kpS k8 sg
    have G9 := (G8.kpS k8 sg).app (Stk.one (p := (dep, sm.d)) (k8.tup ht7) (hy7.kpS k8 sg))
    have hy8 := hy7.kpS k8 sg
    generalize upd H7 g (.lst (gs ++ [V.ref t])) = H8 at k8 k8' hl8 hg8 S9 G9 hy8 ⊢
    refine ⟨g :: l :: M, y, sm.d, dep, rfl, hy8, hst, by omega, fun H9 r ws hr' k9 hr9 S10 => ?_⟩
    have hl9 := k9.get hl8 (by simp)
    have hg9 := k9.get hg8 (by simp)
    have hrl : r ≠ l := Ne.symm (ne_of_none hl8 hr')
    have w1 : ws.length = (inner sm.d).length := by rw [S10.len, List.length_reverse, List.length_map]
    have w2 : us'.length = (dT T).length := by rw [S7.len, List.length_reverse]
    have w3 := dszs_len (inner sm.d)
    have w4 : (dT T).length ≤ stSize (dT T) := by
      unfold stSize
      have := dszs_len ((dT T).map (·.2))
      rwa [List.length_map] at this
    walk_at "rd"
    · have k10 := kpW (o := .lst (us' ++ ws)) hl9
      have eD : dT (sm.kids.map (fun s => (dep + 1, s)) ++ T) = (inner sm.d).map (fun e => (dep + 1, e)) ++ dT T := by
        rw [hin, ← dT_map]
        unfold dT
        rw [List.map_append]
      refine ⟨dszs (inner sm.d) + stSize (dT T), by omega, us' ++ ws, gs ++ [V.ref t], sm.kids.map (fun s => (dep + 1, s)) ++ T, dn ++ [(dep, sm.d)], _, _, _, rfl, (k8'.trans k9).own hl0, upd_same,
        k10.get hg9 (by simp [hgl]), ?_, ((G9.kp0 k9).kpS k10 sl), ?_, ?_, ?_, by omega⟩
      · rw [eD, List.reverse_append]
        exact ((S9.kp0 k9).kpS k10 sl).app (S10.kpS k10 sl)
      · rw [← hrow]
        unfold rowsT
        rw [List.flatMap_append, List.flatMap_cons, Sm.rows_kids]
        have q := rowsT_map (dep + 1) sm.kids
        unfold rowsT at q
        rw [q]
        simp
      · intro q hq
        rcases List.mem_append.mp hq with hq | hq
        · obtain ⟨c, hc, rfl⟩ := List.mem_map.mp hq
          obtain ⟨m, hm, _⟩ := hkids c hc
          exact ⟨m, hm⟩
        · exact hvT q (List.mem_cons_of_mem _ hq)
      · rw [eD, stSize_app, stSize_map]
    · rw [sizeLine_eq]
      omega
abbrev sorder_error : Stmt := topS 29
abbrev Norder_error : List Str := ["value", "left", "place", "item", "depth"]
abbrev Porder_error : List Str := ["value"]
theorem scorder_error : FnScope Norder_error Porder_error (defScope sorder_error) :=
  ⟨rfl, rfl, rfl, by decide +kernel, rfl, by decide +kernel, by decide +kernel⟩
theorem ok_order_error (D : Df K mg "order_error" sorder_error Porder_error) (B : Blt mg) {t1 : Tok} (g_MAX_NEST : mg "MAX_NEST" = some (.int 3 t1))
    (Gis_statement : Has P w K mg base CX0 "is_statement" ["value"] 10 (spAsk K isStmt)) (Gitems_within : Has P w K mg base CX0 "items_within" ["statement", "depth"] 2 (spItems K)) :
    Has P w K mg base CX0 "order_error" Porder_error 11 (spOrder K) := by
  refine D.has scorder_error (fun vs H Q E h => ?_) (fun f cdv A outer s H vs Q E hr h => ?_)
  · obtain ⟨v, ds, rfl, _⟩ := h
    rfl
  obtain ⟨v, ds, rfl, hd, hz, k⟩ := h
  refine ⟨_, (pss_cons (ps_par (i := 1) (j := 2) (by rfl) scorder_error.nd rfl rfl (by decide) rfl rfl (pa_cons (pe_revL (pe_lc (own := [("item", 3)]) (g := gName 3) (by rfl) scorder_error.nd (pi_tup (pv 0)) (blkOk_by (own := [("item", 3)]) (N := Norder_error) (sc := defScope sorder_error) (by decide +kernel)) (fun _ _ _ _ _ => (pg_name (i := 3) scorder_error.nd rfl (Or.inl rfl))) (fun _ _ _ _ _ => pts_nil) (fun _ _ _ _ _ => (pe_tup (pa_cons pe_int (pa_cons (pv 3) pa_nil)))))) (pa_cons pe_int pa_nil)) (by rfl))
      (pss_cons (ps_while PassesOwn.never (pt_cmpR (op_neNil hr.h64) (pv 1) (pe_lst pa_nil) (nomark _)) (pss_cons (ps_asg (pe_bm0 PySem.F.plainAttrs_list PySem.F.slot_list_pop PySem.F.type_list_pop mt_pop (pv 1)) (pg_tup rfl (pgs_cons (pg_name (i := 4) scorder_error.nd rfl (Or.inl rfl)) (pgs_cons (pg_name (i := 3) scorder_error.nd rfl (Or.inl rfl)) pgs_nil))))
      (pss_cons (ps_if (pt_cmpR op_gt (pv 4) (pe_gint (by rfl) g_MAX_NEST) (nomark _)) (pss_one (ps_ret (pe_tup (pa_cons (pv 2) (pa_cons pe_str pa_nil)))))
        pss_nil)
      (pss_cons (ps_if (pt_not (pt_val (pe_f Gis_statement (hr.mono (by omega)) (by rfl) pass0 (pa_cons (pv 3) pa_nil)))) (pss_one (ps_ret (pe_tup (pa_cons (pv 2) (pa_cons pe_str pa_nil)))))
        pss_nil)
      (pss_cons (ps_expr (pe_bm PySem.F.plainAttrs_list PySem.F.slot_list_extend PySem.F.type_list_extend mt_extend (pv 1) (pa_cons (pe_f Gitems_within (hr.mono (by omega)) (by rfl) pass0 (pa_cons (pv 3) (pa_cons (pv 4) pa_nil))) pa_nil)))
      (pss_one (ps_aug (i := 2) scorder_error.nd rfl (.inl rfl) pe_int ip_add)))))))
      (pss_one (ps_ret pe_non)))), ?_⟩
  obtain ⟨a, xs, rfl, hT, hL⟩ := hd.items
  have hlen := dszs_len ds
  walk_at "rd"
  refine lc_stk (n := 0) hT hL (by omega) (fun y H' R hR => ?_) (fun _ => rfl) fun q0 H1 us hq0 k1 hq1 hS1 => ?_
  · walk_at "rd"
    exact ⟨by walk_at "sz", hR⟩
  refine r_RevL (SqL.of hq1) fun l hl => ?_
  have k2 : Kp [] H (upd H1 l (.lst us.reverse)) := k1.new hl
  have hl2 : upd H1 l (.lst us.reverse) l = some (.lst us.reverse) := upd_same
  have S2 : Stk [l] K (upd H1 l (.lst us.reverse)) us.reverse ((ds.map fun e => (0, e)).reverse) := ((hS1.fresh hl).kp0 (Kp.nil.new hl)).rev
  have hl0 : H l = none := k1.free (fun b hb => by cases hb) hl
  generalize upd H1 l (.lst us.reverse) = H2 at k2 hl2 S2 ⊢
  walk_at "rd"
  refine r_while (fun m σ H' => ∃ (us : List V) (st : List (Nat × PyData)) (pl : Nat) (ix dx : Option V), σ = [some (.ref a), some (.ref l), some (.int pl), ix, dx] ∧ Kp [] H H' ∧ H' l = some (.lst us) ∧
      Stk [l] K H' us st.reverse ∧ ordLoop (stSize st) st pl = ordErr ds ∧ stSize st = m ∧ m ≤ 1000000) (dszs ds)
    ⟨_, ds.map fun e => (0, e), 0, none, none, rfl, k2, hl2, S2, by rw [stSize_map]; rfl, stSize_map _ _, hz⟩ ?_
  rintro m σ H3 ⟨us, st, pl, ix, dx, rfl, k3, hl3, hS3, hO, hm, hmz⟩
  walk_at "rd"
  refine ⟨by decide, fun q hq => ?_⟩
  have k4 : Kp [] H3 (upd H3 q (.lst [])) := Kp.nil.new hq
  have hl4 := k4.get hl3 (by simp)
  have S4 := hS3.kp0 k4
  refine r_neNL (SqL.of hl4) (SqL.of upd_same) ?_
  have k4' := k3.trans k4
  generalize upd H3 q (.lst []) = H4 at k4' hl4 S4 ⊢
  cases st with
  | nil =>
    have e : us = [] := List.length_eq_zero_iff.mp S4.len
    subst e
    walk_at "rd"
    refine k _ _ k4' ?_
    rw [← hO]
    exact Dt.non
  | cons p st =>
    obtain ⟨dep, d⟩ := p
    rw [List.reverse_cons] at S4
    obtain ⟨us', b, y, rfl, S5, hb, hy⟩ := S4.last
    rw [stSize_cons] at hm hO
    have hdp := dsz_pos d
    have hin := inner_size d
    obtain ⟨f, hf⟩ : ∃ f, dsz d + stSize st = f + 1 := ⟨dsz d + stSize st - 1, by omega⟩
    rw [hf, ordLoop] at hO
    have he : (!(us' ++ [V.ref b]).isEmpty) = true := by cases us' <;> rfl
    rw [he]
    walk_at "rd"
    refine r_turn ?_
    walk_at "rd"
    refine r_pop hl4 ?_
    have k5 := kpW (o := .lst us') hl4
    have k5' : Kp [] H (upd H4 l (.lst us')) := k4'.own hl0
    have hb5 := k5.tup hb
    have S6 := S5.kpS k5 fun b hb => hb
    have hy5 := hy.kpS k5 fun b hb => hb
    have hl5 : upd H4 l (.lst us') l = some (.lst us') := upd_same
    generalize upd H4 l (.lst us') = H5 at k5 k5' hb5 S6 hy5 hl5 ⊢
    walk_at "rd"
    refine ifd (fun c1 => ?_) (fun c1 => ?_)
    · walk_at "rd"
      refine ⟨by walk_at "sz", fun r hr' => ?_⟩
      refine k _ _ (k5'.new hr') ?_
      rw [← hO, if_pos (by omega)]
      exact Dt.mk2 upd_same (.int _) (.str _)
    rw [if_neg (by omega)] at hO
    walk_at "rd"
    refine ⟨y, d, rfl, hy5.nil, by omega, fun H6 k6 => ?_⟩
    cases hst : isStmt d with
    | false =>
      walk_at "rd"
      refine ⟨by walk_at "sz", fun r hr' => ?_⟩
      refine k _ _ ((k5'.trans k6).new hr') ?_
      rw [← hO, if_pos hst]
      exact Dt.mk2 upd_same (.int _) (.str _)
    | true =>
      rw [if_neg (by rw [hst]; decide)] at hO
      have hl6 := k6.get hl5 (by simp)
      walk_at "rd"
      refine ⟨[l], y, d, dep, rfl, hy5.kp0 k6, hst, by omega, fun H7 r ws hr' k7 hr7 S7 => ?_⟩
      have hl7 := k7.get hl6 (by simp)
      have hrl : r ≠ l := Ne.symm (ne_of_none hl6 hr')
      have w1 : ws.length = (inner d).length := by rw [S7.len, List.length_reverse, List.length_map]
      have w2 : us'.length = st.length := by rw [S6.len, List.length_reverse]
      have w3 := dszs_len (inner d)
      have w4 : st.length ≤ stSize st := by
        unfold stSize
        have := dszs_len (st.map (·.2))
        rwa [List.length_map] at this
      walk_at "rd"
      · have k8 := kpW (o := .lst (us' ++ ws)) hl7
        refine ⟨dszs (inner d) + stSize st, by omega, us' ++ ws, (inner d).map (fun e => (dep + 1, e)) ++ st, pl + 1, _, _, rfl, ((k5'.trans k6).trans k7).own hl0, upd_same, ?_, ?_, ?_, by omega⟩
        · rw [List.reverse_append]
          exact (((S6.kp0 k6).kp0 k7).kpS k8 fun b hb => hb).app (S7.kpS k8 fun b hb => hb)
        · rw [← hO]
          exact ordLoop_fuel _ _ _ _ (Nat.le_refl _) (by rw [stSize_app, stSize_map]; omega)
        · rw [stSize_app, stSize_map]
      · rw [sizeLine_eq]
        omega
abbrev sbare : Stmt := topS 30
abbrev Nbare : List Str := ["test"]
abbrev Pbare : List Str := ["test"]
theorem scbare : FnScope Nbare Pbare (defScope sbare) :=
  ⟨rfl, rfl, rfl, by decide +kernel, rfl, by decide +kernel, by decide +kernel⟩
theorem ok_bare (D : Df K mg "bare" sbare Pbare) (B : Blt mg) : Has P w K mg base CX0 "bare" Pbare 1 (spBare K) := by
  refine D.has scbare (fun vs H Q E h => ?_) (fun f cdv A outer s H vs Q E hr h => ?_)
  · obtain ⟨M, v, t, rfl, _⟩ := h
    rfl
  obtain ⟨M, v, t, rfl, hd, k⟩ := h
  refine ⟨_, (pss_cons (ps_while PassesOwn.never (pt_cmpR op_eq (pe_ix ix_tup (pv 0) pe_int (fun _ _ => rfl)) pe_str (nomark _)) (pss_one (ps_set (i := 0) scbare.nd rfl (Or.inl rfl) (pe_ix ix_tup (pv 0) pe_int (fun _ _ => rfl)))))
      (pss_one (ps_ret (pv 0)))), ?_⟩
  walk_at "rd"
  refine r_while (fun m σ H' => ∃ (u : V) (z : Ts), σ = [some u] ∧ H' = H ∧ Dw M K H u z.d ∧ z.bare = t.bare ∧ z.high = m) t.high ⟨v, t, rfl, rfl, hd, rfl, rfl⟩ ?_
  rintro m σ H1 ⟨u, z, rfl, rfl, hz, hb, rfl⟩
  cases z with
  | not z =>
    obtain ⟨a, xs, rfl, hT, hL⟩ := hz.items
    obtain ⟨x0, x1, d0, d1, rfl, e, h0, h1⟩ := hL.is2 hL.len
    cases e
    obtain rfl := h0.isStr
    walk_at "rd"
    refine r_turn ?_
    walk_at "rd"
    exact ⟨z.high, by show z.high < z.high + 1; omega, x1, z, rfl, rfl, h1, hb, rfl⟩
  | given x =>
    obtain ⟨a, xs, rfl, hT, hL⟩ := hz.items
    obtain ⟨x0, x1, d0, d1, rfl, e, h0, h1⟩ := hL.is2 hL.len
    cases e
    obtain rfl := h0.isStr
    walk_at "rd"
    refine k _ ?_
    rw [← hb]
    exact hz
  | rest e b r =>
    obtain ⟨a, xs, rfl, hT, hL⟩ := hz.items
    obtain ⟨x0, x1, x2, x3, d0, d1, d2, d3, rfl, e, h0, h1⟩ := hL.is4 hL.len
    cases e
    obtain rfl := h0.isStr
    walk_at "rd"
    refine k _ ?_
    rw [← hb]
    exact hz
  | less e b =>
    obtain ⟨a, xs, rfl, hT, hL⟩ := hz.items
    obtain ⟨x0, x1, x2, d0, d1, d2, rfl, e, h0, h1⟩ := hL.is3 hL.len
    cases e
    obtain rfl := h0.isStr
    walk_at "rd"
    refine k _ ?_
    rw [← hb]
    exact hz
abbrev sown_count : Stmt := topS 31
abbrev Nown_count : List Str := ["statement", "sort"]
abbrev Pown_count : List Str := ["statement", "sort"]
theorem scown_count : FnScope Nown_count Pown_count (defScope sown_count) :=
  ⟨rfl, rfl, rfl, by decide +kernel, rfl, by decide +kernel, by decide +kernel⟩
theorem ok_own_count (D : Df K mg "own_count" sown_count Pown_count) (B : Blt mg) (Gbare : Has P w K mg base CX0 "bare" ["test"] 1 (spBare K)) :
    Has P w K mg base CX0 "own_count" Pown_count 2 (spOwn K) := by
  refine D.has scown_count (fun vs H Q E h => ?_) (fun f cdv A outer s H vs Q E hr h => ?_)
  · obtain ⟨M, v, s, so, rfl, _⟩ := h
    rfl
  obtain ⟨M, v, s, so, rfl, hd, k⟩ := h
  refine ⟨_, (pss_cons (ps_if (pt_cmpR op_eq (pv 1) pe_str (nomark _)) (pss_one (ps_ret pe_int))
        pss_nil)
      (pss_one (ps_ret (pe_callTy c_int (by rfl) B.int (by decide +kernel) (pa_cons (pe_and (pe_cmpR op_eq (pe_ix ix_tup (pv 0) pe_int (fun _ _ => rfl)) pe_str (nomark _)) (pe_one (pe_cmpR op_eq (pe_ix ix_tup (pe_f Gbare (hr.mono (by omega)) (by rfl) pass0 (pa_cons (pe_ix ix_tup (pv 0) pe_int (fun _ _ => rfl)) pa_nil)) pe_int (fun _ _ => rfl)) (pv 1) (nomark _)))) pa_nil))))), ?_⟩
  unfold Sm.own at k
  walk_at "rd"
  refine ifd (fun c => ?_) (fun c => ?_)
  · walk_at "rd"
    rw [if_pos (V.str.inj c)] at k
    exact k
  rw [if_neg (fun e => c (by rw [e]))] at k
  cases s with
  | pl p =>
    obtain ⟨u, r, e, n1, n2⟩ := Pl.hd p
    rw [Sm.d, e] at hd
    obtain ⟨a, xs, rfl, hT, hL⟩ := hd.items
    obtain ⟨x, ys, rfl, h0, hR⟩ := hL.inv
    obtain rfl := h0.isStr
    have hx0 : atI (V.str u :: ys) 0 = some (V.str u) := at_nn (Int.le_refl 0) rfl
    walk_at "rd"
    refine ifd (fun c => absurd (V.str.inj c) n1) fun _ => ?_
    walk_at "rd"
    exact k
  | rep n b =>
    rw [Sm.d] at hd
    obtain ⟨a, xs, rfl, hT, hL⟩ := hd.items
    obtain ⟨x0, x1, x2, d0, d1, d2, rfl, e, h0, h1, h2⟩ := hL.is3 hL.len
    cases e
    obtain rfl := h0.isStr
    walk_at "rd"
    exact k
  | ifs t y z =>
    rw [Sm.d] at hd
    obtain ⟨a, xs, rfl, hT, hL⟩ := hd.items
    obtain ⟨x0, x1, x2, x3, d0, d1, d2, d3, rfl, e, h0, h1, h2, h3⟩ := hL.is4 hL.len
    cases e
    obtain rfl := h0.isStr
    walk_at "rd"
    refine ⟨M, x1, t, rfl, h1, fun u hu => ?_⟩
    obtain ⟨a2, ys, rfl, hT2, h2w⟩ := Ts.headW hu
    walk_at "rd"
    have e : (if decide (V.str t.bare.word = V.str so) = true then (1 : Int) else 0) = if t.bare.word = so then 1 else 0 := by
      by_cases hq : t.bare.word = so
      · rw [if_pos hq, hq, if_pos (by rw [decide_eq_true_eq])]
      · rw [if_neg hq, if_neg (by rw [decide_eq_true_eq]; exact fun z => hq (V.str.inj z))]
    rw [e]
    exact k
abbrev scounted : Stmt := topS 32
abbrev Ncounted : List Str := ["block", "sort", "found", "statement", "inner", "part"]
abbrev Pcounted : List Str := ["block", "sort"]
theorem sccounted : FnScope Ncounted Pcounted (defScope scounted) :=
  ⟨rfl, rfl, rfl, by decide +kernel, rfl, by decide +kernel, by decide +kernel⟩
theorem ok_counted1 (D : Df K mg "counted" scounted Pcounted) (B : Blt mg) {n lv : Nat} {sp2 : Sp} (hlv : 2 ≤ lv) (Gblocks_of : Has P w K mg base CX0 "blocks_of" ["statement"] 1 (spBlocks K))
    (Gown_count : Has P w K mg base CX0 "own_count" ["statement", "sort"] 2 (spOwn K)) (Gcounted : Has P w K mg base CX0 "counted" Pcounted lv sp2) (hs : ∀ m, n = m + 1 → sp2 = spCnt K m) :
    Has P w K mg base CX0 "counted" Pcounted (lv + 1) (spCnt K n) := by
  refine D.has sccounted (fun vs H Q E h => ?_) (fun f cdv A outer s H vs Q E hr h => ?_)
  · obtain ⟨M, v, b, so, rfl, _⟩ := h
    rfl
  obtain ⟨M, v, b, so, rfl, hd, hv, k⟩ := h
  refine ⟨_, (pss_cons (ps_set (i := 2) sccounted.nd rfl (Or.inl rfl) pe_int)
      (pss_cons (ps_for PassesOwn.never rfl (pi_tup (pv 0)) (pg_name (i := 3) sccounted.nd rfl (Or.inl rfl))
        (pss_cons (ps_set (i := 4) sccounted.nd rfl (Or.inl rfl) (pe_callB (cr_sum (by rfl)) (by rfl) B.sum (by decide +kernel) (pa_cons (pe_lc (own := [("part", 5)]) (g := gName 5) (by rfl) sccounted.nd (pi_list (pe_f Gblocks_of (hr.mono (by omega)) (by rfl) pass0 (pa_cons (pv 3) pa_nil))) (blkOk_by (own := [("part", 5)]) (N := Ncounted) (sc := defScope scounted) (by decide +kernel)) (fun _ _ _ _ _ => (pg_name (i := 5) sccounted.nd rfl (Or.inl rfl))) (fun _ _ _ _ _ => pts_nil) (fun _ _ _ _ _ => (pe_f Gcounted (hr.mono (by omega)) (by rfl) pass0 (pa_cons (pv 5) (pa_cons (pv 1) pa_nil))))) pa_nil)))
      (pss_one (ps_aug (i := 2) sccounted.nd rfl (.inl rfl) (pe_op op_add (pe_f Gown_count (hr.mono (by omega)) (by rfl) pass0 (pa_cons (pv 3) (pa_cons (pv 1) pa_nil))) (pe_op op_mul (pv 4) (pe_ifExp (pt_cmpR op_eq (pe_ix ix_tup (pv 3) pe_int (fun _ _ => rfl)) pe_str (nomark _)) (pe_ix ix_tup (pv 3) pe_int (fun _ _ => rfl)) pe_int))) ip_add))))
      (pss_one (ps_ret (pv 2))))), ?_⟩
  obtain ⟨a, xs, rfl, hT, hL⟩ := hd.items
  have hlen : xs.length = b.length := by rw [hL.len, Sm.ds_map, List.length_map]
  walk_at "rd"
  refine r_ForT (xs := xs) hT (fun i σ H' => ∃ sx ix px, σ = [some (.ref a), some (.str so), some (.int (Sm.cnts so (b.take i))), sx, ix, px] ∧ Kp [] H H') ⟨none, none, none, rfl, Kp.nil⟩ (fun i σ H' ⟨_, _, _, _, q⟩ => sqT_kp q hT) ?_ ?_
  · rintro i x σ H1 hx ⟨sx, ix, px, rfl, k1⟩
    obtain ⟨dd, hdd, hxd⟩ := hL.get hx
    rw [Sm.ds_map, List.getElem?_map] at hdd
    obtain ⟨sm, hsm, rfl⟩ := Option.map_eq_some_iff.mp hdd
    have hmem : sm ∈ b := List.mem_of_getElem? hsm
    obtain ⟨m, rfl⟩ : ∃ m, n = m + 1 := by
      cases n with
      | zero =>
        rw [show b = [] from hv] at hmem
        cases hmem
      | succ m => exact ⟨m, rfl⟩
    have hsv : Sm.vd m sm := hv sm hmem
    obtain rfl := hs m rfl
    have hst := hsv.is.1
    have hx1 := hxd.kp0 k1
    have htk : b.take (i + 1) = b.take i ++ [sm] := by rw [List.take_add_one, hsm]; rfl
    walk_at "rd"
    refine ⟨M, x, sm.d, rfl, hx1, hst, fun H2 p ys hp k2 hp2 hY => ?_⟩
    rw [Sm.blks, List.map_map] at hY
    have hx2 := hx1.kp0 k2
    refine r_LcL (SqL.of hp2) fun q hq => ⟨fun j H' => Kp [] H2 H' ∧ H' q = some (.lst (((sm.parts.take j).map fun c => V.int (Sm.cnts so c)))), ⟨Kp.nil.new hq, upd_same⟩, fun j H' ⟨q1, _⟩ => SqL.of (q1.get hp2 (by simp)), ?_, ?_⟩
    · rintro j u H3 hu ⟨k3, hq3⟩
      obtain ⟨du, hdu, hud⟩ := hY.get hu
      rw [List.getElem?_map] at hdu
      obtain ⟨pt, hpt, rfl⟩ := Option.map_eq_some_iff.mp hdu
      have hpm : pt ∈ sm.parts := List.mem_of_getElem? hpt
      walk_at "rd"
      refine ⟨M, u, pt, so, rfl, hud.kp0 k3, hsv.parts pt hpm, fun H4 k4 => ?_⟩
      have hq4 := k4.get hq3 (by simp)
      have hjl : j < sm.parts.length := (List.getElem?_eq_some_iff.mp hpt).1
      have hpl : sm.parts.length ≤ 2 := by cases sm <;> simp [Sm.parts]
      refine r_LcEnd hq4 (by rw [List.length_map, List.length_take, sizeLine_eq]; omega) ⟨(k3.trans k4).own hq, ?_⟩
      rw [upd_same, List.take_add_one, hpt, List.map_append]
      rfl
    · rintro H3 ⟨k3, hq3⟩
      have hyl := hY.len
      rw [List.length_map] at hyl
      rw [hyl, List.take_length] at hq3
      have k3' := (k1.trans k2).trans k3
      have hx3 := hx2.kp0 k3
      walk_at "rd"
      refine ⟨q, sm.parts.map (Sm.cnts so), rfl, SqL.of (by rw [hq3, List.map_map]; rfl), ?_⟩
      walk_at "rd"
      refine ⟨M, x, sm, so, rfl, hx3, ?_⟩
      walk_at "rdj"
      refine r_ifJ (fun v H4 => v = .int sm.again ∧ H4 = H3) (fun Q' kQ => ?_) ?_
      · cases sm with
        | pl p =>
          obtain ⟨u, r, e, n1, n2⟩ := Pl.hd p
          rw [Sm.d, e] at hx3
          obtain ⟨a3, ws, rfl, hT3, hL3⟩ := hx3.items
          obtain ⟨z, zs, rfl, h0, hR⟩ := hL3.inv
          obtain rfl := h0.isStr
          have hx0 : atI (V.str u :: zs) 0 = some (V.str u) := at_nn (Int.le_refl 0) rfl
          walk_at "rd"
          refine ifd (fun c => absurd (V.str.inj c) n2) fun _ => ?_
          walk_at "rd"
          exact kQ _ _ ⟨rfl, rfl⟩
        | ifs t y z =>
          rw [Sm.d] at hx3
          obtain ⟨a3, ws, rfl, hT3, hL3⟩ := hx3.items
          obtain ⟨x0, x1, x2, x3, d0, d1, d2, d3, rfl, e, h0, h1, h2, h3⟩ := hL3.is4 hL3.len
          cases e
          obtain rfl := h0.isStr
          walk_at "rd"
          exact kQ _ _ ⟨rfl, rfl⟩
        | rep kk y =>
          rw [Sm.d] at hx3
          obtain ⟨a3, ws, rfl, hT3, hL3⟩ := hx3.items
          obtain ⟨x0, x1, x2, d0, d1, d2, rfl, e, h0, h1, h2⟩ := hL3.is3 hL3.len
          cases e
          obtain rfl := h0.isStr
          obtain rfl := h1.isInt
          walk_at "rd"
          exact kQ _ _ ⟨rfl, rfl⟩
      · rintro v H4 ⟨rfl, rfl⟩
        have hag : 0 ≤ sm.again ∧ sm.again ≤ 8 := by
          cases sm with
          | rep kk y => cases m <;> exact ⟨hsv.1, hsv.2.1⟩
          | _ => exact ⟨by show (0 : Int) ≤ 1; decide, by show (1 : Int) ≤ 8; decide⟩
        walk_at "rd"
        · refine ⟨some x, some (.int (List.map (Sm.cnts so) sm.parts).sum), px, ?_, k3'⟩
          rw [htk, Sm.cnts_snoc, Sm.cnt_parts]
          rfl
        · exact c_mulR (by omega) (by omega)
  · rintro σ H1 ⟨sx, ix, px, rfl, k1⟩
    walk_at "rd"
    rw [hlen, List.take_length]
    exact k _ k1
abbrev sweight : Stmt := topS 33
abbrev Nweight : List Str := ["program"]
abbrev Pweight : List Str := ["program"]
theorem scweight : FnScope Nweight Pweight (defScope sweight) :=
  ⟨rfl, rfl, rfl, by decide +kernel, rfl, by decide +kernel, by decide +kernel⟩
theorem ok_weight (D : Df K mg "weight" sweight Pweight) (B : Blt mg) {lv : Nat} (Gcounted : Has P w K mg base CX0 "counted" ["block", "sort"] lv (spCnt K 4)) :
    Has P w K mg base CX0 "weight" Pweight (lv + 1) (spWt K) := by
  refine D.has scweight (fun vs H Q E h => ?_) (fun f cdv A outer s H vs Q E hr h => ?_)
  · obtain ⟨M, v, b, rfl, _⟩ := h
    rfl
  obtain ⟨M, v, b, rfl, hd, hv, k⟩ := h
  refine ⟨_, (pss_one (ps_ret (pe_f Gcounted (hr.mono (by omega)) (by rfl) pass0 (pa_cons (pv 0) (pa_cons pe_str pa_nil))))), ?_⟩
  walk_at "rd"
  exact ⟨M, v, b, "weight", rfl, hd, hv, k⟩
abbrev sprogram_error : Stmt := topS 34
abbrev Nprogram_error : List Str := ["value", "found"]
abbrev Pprogram_error : List Str := ["value"]
theorem scprogram_error : FnScope Nprogram_error Pprogram_error (defScope sprogram_error) :=
  ⟨rfl, rfl, rfl, by decide +kernel, rfl, by decide +kernel, by decide +kernel⟩
theorem ok_program_error (D : Df K mg "program_error" sprogram_error Pprogram_error) (B : Blt mg) {t1 t2 t3 t4 : Tok} (g_MAX_PLACES : mg "MAX_PLACES" = some (.int 24 t1)) (g_MAX_WEIGHT : mg "MAX_WEIGHT" = some (.int 30 t2))
    (g_MAX_RESTS : mg "MAX_RESTS" = some (.int 2 t3)) (g_MAX_COMPARINGS : mg "MAX_COMPARINGS" = some (.int 2 t4))
    (Gorder_error : Has P w K mg base CX0 "order_error" ["value"] 11 (spOrder K)) (Grows_of : Has P w K mg base CX0 "rows_of" ["program"] 3 (spRows K))
    (Gcounted : Has P w K mg base CX0 "counted" ["block", "sort"] 7 (spCnt K 4)) (Gweight : Has P w K mg base CX0 "weight" ["program"] 8 (spWt K)) :
    Has P w K mg base CX0 "program_error" Pprogram_error 12 (spPerr K) := by
  refine D.has scprogram_error (fun vs H Q E h => ?_) (fun f cdv A outer s H vs Q E hr h => ?_)
  · obtain ⟨v, d, rfl, _⟩ := h
    rfl
  obtain ⟨v, d, rfl, hd, hz, k⟩ := h
  refine ⟨_, (pss_cons (ps_if (pt_not (pt_val (pe_callB c_is2 (by rfl) B.isinstance (by decide +kernel) (pa_cons (pv 0) (pa_cons (pe_ty (T := "tuple") (by rfl) B.tuple (by decide +kernel)) pa_nil))))) (pss_one (ps_ret (pe_tup (pa_cons pe_non (pa_cons pe_str pa_nil)))))
        pss_nil)
      (pss_cons (ps_set (i := 1) scprogram_error.nd rfl (Or.inl rfl) (pe_f Gorder_error (hr.mono (by omega)) (by rfl) pass0 (pa_cons (pv 0) pa_nil)))
      (pss_cons (ps_if (pt_cmpR op_notN (pv 1) pe_non (nomark _)) (pss_one (ps_ret (pv 1)))
        pss_nil)
      (pss_cons (ps_if (pt_cmpR op_gt (pe_callB c_len (by rfl) B.len (by decide +kernel) (pa_cons (pe_f Grows_of (hr.mono (by omega)) (by rfl) pass0 (pa_cons (pv 0) pa_nil)) pa_nil)) (pe_gint (by rfl) g_MAX_PLACES) (nomark _)) (pss_one (ps_ret (pe_tup (pa_cons pe_non (pa_cons pe_str pa_nil)))))
        pss_nil)
      (pss_cons (ps_if (pt_cmpR op_gt (pe_f Gweight (hr.mono (by omega)) (by rfl) pass0 (pa_cons (pv 0) pa_nil)) (pe_gint (by rfl) g_MAX_WEIGHT) (nomark _)) (pss_one (ps_ret (pe_tup (pa_cons pe_non (pa_cons pe_str pa_nil)))))
        pss_nil)
      (pss_cons (ps_if (pt_cmpR op_gt (pe_f Gcounted (hr.mono (by omega)) (by rfl) pass0 (pa_cons (pv 0) (pa_cons pe_str pa_nil))) (pe_gint (by rfl) g_MAX_RESTS) (nomark _)) (pss_one (ps_ret (pe_tup (pa_cons pe_non (pa_cons pe_str pa_nil)))))
        pss_nil)
      (pss_one (ps_ret (pe_ifExp (pt_cmpR op_gt (pe_f Gcounted (hr.mono (by omega)) (by rfl) pass0 (pa_cons (pv 0) (pa_cons pe_str pa_nil))) (pe_gint (by rfl) g_MAX_COMPARINGS) (nomark _)) (pe_tup (pa_cons pe_non (pa_cons pe_str pa_nil))) pe_non))))))))), ?_⟩
  cases d with
  | tuple ds =>
    rw [dsz] at hz
    walk_at "rd"
    refine ⟨v, ds, rfl, hd, by omega, fun H1 r k1 hr1 => ?_⟩
    cases ho : ordErr ds with
    | some x =>
      obtain ⟨pl, wd⟩ := x
      rw [ho] at hr1
      have q := k _ r k1 (by rw [perr, ho]; exact hr1)
      obtain ⟨a, x, y, rfl, _⟩ := Dt.is2 hr1
      walk_at "rd"
      refine ⟨rfl, ?_⟩
      walk_at "rd"
      refine ifn (fun _ => ?_) (fun c => by cases c)
      walk_at "rd"
      exact q
    | none =>
      rw [ho] at hr1
      obtain rfl := Dt.isNone hr1
      have hp : perr (.tuple ds) = lim (treeOf ds) := by rw [perr, ho]
      rw [hp] at k
      obtain ⟨e1, hvd⟩ := treeOf_spec ho
      generalize treeOf ds = p at k e1 hvd
      subst e1
      have hd1 := hd.kp0 k1
      unfold lim at k
      walk_at "rd"
      refine ⟨rfl, ?_⟩
      walk_at "rd"
      refine ifn (fun c => absurd rfl c) fun _ => ?_
      walk_at "rd"
      refine ⟨[], v, p, rfl, hd1, fun s hs => ⟨3, hvd s hs⟩, by omega, fun H2 r us hr2 k2 hr3 hS => ?_⟩
      have hus : us.length = Sm.sizes p := by rw [hS.len, Sm.rowsL_len]
      have kk2 := k1.trans k2
      have hd2 := hd1.kp0 k2
      walk_at "rd"
      refine ifd (fun c => ?_) (fun c => ?_)
      · walk_at "rd"
        refine ⟨by walk_at "sz", fun t ht => k _ _ (kk2.new ht) ?_⟩
        rw [if_pos (by omega)]
        exact Dt.mk2 upd_same .non (.str _)
      rw [if_neg (by omega)] at k
      walk_at "rd"
      refine ⟨[], v, p, rfl, hd2, hvd, fun H3 k3 => ?_⟩
      have kk3 := kk2.trans k3
      have hd3 := hd2.kp0 k3
      walk_at "rd"
      refine ifd (fun c1 => ?_) (fun c1 => ?_)
      · walk_at "rd"
        refine ⟨by walk_at "sz", fun t ht => k _ _ (kk3.new ht) ?_⟩
        rw [if_pos c1]
        exact Dt.mk2 upd_same .non (.str _)
      rw [if_neg c1] at k
      walk_at "rd"
      refine ⟨[], v, p, "rest", rfl, hd3, hvd, fun H4 k4 => ?_⟩
      have kk4 := kk3.trans k4
      have hd4 := hd3.kp0 k4
      walk_at "rd"
      refine ifd (fun c2 => ?_) (fun c2 => ?_)
      · walk_at "rd"
        refine ⟨by walk_at "sz", fun t ht => k _ _ (kk4.new ht) ?_⟩
        rw [if_pos c2]
        exact Dt.mk2 upd_same .non (.str _)
      rw [if_neg c2] at k
      walk_at "rd"
      refine ⟨[], v, p, "less", rfl, hd4, hvd, fun H5 k5 => ?_⟩
      have kk5 := kk4.trans k5
      walk_at "rd"
      refine ifd (fun c3 => ?_) (fun c3 => ?_)
      · walk_at "rd"
        refine ⟨by walk_at "sz", fun t ht => k _ _ (kk5.new ht) ?_⟩
        rw [if_pos c3]
        exact Dt.mk2 upd_same .non (.str _)
      rw [if_neg c3] at k
      walk_at "rd"
      exact k _ _ kk5 .non
  | _ =>
    walk_at "rd"
    refine ⟨by walk_at "sz", fun t ht => k _ _ (Kp.nil.new ht) ?_⟩
    exact Dt.mk2 upd_same .non (.str _)
abbrev s_law_whole : Stmt := topS 40
abbrev N_law_whole : List Str := ["_law_value", "_law_least", "_law_most"]
abbrev P_law_whole : List Str := ["_law_value", "_law_least", "_law_most"]
theorem sc_law_whole : FnScope N_law_whole P_law_whole (defScope s_law_whole) :=
  ⟨rfl, rfl, rfl, by decide +kernel, rfl, by decide +kernel, by decide +kernel⟩
theorem ok_law_whole (D : Df K mg "_law_whole" s_law_whole P_law_whole) (B : Blt mg) : Has P w K mg base CX0 "_law_whole" P_law_whole 1 (spWhole K) := by
  refine D.has sc_law_whole (fun vs H Q E h => ?_) (fun f cdv A outer s H vs Q E hr h => ?_)
  · obtain ⟨v, d, lo, hi, rfl, _⟩ := h
    rfl
  obtain ⟨v, d, lo, hi, rfl, hd, k⟩ := h
  refine ⟨_, (pss_one (ps_ret (pe_and (pe_callB c_is2 (by rfl) B.isinstance (by decide +kernel) (pa_cons (pv 0) (pa_cons (pe_ty (T := "int") (by rfl) B.int (by decide +kernel)) pa_nil))) (pe_and (pe_not (pe_callB c_is2 (by rfl) B.isinstance (by decide +kernel) (pa_cons (pv 0) (pa_cons (pe_ty (T := "bool") (by rfl) B.bool (by decide +kernel)) pa_nil)))) (pe_one (pe_chain op_le op_le (pv 1) (pv 0) (pv 2))))))), ?_⟩
  cases d with
  | int i =>
    obtain rfl := hd.isInt
    walk_at "rd"
    have q : Q (.bl (decide (lo ≤ i) && decide (i ≤ hi))) H := k
    refine ifd (fun c => ?_) (fun c => ?_)
    · walk_at "rd"
      rw [decide_eq_true c, Bool.true_and] at q
      exact q
    · rw [decide_eq_false c, Bool.false_and] at q
      exact q
  | _ => walk_at "rd"; exact k
abbrev s_law_letters : Stmt := topS 41
abbrev N_law_letters : List Str := ["_law_value", "_law_most", "_law_sign"]
abbrev P_law_letters : List Str := ["_law_value", "_law_most"]
theorem sc_law_letters : FnScope N_law_letters P_law_letters (defScope s_law_letters) :=
  ⟨rfl, rfl, rfl, by decide +kernel, rfl, by decide +kernel, by decide +kernel⟩
theorem ok_law_letters (D : Df K mg "_law_letters" s_law_letters P_law_letters) (B : Blt mg) : Has P w K mg base CX0 "_law_letters" P_law_letters 1 (spLet K) := by
  refine D.has sc_law_letters (fun vs H Q E h => ?_) (fun f cdv A outer s H vs Q E hr h => ?_)
  · obtain ⟨v, d, rfl, _⟩ := h
    rfl
  obtain ⟨v, d, rfl, hd, hz, k⟩ := h
  refine ⟨_, (pss_cons (ps_if (PW.pt (pw_or (pt_not (pt_val (pe_callB c_is2 (by rfl) B.isinstance (by decide +kernel) (pa_cons (pv 0) (pa_cons (pe_ty (T := "str") (by rfl) B.str (by decide +kernel)) pa_nil))))) (pw_or1 (pt_not (pt_chain op_le op_le pe_int (pe_callB c_len (by rfl) B.len (by decide +kernel) (pa_cons (pv 0) pa_nil)) (pv 1)))))) (pss_one (ps_ret pe_bl))
        pss_nil)
      (pss_one (ps_ret (pe_cmpR (op_eqNil hr.h64) (pe_lc (own := [("_law_sign", 2)]) (g := gName 2) (by rfl) sc_law_letters.nd (pi_str (pv 0)) (blkOk_by (own := [("_law_sign", 2)]) (N := N_law_letters) (sc := defScope s_law_letters) (by decide +kernel)) (fun _ _ _ _ _ => (pg_name (i := 2) sc_law_letters.nd rfl (Or.inl rfl))) (fun _ _ _ _ _ => (pts_one (pt_cmpR op_notinC (pv 2) pe_str (by rfl)))) (fun _ _ _ _ _ => (pv 2))) (pe_lst pa_nil) (nomark _))))), ?_⟩
  cases d with
  | str x =>
    obtain rfl := hd.isStr
    rw [dsz] at hz
    change ∀ H', Kp [] H H' → Q (.bl (isLetS x)) H' at k
    have kf : isLetS x = false → Q (.bl false) H := fun e => by
      have q := k H Kp.nil
      rw [e] at q
      exact q
    walk_at "rd"
    rotate_left 1
    · walk_at "sz"
    refine ifd (fun c1 => ?_) (fun c1 => ?_)
    rotate_left 1
    · walk_at "rd"
      refine kf ?_
      unfold isLetS
      rw [decide_eq_false (by omega), Bool.false_and, Bool.false_and]
    walk_at "rd"
    refine ifn (fun c2 => ?_) (fun c2 => ?_)
    · walk_at "rd"
      refine kf ?_
      unfold isLetS
      rw [decide_eq_false (p := x.length ≤ 8) (by omega), Bool.and_false, Bool.false_and]
    walk_at "rd"
    refine r_LcSf (f := fun c => !isSgn c) (i := 2) (by omega) (fun c H' R h => ?_) (fun c H' R h => ?_) (fun _ => rfl) fun p hp => ?_
    · walk_at "rd"
      exact h
    · walk_at "rd"
      exact h
    walk_at "rd"
    refine ⟨by decide, fun q hq => ?_⟩
    have e1 : upd (upd H p (.lst ((x.cps.toList.filter fun c => !isSgn c).map fun c => V.str ⟨#[c]⟩))) q (.lst []) p = some (.lst ((x.cps.toList.filter fun c => !isSgn c).map fun c => V.str ⟨#[c]⟩)) := by
      rw [upd_ne (ne_of_none upd_same hq)]
      exact upd_same
    refine r_eqNL (SqL.of e1) (SqL.of upd_same) ?_
    have q := k _ ((Kp.nil.new hp).new (o := .lst []) hq)
    unfold isLetS at q
    rw [decide_eq_true (by omega), decide_eq_true (by omega), Bool.true_and, Bool.true_and] at q
    rw [List.isEmpty_map, filter_all]
    exact q
  | _ => walk_at "rd"; exact k _ Kp.nil
abbrev s_law_is_name : Stmt := topS 42
abbrev N_law_is_name : List Str := ["_law_value", "_law_kept_here"]
abbrev P_law_is_name : List Str := ["_law_value"]
theorem sc_law_is_name : FnScope N_law_is_name P_law_is_name (defScope s_law_is_name) :=
  ⟨rfl, rfl, rfl, by decide +kernel, rfl, by decide +kernel, by decide +kernel⟩
theorem ok_law_is_name (D : Df K mg "_law_is_name" s_law_is_name P_law_is_name) (B : Blt mg) (G_law_letters : Has P w K mg base CX0 "_law_letters" ["_law_value", "_law_most"] 1 (spLet K)) :
    Has P w K mg base CX0 "_law_is_name" P_law_is_name 2 (spAsk K isName) := by
  refine D.has sc_law_is_name (fun vs H Q E h => ?_) (fun f cdv A outer s H vs Q E hr h => ?_)
  · obtain ⟨v, d, rfl, _⟩ := h
    rfl
  obtain ⟨v, d, rfl, hd, hz, k⟩ := h
  refine ⟨_, (pss_cons (ps_if (PW.pt (pw_or (pt_not (pt_val (pe_f G_law_letters (hr.mono (by omega)) (by rfl) pass0 (pa_cons (pv 0) (pa_cons pe_int pa_nil))))) (pw_or1 (pt_cmpR op_inC (pe_ix ix_str (pv 0) pe_int (fun _ _ => rfl)) pe_str (by rfl))))) (pss_one (ps_ret pe_bl))
        pss_nil)
      (pss_cons (ps_set (i := 1) sc_law_is_name.nd rfl (Or.inl rfl) (pe_lst (pa_cons pe_str (pa_cons pe_str (pa_cons pe_str (pa_cons pe_str (pa_cons pe_str (pa_cons pe_str (pa_cons pe_str (pa_cons pe_str (pa_cons pe_str (pa_cons pe_str (pa_cons pe_str (pa_cons pe_str (pa_cons pe_str pa_nil)))))))))))))))
      (pss_one (ps_ret (pe_cmpR op_notIn_seq (pv 0) (pv 1) (by rfl)))))), ?_⟩
  walk_at "rd"
  refine ⟨v, d, rfl, hd, hz, fun H1 k1 => ?_⟩
  cases hl : isLetD d with
  | false =>
    walk_at "rd"
    have q := k _ k1
    rw [isName_let hl] at q
    exact q
  | true =>
    obtain ⟨x, rfl⟩ := isLetD_str hl
    obtain rfl := hd.isStr
    rw [dsz] at hz
    have hx : isLetS x = true := hl
    obtain ⟨c0, cr, hc0, hs0⟩ := isLetS_head hx
    have hat : atI x.cps.toList 0 = some c0 := at_nn (Int.le_refl 0) (by rw [hc0]; rfl)
    walk_at "rd"
    refine r_ixS (by walk_at "sz") hat ?_
    walk_at "rd"
    refine ifd (fun c1 => ?_) (fun c1 => ?_)
    · walk_at "rd"
      have q := k _ k1
      rw [show isName (.str x) = false from isNameS_dig hx hc0 c1] at q
      exact q
    walk_at "rd"
    refine ⟨by decide, fun p hp => ?_⟩
    walk_at "rd"
    refine ⟨p, _, rfl, .inl (SqL.of upd_same), rfl, rfl, ?_⟩
    have e := inV_strs x KEPTS
    rw [show KEPTS.map V.str = [V.str "unset", V.str "tell", V.str "say", V.str "stop", V.str "if", V.str "else", V.str "repeat", V.str "pass", V.str "rest", V.str "of", V.str "set", V.str "not", V.str "program"] from rfl] at e
    rw [if_pos rfl, e]
    have q := k _ (k1.new (o := .lst [V.str "unset", V.str "tell", V.str "say", V.str "stop", V.str "if", V.str "else", V.str "repeat", V.str "pass", V.str "rest", V.str "of", V.str "set", V.str "not", V.str "program"]) hp)
    rw [show isName (.str x) = !KEPTS.contains x from isNameS_kept hx hc0 c1] at q
    exact q
abbrev s_law_is_expression : Stmt := topS 43
abbrev N_law_is_expression : List Str := ["_law_value", "_law_deep_here"]
abbrev P_law_is_expression : List Str := ["_law_value", "_law_deep_here"]
theorem sc_law_is_expression : FnScope N_law_is_expression P_law_is_expression (defScope s_law_is_expression) :=
  ⟨rfl, rfl, rfl, by decide +kernel, rfl, by decide +kernel, by decide +kernel⟩
theorem ok_law_is_expression1 (D : Df K mg "_law_is_expression" s_law_is_expression P_law_is_expression) (B : Blt mg) {n lv : Nat} {sp2 : Sp} (hlv : 2 ≤ lv)
    (G_law_whole : Has P w K mg base CX0 "_law_whole" ["_law_value", "_law_least", "_law_most"] 1 (spWhole K)) (G_law_is_name : Has P w K mg base CX0 "_law_is_name" ["_law_value"] 2 (spAsk K isName))
    (G_law_is_expression : Has P w K mg base CX0 "_law_is_expression" P_law_is_expression lv sp2) (hs : ∀ m, n = m + 1 → sp2 = spAskN K isExpr m) :
    Has P w K mg base CX0 "_law_is_expression" P_law_is_expression (lv + 1) (spAskN K isExpr n) := by
  refine D.has sc_law_is_expression (fun vs H Q E h => ?_) (fun f cdv A outer s H vs Q E hr h => ?_)
  · obtain ⟨v, d, rfl, _⟩ := h
    rfl
  obtain ⟨v, d, rfl, hd, hz, k⟩ := h
  refine ⟨_, (pss_cons (ps_if (pt_not (pt_val (pe_callB c_is2 (by rfl) B.isinstance (by decide +kernel) (pa_cons (pv 0) (pa_cons (pe_ty (T := "tuple") (by rfl) B.tuple (by decide +kernel)) pa_nil))))) (pss_one (ps_ret (pe_and (pe_cmpR op_gt (pv 1) pe_int (nomark _)) (pe_one (pe_or (pe_f G_law_is_name (hr.mono (by omega)) (by rfl) pass0 (pa_cons (pv 0) pa_nil)) (pe_one (pe_f G_law_whole (hr.mono (by omega)) (by rfl) pass0 (pa_cons (pv 0) (pa_cons (pe_un un_neg pe_int) (pa_cons pe_int pa_nil))))))))))
        pss_nil)
      (pss_cons (ps_if (PW.pt (pw_or (pt_cmpR op_eq (pv 1) pe_int (nomark _)) (pw_or (pt_cmpR op_ne (pe_callB c_len (by rfl) B.len (by decide +kernel) (pa_cons (pv 0) pa_nil)) pe_int (nomark _)) (pw_or1 (pt_not (pt_val (pe_callB c_is2 (by rfl) B.isinstance (by decide +kernel) (pa_cons (pe_ix ix_tup (pv 0) pe_int (fun _ _ => rfl)) (pa_cons (pe_ty (T := "str") (by rfl) B.str (by decide +kernel)) pa_nil))))))))) (pss_one (ps_ret pe_bl))
        pss_nil)
      (pss_cons (ps_if (pt_cmpR op_eq (pe_ix ix_tup (pv 0) pe_int (fun _ _ => rfl)) pe_str (nomark _)) (pss_one (ps_ret (pe_and (pe_f G_law_whole (hr.mono (by omega)) (by rfl) pass0 (pa_cons (pe_ix ix_tup (pv 0) pe_int (fun _ _ => rfl)) (pa_cons (pe_un un_neg pe_int) (pa_cons pe_int pa_nil)))) (pe_one (pe_f G_law_is_expression (hr.mono (by omega)) (by rfl) pass0 (pa_cons (pe_ix ix_tup (pv 0) pe_int (fun _ _ => rfl)) (pa_cons (pe_op op_sub (pv 1) pe_int) pa_nil)))))))
        pss_nil)
      (pss_cons (ps_if (pt_cmpR op_notIn_seq (pe_ix ix_tup (pv 0) pe_int (fun _ _ => rfl)) (pe_lst (pa_cons pe_str (pa_cons pe_str pa_nil))) (by rfl)) (pss_one (ps_ret pe_bl))
        pss_nil)
      (pss_one (ps_ret (pe_and (pe_f G_law_is_expression (hr.mono (by omega)) (by rfl) pass0 (pa_cons (pe_ix ix_tup (pv 0) pe_int (fun _ _ => rfl)) (pa_cons (pe_op op_sub (pv 1) pe_int) pa_nil))) (pe_one (pe_f G_law_is_expression (hr.mono (by omega)) (by rfl) pass0 (pa_cons (pe_ix ix_tup (pv 0) pe_int (fun _ _ => rfl)) (pa_cons (pe_op op_sub (pv 1) pe_int) pa_nil))))))))))), ?_⟩
  cases d with
  | tuple ds =>
    obtain ⟨a, xs, rfl, hT, hL⟩ := hd.items
    rw [dsz] at hz
    walk_at "rd"
    refine ifd (fun c => ?_) (fun c => ?_)
    · obtain rfl : n = 0 := by
        have q := V.int.inj c
        omega
      walk_at "rd"
      exact k _ Kp.nil
    obtain ⟨m, rfl⟩ : ∃ m, n = m + 1 := ⟨n - 1, by
      have q : n ≠ 0 := fun e => c (by rw [e]; rfl)
      omega⟩
    obtain rfl := hs m rfl
    have em : ((m + 1 : Nat) : Int) - 1 = (m : Int) := by omega
    change ∀ H', Kp [] H H' → Q (.bl (isExprL (isExpr m) ds)) H' at k
    walk_at "rd"
    refine ifn (fun c1 => ?_) (fun c1 => ?_)
    · walk_at "rd"
      have q := k _ Kp.nil
      rw [isExprL_len (fun e => c1 (by rw [hL.len, e]; rfl))] at q
      exact q
    have c1 : xs.length = 3 := by
      have q := V.int.inj c1
      omega
    obtain ⟨x, y, z, d0, d1, d2, rfl, rfl, h0, h1, h2⟩ := hL.is3 c1
    simp only [dszs] at hz
    walk_at "rd"
    cases hx : isaD d0 "str" with
    | false =>
      walk_at "rd"
      have q := k _ Kp.nil
      rw [isExprL_str hx] at q
      exact q
    | true =>
      obtain ⟨u, rfl⟩ := isStr_of hx
      obtain rfl := h0.isStr
      rw [isExprL] at k
      walk_at "rd"
      refine ifd (fun c2 => ?_) (fun c2 => ?_)
      · simp only [if_pos (V.str.inj c2)] at k
        walk_at "rd"
        refine ⟨y, d1, _, _, rfl, h1, ?_⟩
        cases hw : isWhole (-9) 9 d1 with
        | false =>
          have q := k _ Kp.nil
          rw [hw, Bool.and_false] at q
          walk_at "rd"
          exact q
        | true =>
          simp only [hw, Bool.and_true] at k
          walk_at "rd"
          exact ⟨z, d2, by rw [em]; rfl, h2, by omega, k⟩
      have c2 : u ≠ "times" := fun e => c2 (by rw [e])
      simp only [if_neg c2] at k
      walk_at "rd"
      refine ⟨by decide, fun p hp => ?_⟩
      have k2 : Kp [] H (upd H p (.lst [.str "plus", .str "minus"])) := Kp.nil.new hp
      have hT2 := sqT_kp k2 hT
      refine ⟨p, _, rfl, .inl (SqL.of upd_same), rfl, rfl, ?_⟩
      rw [if_pos rfl, inV_two u "plus" "minus"]
      generalize upd H p (.lst [.str "plus", .str "minus"]) = H2 at k2 hT2 ⊢
      cases he2 : (decide (u = "plus") || decide (u = "minus")) with
      | false =>
        walk_at "rd"
        have q := k _ k2
        rw [he2, Bool.false_and, Bool.and_false] at q
        exact q
      | true =>
        simp only [he2, Bool.true_and] at k
        walk_at "rd"
        refine ⟨y, d1, by rw [em]; rfl, h1.kp0 k2, by omega, fun H3 k3 => ?_⟩
        have hT3 := sqT_kp k3 hT2
        cases he : isExpr m d1 with
        | false =>
          have q := k _ (k2.trans k3)
          rw [he, Bool.and_false] at q
          walk_at "rd"
          exact q
        | true =>
          simp only [he, Bool.and_true] at k
          walk_at "rd"
          exact ⟨z, d2, by rw [em]; rfl, (h2.kp0 k2).kp0 k3, by omega, fun H4 k4 => k _ ((k2.trans k3).trans k4)⟩
  | _ =>
    walk_at "rd"
    refine ifd (fun c => ?_) (fun c => ?_)
    rotate_left 1
    · obtain rfl : n = 0 := by omega
      exact k _ Kp.nil
    obtain ⟨m, rfl⟩ : ∃ m, n = m + 1 := ⟨n - 1, by omega⟩
    walk_at "rd"
    refine ⟨v, _, rfl, hd, hz, fun H1 k1 => ?_⟩
    have hd1 := hd.kp0 k1
    have q := k _ k1
    rw [isExpr, isExprW] at q
    · cases hN : isName _ with
      | true =>
        rw [hN, Bool.true_or] at q
        walk_at "rd"
        exact q
      | false =>
        rw [hN, Bool.false_or] at q
        walk_at "rd"
        exact ⟨v, _, _, _, rfl, hd1, q⟩
    · intro ds e
      cases e
abbrev s_law_is_rest : Stmt := topS 44
abbrev N_law_is_rest : List Str := ["_law_value"]
abbrev P_law_is_rest : List Str := ["_law_value"]
theorem sc_law_is_rest : FnScope N_law_is_rest P_law_is_rest (defScope s_law_is_rest) :=
  ⟨rfl, rfl, rfl, by decide +kernel, rfl, by decide +kernel, by decide +kernel⟩
theorem ok_law_is_rest (D : Df K mg "_law_is_rest" s_law_is_rest P_law_is_rest) (B : Blt mg)
    (G_law_whole : Has P w K mg base CX0 "_law_whole" ["_law_value", "_law_least", "_law_most"] 1 (spWhole K))
    (G_law_is_expression : Has P w K mg base CX0 "_law_is_expression" ["_law_value", "_law_deep_here"] 6 (spAskN K isExpr 3)) :
    Has P w K mg base CX0 "_law_is_rest" P_law_is_rest 7 (spRest4 K) := by
  refine D.has sc_law_is_rest (fun vs H Q E h => ?_) (fun f cdv A outer s H vs Q E hr h => ?_)
  · obtain ⟨v, ds, rfl, _⟩ := h
    rfl
  obtain ⟨v, ds, rfl, hd, h4, hz, k⟩ := h
  refine ⟨_, (pss_cons (ps_if (PW.pt (pw_or (pt_not (pt_val (pe_f G_law_is_expression (hr.mono (by omega)) (by rfl) pass0 (pa_cons (pe_ix ix_tup (pv 0) pe_int (fun _ _ => rfl)) (pa_cons pe_int pa_nil))))) (pw_or1 (pt_not (pt_val (pe_f G_law_whole (hr.mono (by omega)) (by rfl) pass0 (pa_cons (pe_ix ix_tup (pv 0) pe_int (fun _ _ => rfl)) (pa_cons pe_int (pa_cons pe_int pa_nil))))))))) (pss_one (ps_ret pe_bl))
        pss_nil)
      (pss_one (ps_ret (pe_f G_law_whole (hr.mono (by omega)) (by rfl) pass0 (pa_cons (pe_ix ix_tup (pv 0) pe_int (fun _ _ => rfl)) (pa_cons pe_int (pa_cons (pe_op op_sub (pe_ix ix_tup (pv 0) pe_int (fun _ _ => rfl)) pe_int) pa_nil))))))), ?_⟩
  obtain ⟨a, xs, rfl, hT, hL⟩ := hd.items
  obtain ⟨x, y, z, u, d0, d1, d2, d3, rfl, rfl, h0, h1, h2, h3⟩ := hL.is4 (hL.len.trans h4)
  simp only [dszs] at hz
  rw [isRestL4] at k
  walk_at "rd"
  refine ⟨y, d1, rfl, h1, by omega, fun H1 k1 => ?_⟩
  have hT1 := sqT_kp k1 hT
  cases he : isExpr 3 d1 with
  | false =>
    walk_at "rd"
    have q := k _ k1
    rw [he, Bool.false_and] at q
    exact q
  | true =>
    rw [he, Bool.true_and] at k
    walk_at "rd"
    refine ⟨z, d2, _, _, rfl, h2.kp0 k1, ?_⟩
    cases hw : isWhole 2 6 d2 with
    | false =>
      walk_at "rd"
      have q := k _ k1
      rw [hw, Bool.false_and] at q
      exact q
    | true =>
      rw [hw, Bool.true_and] at k
      obtain ⟨i, rfl, i1, i2⟩ := whole_view hw
      obtain rfl := h2.isInt
      walk_at "rd"
      exact ⟨u, d3, _, _, rfl, h3.kp0 k1, k _ k1⟩
abbrev s_law_is_test : Stmt := topS 45
abbrev N_law_is_test : List Str := ["_law_value", "_law_nots"]
abbrev P_law_is_test : List Str := ["_law_value", "_law_nots"]
theorem sc_law_is_test : FnScope N_law_is_test P_law_is_test (defScope s_law_is_test) :=
  ⟨rfl, rfl, rfl, by decide +kernel, rfl, by decide +kernel, by decide +kernel⟩
theorem ok_law_is_test1 (D : Df K mg "_law_is_test" s_law_is_test P_law_is_test) (B : Blt mg) {n lv : Nat} {sp2 : Sp} (hlv : 7 ≤ lv)
    (G_law_is_rest : Has P w K mg base CX0 "_law_is_rest" ["_law_value"] 7 (spRest4 K))
    (G_law_is_name : Has P w K mg base CX0 "_law_is_name" ["_law_value"] 2 (spAsk K isName)) (G_law_is_expression : Has P w K mg base CX0 "_law_is_expression" ["_law_value", "_law_deep_here"] 6 (spAskN K isExpr 3))
    (G_law_is_test : Has P w K mg base CX0 "_law_is_test" P_law_is_test lv sp2) (hs : ∀ m, n = m + 1 → sp2 = spAskN K isTest m) :
    Has P w K mg base CX0 "_law_is_test" P_law_is_test (lv + 1) (spAskN K isTest n) := by
  refine D.has sc_law_is_test (fun vs H Q E h => ?_) (fun f cdv A outer s H vs Q E hr h => ?_)
  · obtain ⟨v, d, rfl, _⟩ := h
    rfl
  obtain ⟨v, d, rfl, hd, hz, k⟩ := h
  refine ⟨_, (pss_cons (ps_if (PW.pt (pw_or (pt_not (pt_val (pe_callB c_is2 (by rfl) B.isinstance (by decide +kernel) (pa_cons (pv 0) (pa_cons (pe_ty (T := "tuple") (by rfl) B.tuple (by decide +kernel)) pa_nil))))) (pw_or (pt_cmpR (op_eqNil hr.h64) (pv 0) (pe_tup pa_nil) (nomark _)) (pw_or1 (pt_not (pt_val (pe_callB c_is2 (by rfl) B.isinstance (by decide +kernel) (pa_cons (pe_ix ix_tup (pv 0) pe_int (fun _ _ => rfl)) (pa_cons (pe_ty (T := "str") (by rfl) B.str (by decide +kernel)) pa_nil))))))))) (pss_one (ps_ret pe_bl))
        pss_nil)
      (pss_cons (ps_if (pt_cmpR op_ne (pe_callB c_len (by rfl) B.len (by decide +kernel) (pa_cons (pv 0) pa_nil)) (pe_dget2 hr.hu (pe_disp (pps_cons pe_str pe_int (pps_cons pe_str pe_int (pps_cons pe_str pe_int (pps_cons pe_str pe_int pps_nil)))) (by rfl) (by rfl) (fun z => by cases z) (by decide)) (pe_ix ix_tup (pv 0) pe_int (fun _ _ => rfl)) pe_int ⟨by rfl, by rfl, by rfl, by rfl⟩) (nomark _)) (pss_one (ps_ret pe_bl))
        pss_nil)
      (pss_cons (ps_if (pt_cmpR op_eq (pe_ix ix_tup (pv 0) pe_int (fun _ _ => rfl)) pe_str (nomark _)) (pss_one (ps_ret (pe_and (pe_cmpR op_gt (pv 1) pe_int (nomark _)) (pe_one (pe_f G_law_is_test (hr.mono (by omega)) (by rfl) pass0 (pa_cons (pe_ix ix_tup (pv 0) pe_int (fun _ _ => rfl)) (pa_cons (pe_op op_sub (pv 1) pe_int) pa_nil)))))))
        pss_nil)
      (pss_cons (ps_if (pt_cmpR op_eq (pe_ix ix_tup (pv 0) pe_int (fun _ _ => rfl)) pe_str (nomark _)) (pss_one (ps_ret (pe_f G_law_is_rest (hr.mono (by omega)) (by rfl) pass0 (pa_cons (pv 0) pa_nil))))
        pss_nil)
      (pss_cons (ps_if (pt_cmpR op_eq (pe_ix ix_tup (pv 0) pe_int (fun _ _ => rfl)) pe_str (nomark _)) (pss_one (ps_ret (pe_f G_law_is_name (hr.mono (by omega)) (by rfl) pass0 (pa_cons (pe_ix ix_tup (pv 0) pe_int (fun _ _ => rfl)) pa_nil))))
        pss_nil)
      (pss_one (ps_ret (pe_and (pe_f G_law_is_expression (hr.mono (by omega)) (by rfl) pass0 (pa_cons (pe_ix ix_tup (pv 0) pe_int (fun _ _ => rfl)) (pa_cons pe_int pa_nil))) (pe_one (pe_f G_law_is_expression (hr.mono (by omega)) (by rfl) pass0 (pa_cons (pe_ix ix_tup (pv 0) pe_int (fun _ _ => rfl)) (pa_cons pe_int pa_nil)))))))))))), ?_⟩
  obtain ⟨F, hF, hF2⟩ : ∃ F : PyData → Bool, isTest n d = isTestW F d ∧ ((n = 0 ∧ F = fun _ => false) ∨ ∃ m, n = m + 1 ∧ F = isTest m) := isTest_F n d
  rw [hF] at k
  cases d with
  | tuple ds =>
    obtain ⟨a, xs, rfl, hT, hL⟩ := hd.items
    rw [dsz] at hz
    walk_at "rd"
    refine ⟨by decide, fun e he => ?_⟩
    have ke : Kp [] H (upd H e (.tup [])) := Kp.nil.new he
    have hTe := sqT_kp ke hT
    refine r_eqNT hTe (SqT.of upd_same) ?_
    have hLe := hL.kp0 ke
    have hde := hd.kp0 ke
    generalize upd H e (.tup []) = H0 at ke hTe hLe hde ⊢
    cases ds with
    | nil =>
      obtain rfl := hL.inv0
      have e0 : ([] : List V).isEmpty = true := rfl
      rw [e0]
      walk_at "rd"
      exact k _ ke
    | cons d0 r =>
      obtain ⟨x, ys, rfl, h0, hR⟩ := hLe.inv
      have e0 : (x :: ys).isEmpty = false := rfl
      rw [e0]
      rw [dszs] at hz
      have hlen := hR.len
      have hx0 : atI (x :: ys) 0 = some x := at_nn (Int.le_refl 0) rfl
      walk_at "rd"
      cases hx : isaD d0 "str" with
      | false =>
        walk_at "rd"
        have q := k _ ke
        rw [isTestW_str hx] at q
        exact q
      | true =>
        obtain ⟨u, rfl⟩ := isStr_of hx
        obtain rfl := h0.isStr
        change ∀ H', Kp [] H H' → Q (.bl (isTestL F u r)) H' at k
        walk_at "rd"
        intro t ht
        walk_at "rd"
        refine ⟨upd_same, szK testZ, rfl, by decide, ?_⟩
        rw [testZ_merge]
        have k2 : Kp [] H0 (upd (upd H0 t (.dK [])) t (.dK (szK testZ))) := (Kp.nil.new ht).own ht
        have ht2 : upd (upd H0 t (.dK [])) t (.dK (szK testZ)) t = some (.dK (szK testZ)) := upd_same
        have kk2 := ke.trans k2
        have hT2 := sqT_kp k2 hTe
        have hR2 := hR.kp0 k2
        have hd2 := hde.kp0 k2
        generalize upd (upd H0 t (.dK [])) t (.dK (szK testZ)) = H2 at k2 ht2 kk2 hT2 hR2 hd2 ⊢
        walk_at "rd"
        rw [szK_get]
        walk_at "rd"
        refine ifn (fun c1 => ?_) (fun c1 => ?_)
        · walk_at "rd"
          have q := k _ kk2
          rw [isTestL_size (fun e => c1 (by rw [List.length_cons, hlen, e]))] at q
          exact q
        have c1 : ((r.length + 1 : Nat) : Int) = szOf testZ u := by
          have q := V.int.inj c1
          rw [List.length_cons, hlen] at q
          exact q
        rcases testZ_word c1 with ⟨rfl, e2⟩ | ⟨rfl, e2⟩ | ⟨rfl, e2⟩ | ⟨rfl, e2⟩
        · obtain ⟨y, z, d1, d2, rfl, rfl, h1, h2⟩ := hR2.is2 (hlen.trans e2)
          simp only [dszs] at hz
          unfold isTestL at k
          simp only [if_pos, two] at k
          walk_at "rd"
          refine ⟨y, d1, rfl, h1, by omega, fun H3 k3 => ?_⟩
          have hT3 := sqT_kp k3 hT2
          cases he : isExpr 3 d1 with
          | false =>
            walk_at "rd"
            have q := k _ (kk2.trans k3)
            rw [he, Bool.false_and] at q
            exact q
          | true =>
            simp only [he, Bool.true_and] at k
            walk_at "rd"
            exact ⟨z, d2, rfl, h2.kp0 k3, by omega, fun H4 k4 => k _ ((kk2.trans k3).trans k4)⟩
        · unfold isTestL at k
          rw [if_neg (by decide +kernel), if_pos rfl] at k
          walk_at "rd"
          exact ⟨_, _, rfl, hd2, by rw [List.length_cons, e2], by rw [dszs]; omega, fun H4 k4 => k _ (kk2.trans k4)⟩
        · obtain ⟨y, d1, rfl, rfl, h1⟩ := hR2.is1 (hlen.trans e2)
          simp only [dszs] at hz
          unfold isTestL at k
          rw [if_neg (by decide +kernel), if_neg (by decide +kernel), if_pos rfl] at k
          walk_at "rd"
          exact ⟨y, d1, rfl, h1, by omega, fun H4 k4 => k _ (kk2.trans k4)⟩
        · obtain ⟨y, d1, rfl, rfl, h1⟩ := hR2.is1 (hlen.trans e2)
          simp only [dszs] at hz
          unfold isTestL at k
          rw [if_neg (by decide +kernel), if_neg (by decide +kernel), if_neg (by decide +kernel), if_pos rfl] at k
          walk_at "rd"
          refine ifd (fun c6 => ?_) (fun c6 => ?_)
          rotate_left 1
          · rcases hF2 with ⟨rfl, rfl⟩ | ⟨m, rfl, _⟩
            · exact k _ kk2
            · omega
          rcases hF2 with ⟨rfl, rfl⟩ | ⟨m, rfl, rfl⟩
          · omega
          obtain rfl := hs m rfl
          have em : ((m + 1 : Nat) : Int) - 1 = (m : Int) := by omega
          walk_at "rd"
          exact ⟨y, d1, by rw [em]; rfl, h1, by omega, fun H4 k4 => k _ (kk2.trans k4)⟩
  | _ => walk_at "rd"; exact k _ Kp.nil
abbrev s_law_is_statement : Stmt := topS 46
abbrev N_law_is_statement : List Str := ["_law_value", "_law_sizes"]
abbrev P_law_is_statement : List Str := ["_law_value"]
theorem sc_law_is_statement : FnScope N_law_is_statement P_law_is_statement (defScope s_law_is_statement) :=
  ⟨rfl, rfl, rfl, by decide +kernel, rfl, by decide +kernel, by decide +kernel⟩
theorem ok_law_is_statement (D : Df K mg "_law_is_statement" s_law_is_statement P_law_is_statement) (B : Blt mg)
    (G_law_whole : Has P w K mg base CX0 "_law_whole" ["_law_value", "_law_least", "_law_most"] 1 (spWhole K)) (G_law_letters : Has P w K mg base CX0 "_law_letters" ["_law_value", "_law_most"] 1 (spLet K))
    (G_law_is_name : Has P w K mg base CX0 "_law_is_name" ["_law_value"] 2 (spAsk K isName)) (G_law_is_expression : Has P w K mg base CX0 "_law_is_expression" ["_law_value", "_law_deep_here"] 6 (spAskN K isExpr 3))
    (G_law_is_test : Has P w K mg base CX0 "_law_is_test" ["_law_value", "_law_nots"] 10 (spAskN K isTest 2)) :
    Has P w K mg base CX0 "_law_is_statement" P_law_is_statement 11 (spAsk K isStmt) := by
  refine D.has sc_law_is_statement (fun vs H Q E h => ?_) (fun f cdv A outer s H vs Q E hr h => ?_)
  · obtain ⟨v, d, rfl, _⟩ := h
    rfl
  obtain ⟨v, d, rfl, hd, hz, k⟩ := h
  refine ⟨_, (pss_cons (ps_if (PW.pt (pw_or (pt_not (pt_val (pe_callB c_is2 (by rfl) B.isinstance (by decide +kernel) (pa_cons (pv 0) (pa_cons (pe_ty (T := "tuple") (by rfl) B.tuple (by decide +kernel)) pa_nil))))) (pw_or (pt_cmpR (op_eqNil hr.h64) (pv 0) (pe_tup pa_nil) (nomark _)) (pw_or1 (pt_not (pt_val (pe_callB c_is2 (by rfl) B.isinstance (by decide +kernel) (pa_cons (pe_ix ix_tup (pv 0) pe_int (fun _ _ => rfl)) (pa_cons (pe_ty (T := "str") (by rfl) B.str (by decide +kernel)) pa_nil))))))))) (pss_one (ps_ret pe_bl))
        pss_nil)
      (pss_cons (ps_set (i := 1) sc_law_is_statement.nd rfl (Or.inl rfl) (pe_disp (pps_cons pe_str pe_int (pps_cons pe_str pe_int (pps_cons pe_str pe_int (pps_cons pe_str pe_int (pps_cons pe_str pe_int (pps_cons pe_str pe_int (pps_cons pe_str pe_int pps_nil))))))) (by rfl) (by rfl) (fun z => by cases z) (by decide)))
      (pss_cons (ps_if (pt_cmpR op_ne (pe_callB c_len (by rfl) B.len (by decide +kernel) (pa_cons (pv 0) pa_nil)) (pe_dget2 hr.hu (pv 1) (pe_ix ix_tup (pv 0) pe_int (fun _ _ => rfl)) pe_int ⟨by rfl, by rfl, by rfl, by rfl⟩) (nomark _)) (pss_one (ps_ret pe_bl))
        pss_nil)
      (pss_cons (ps_if (pt_cmpR op_eq (pe_ix ix_tup (pv 0) pe_int (fun _ _ => rfl)) pe_str (nomark _)) (pss_one (ps_ret (pe_and (pe_f G_law_is_name (hr.mono (by omega)) (by rfl) pass0 (pa_cons (pe_ix ix_tup (pv 0) pe_int (fun _ _ => rfl)) pa_nil)) (pe_one (pe_f G_law_is_expression (hr.mono (by omega)) (by rfl) pass0 (pa_cons (pe_ix ix_tup (pv 0) pe_int (fun _ _ => rfl)) (pa_cons pe_int pa_nil)))))))
        pss_nil)
      (pss_cons (ps_if (pt_cmpR op_eq (pe_ix ix_tup (pv 0) pe_int (fun _ _ => rfl)) pe_str (nomark _)) (pss_one (ps_ret (pe_f G_law_is_name (hr.mono (by omega)) (by rfl) pass0 (pa_cons (pe_ix ix_tup (pv 0) pe_int (fun _ _ => rfl)) pa_nil))))
        pss_nil)
      (pss_cons (ps_if (pt_cmpR op_in_seq (pe_ix ix_tup (pv 0) pe_int (fun _ _ => rfl)) (pe_lst (pa_cons pe_str (pa_cons pe_str pa_nil))) (by rfl)) (pss_one (ps_ret (pe_and (pe_f G_law_letters (hr.mono (by omega)) (by rfl) pass0 (pa_cons (pe_ix ix_tup (pv 0) pe_int (fun _ _ => rfl)) (pa_cons pe_int pa_nil))) (pe_one (pe_cmpR op_ne (pe_ix ix_tup (pv 0) pe_int (fun _ _ => rfl)) pe_str (nomark _))))))
        pss_nil)
      (pss_cons (ps_if (pt_cmpR op_eq (pe_ix ix_tup (pv 0) pe_int (fun _ _ => rfl)) pe_str (nomark _)) (pss_one (ps_ret (pe_f G_law_is_expression (hr.mono (by omega)) (by rfl) pass0 (pa_cons (pe_ix ix_tup (pv 0) pe_int (fun _ _ => rfl)) (pa_cons pe_int pa_nil)))))
        pss_nil)
      (pss_cons (ps_if (pt_cmpR op_eq (pe_ix ix_tup (pv 0) pe_int (fun _ _ => rfl)) pe_str (nomark _)) (pss_one (ps_ret (pe_and (pe_f G_law_is_test (hr.mono (by omega)) (by rfl) pass0 (pa_cons (pe_ix ix_tup (pv 0) pe_int (fun _ _ => rfl)) (pa_cons pe_int pa_nil))) (pe_and (pe_callB c_is2 (by rfl) B.isinstance (by decide +kernel) (pa_cons (pe_ix ix_tup (pv 0) pe_int (fun _ _ => rfl)) (pa_cons (pe_ty (T := "tuple") (by rfl) B.tuple (by decide +kernel)) pa_nil))) (pe_one (pe_callB c_is2 (by rfl) B.isinstance (by decide +kernel) (pa_cons (pe_ix ix_tup (pv 0) pe_int (fun _ _ => rfl)) (pa_cons (pe_ty (T := "tuple") (by rfl) B.tuple (by decide +kernel)) pa_nil))))))))
        pss_nil)
      (pss_one (ps_ret (pe_and (pe_f G_law_whole (hr.mono (by omega)) (by rfl) pass0 (pa_cons (pe_ix ix_tup (pv 0) pe_int (fun _ _ => rfl)) (pa_cons pe_int (pa_cons pe_int pa_nil)))) (pe_one (pe_callB c_is2 (by rfl) B.isinstance (by decide +kernel) (pa_cons (pe_ix ix_tup (pv 0) pe_int (fun _ _ => rfl)) (pa_cons (pe_ty (T := "tuple") (by rfl) B.tuple (by decide +kernel)) pa_nil))))))))))))))), ?_⟩
  cases d with
  | tuple ds =>
    obtain ⟨a, xs, rfl, hT, hL⟩ := hd.items
    rw [dsz] at hz
    walk_at "rd"
    refine ⟨by decide, fun e he => ?_⟩
    have ke : Kp [] H (upd H e (.tup [])) := Kp.nil.new he
    have hTe := sqT_kp ke hT
    refine r_eqNT hTe (SqT.of upd_same) ?_
    have hLe := hL.kp0 ke
    have hde := hd.kp0 ke
    generalize upd H e (.tup []) = H0 at ke hTe hLe hde ⊢
    cases ds with
    | nil =>
      obtain rfl := hL.inv0
      have e0 : ([] : List V).isEmpty = true := rfl
      rw [e0]
      walk_at "rd"
      exact k _ ke
    | cons d0 r =>
      obtain ⟨x, ys, rfl, h0, hR⟩ := hLe.inv
      have e0 : (x :: ys).isEmpty = false := rfl
      rw [e0]
      rw [dszs] at hz
      have hlen := hR.len
      have hx0 : atI (x :: ys) 0 = some x := at_nn (Int.le_refl 0) rfl
      walk_at "rd"
      cases hx : isaD d0 "str" with
      | false =>
        walk_at "rd"
        have q := k _ ke
        rw [isStmt_str hx] at q
        exact q
      | true =>
        obtain ⟨u, rfl⟩ := isStr_of hx
        obtain rfl := h0.isStr
        change ∀ H', Kp [] H H' → Q (.bl (isStmtL u r)) H' at k
        walk_at "rd"
        intro t ht
        walk_at "rd"
        refine ⟨upd_same, szK stmtZ, rfl, by decide, ?_⟩
        rw [stmtZ_merge]
        have k2 : Kp [] H0 (upd (upd H0 t (.dK [])) t (.dK (szK stmtZ))) := (Kp.nil.new ht).own ht
        have ht2 : upd (upd H0 t (.dK [])) t (.dK (szK stmtZ)) t = some (.dK (szK stmtZ)) := upd_same
        have kk2 := ke.trans k2
        have hT2 := sqT_kp k2 hTe
        have hR2 := hR.kp0 k2
        have hd2 := hde.kp0 k2
        generalize upd (upd H0 t (.dK [])) t (.dK (szK stmtZ)) = H2 at k2 ht2 kk2 hT2 hR2 hd2 ⊢
        walk_at "rd"
        rw [szK_get]
        walk_at "rd"
        refine ifn (fun c1 => ?_) (fun c1 => ?_)
        · walk_at "rd"
          have q := k _ kk2
          rw [isStmtL_size (fun e => c1 (by rw [List.length_cons, hlen, e]))] at q
          exact q
        have c1 : ((r.length + 1 : Nat) : Int) = szOf stmtZ u := by
          have q := V.int.inj c1
          rw [List.length_cons, hlen] at q
          exact q
        rcases stmtZ_word c1 with ⟨rfl, e2⟩ | ⟨rfl, e2⟩ | ⟨rfl, e2⟩ | ⟨rfl, e2⟩ | ⟨rfl, e2⟩ | ⟨rfl, e2⟩ | ⟨rfl, e2⟩
        · obtain ⟨y, z, d1, d2, rfl, rfl, h1, h2⟩ := hR2.is2 (hlen.trans e2)
          simp only [dszs] at hz
          unfold isStmtL isPlainL at k
          rw [if_neg (by decide +kernel), if_neg (by decide +kernel), if_pos rfl] at k
          simp only [two] at k
          walk_at "rd"
          refine ⟨y, d1, rfl, h1, by omega, fun H3 k3 => ?_⟩
          have hT3 := sqT_kp k3 hT2
          cases he : isName d1 with
          | false =>
            walk_at "rd"
            have q := k _ (kk2.trans k3)
            rw [he, Bool.false_and] at q
            exact q
          | true =>
            simp only [he, Bool.true_and] at k
            walk_at "rd"
            exact ⟨z, d2, rfl, h2.kp0 k3, by omega, fun H4 k4 => k _ ((kk2.trans k3).trans k4)⟩
        · obtain ⟨y, d1, rfl, rfl, h1⟩ := hR2.is1 (hlen.trans e2)
          simp only [dszs] at hz
          unfold isStmtL isPlainL at k
          rw [if_neg (by decide +kernel), if_neg (by decide +kernel), if_neg (by decide +kernel), if_pos rfl] at k
          walk_at "rd"
          exact ⟨y, d1, rfl, h1, by omega, fun H4 k4 => k _ (kk2.trans k4)⟩
        · obtain ⟨y, d1, rfl, rfl, h1⟩ := hR2.is1 (hlen.trans e2)
          simp only [dszs] at hz
          unfold isStmtL isPlainL at k
          rw [if_neg (by decide +kernel), if_neg (by decide +kernel), if_neg (by decide +kernel), if_neg (by decide +kernel), if_pos rfl] at k
          walk_at "rd"
          refine ⟨by decide, fun p hp => ?_⟩
          have k5 : Kp [] H2 (upd H2 p (.lst [.str "say", .str "stop"])) := Kp.nil.new hp
          have hT5 := sqT_kp k5 hT2
          have kk5 := kk2.trans k5
          have h1' := h1.kp0 k5
          refine ⟨p, _, rfl, .inl (SqL.of upd_same), rfl, rfl, ?_⟩
          rw [if_neg Bool.false_ne_true, inV_two "tell" "say" "stop"]
          generalize upd H2 p (.lst [.str "say", .str "stop"]) = H5 at k5 hT5 kk5 h1' ⊢
          rw [show (decide (("tell" : Str) = "say") || decide (("tell" : Str) = "stop")) = false from by decide +kernel]
          walk_at "rd"
          exact ⟨y, d1, rfl, h1', by omega, fun H4 k4 => k _ (kk5.trans k4)⟩
        · obtain ⟨y, d1, rfl, rfl, h1⟩ := hR2.is1 (hlen.trans e2)
          simp only [dszs] at hz
          unfold isStmtL isPlainL at k
          rw [if_neg (by decide +kernel), if_neg (by decide +kernel), if_neg (by decide +kernel), if_neg (by decide +kernel), if_neg (by decide +kernel), if_pos (.inl rfl)] at k
          walk_at "rd"
          refine ⟨by decide, fun p hp => ?_⟩
          have k5 : Kp [] H2 (upd H2 p (.lst [.str "say", .str "stop"])) := Kp.nil.new hp
          have hT5 := sqT_kp k5 hT2
          have kk5 := kk2.trans k5
          refine ⟨p, _, rfl, .inl (SqL.of upd_same), rfl, rfl, ?_⟩
          rw [if_neg Bool.false_ne_true, inV_two "say" "say" "stop"]
          generalize upd H2 p (.lst [.str "say", .str "stop"]) = H5 at k5 hT5 kk5 ⊢
          rw [show (decide (("say" : Str) = "say") || decide (("say" : Str) = "stop")) = true from by decide +kernel]
          walk_at "rd"
          refine ⟨y, d1, rfl, h1.kp0 k5, by omega, fun H6 k6 => ?_⟩
          have hT6 := sqT_kp k6 hT5
          cases hl : isLetD d1 with
          | false =>
            have q := k _ (kk5.trans k6)
            rw [show one isWord [d1] = false from isWord_let0 hl] at q
            walk_at "rd"
            exact q
          | true =>
            obtain ⟨x, rfl⟩ := isLetD_str hl
            obtain rfl := h1.isStr
            have q := k _ (kk5.trans k6)
            rw [show one isWord [.str x] = !decide (x = "unsure") from isWord_let hl] at q
            walk_at "rd"
            rw [show decide (V.str x = V.str "unsure") = decide (x = "unsure") from decide_eq_decide.mpr ⟨fun e => V.str.inj e, fun e => by rw [e]⟩]
            exact q
        · obtain ⟨y, d1, rfl, rfl, h1⟩ := hR2.is1 (hlen.trans e2)
          simp only [dszs] at hz
          unfold isStmtL isPlainL at k
          rw [if_neg (by decide +kernel), if_neg (by decide +kernel), if_neg (by decide +kernel), if_neg (by decide +kernel), if_neg (by decide +kernel), if_pos (.inr rfl)] at k
          walk_at "rd"
          refine ⟨by decide, fun p hp => ?_⟩
          have k5 : Kp [] H2 (upd H2 p (.lst [.str "say", .str "stop"])) := Kp.nil.new hp
          have hT5 := sqT_kp k5 hT2
          have kk5 := kk2.trans k5
          refine ⟨p, _, rfl, .inl (SqL.of upd_same), rfl, rfl, ?_⟩
          rw [if_neg Bool.false_ne_true, inV_two "stop" "say" "stop"]
          generalize upd H2 p (.lst [.str "say", .str "stop"]) = H5 at k5 hT5 kk5 ⊢
          rw [show (decide (("stop" : Str) = "say") || decide (("stop" : Str) = "stop")) = true from by decide +kernel]
          walk_at "rd"
          refine ⟨y, d1, rfl, h1.kp0 k5, by omega, fun H6 k6 => ?_⟩
          have hT6 := sqT_kp k6 hT5
          cases hl : isLetD d1 with
          | false =>
            have q := k _ (kk5.trans k6)
            rw [show one isWord [d1] = false from isWord_let0 hl] at q
            walk_at "rd"
            exact q
          | true =>
            obtain ⟨x, rfl⟩ := isLetD_str hl
            obtain rfl := h1.isStr
            have q := k _ (kk5.trans k6)
            rw [show one isWord [.str x] = !decide (x = "unsure") from isWord_let hl] at q
            walk_at "rd"
            rw [show decide (V.str x = V.str "unsure") = decide (x = "unsure") from decide_eq_decide.mpr ⟨fun e => V.str.inj e, fun e => by rw [e]⟩]
            exact q
        · obtain ⟨x1, x2, x3, d1, d2, d3, rfl, rfl, h1, h2, h3⟩ := hR2.is3 (hlen.trans e2)
          simp only [dszs] at hz
          unfold isStmtL at k
          rw [if_pos rfl] at k
          simp only [three] at k
          walk_at "rd"
          refine ⟨by decide, fun p hp => ?_⟩
          have k5 : Kp [] H2 (upd H2 p (.lst [.str "say", .str "stop"])) := Kp.nil.new hp
          have hT5 := sqT_kp k5 hT2
          have kk5 := kk2.trans k5
          have h1' := h1.kp0 k5
          have h2' := h2.kp0 k5
          have h3' := h3.kp0 k5
          refine ⟨p, _, rfl, .inl (SqL.of upd_same), rfl, rfl, ?_⟩
          rw [if_neg Bool.false_ne_true, inV_two "if" "say" "stop"]
          generalize upd H2 p (.lst [.str "say", .str "stop"]) = H5 at k5 hT5 kk5 h1' h2' h3' ⊢
          rw [show (decide (("if" : Str) = "say") || decide (("if" : Str) = "stop")) = false from by decide +kernel]
          walk_at "rd"
          refine ⟨x1, d1, rfl, h1', by omega, fun H6 k6 => ?_⟩
          have hT6 := sqT_kp k6 hT5
          have h2 := h2'.kp0 k6
          have h3 := h3'.kp0 k6
          cases he : isTest 2 d1 with
          | false =>
            walk_at "rd"
            have q := k _ (kk5.trans k6)
            rw [he, Bool.false_and] at q
            exact q
          | true =>
            simp only [he, Bool.true_and] at k
            rw [← isa_tup, ← isa_tup] at k
            have q := k _ (kk5.trans k6)
            walk_at "rd"
            refine r_is2 h2 (by decide) ?_
            cases ht : isaD d2 "tuple" with
            | false =>
              rw [ht, Bool.false_and] at q
              walk_at "rd"
              exact q
            | true =>
              rw [ht, Bool.true_and] at q
              walk_at "rd"
              exact r_is2 h3 (by decide) q
        · obtain ⟨x1, x2, d1, d2, rfl, rfl, h1, h2⟩ := hR2.is2 (hlen.trans e2)
          simp only [dszs] at hz
          unfold isStmtL at k
          rw [if_neg (by decide +kernel), if_pos rfl] at k
          simp only [two] at k
          walk_at "rd"
          refine ⟨by decide, fun p hp => ?_⟩
          have k5 : Kp [] H2 (upd H2 p (.lst [.str "say", .str "stop"])) := Kp.nil.new hp
          have hT5 := sqT_kp k5 hT2
          have kk5 := kk2.trans k5
          have h1' := h1.kp0 k5
          have h2' := h2.kp0 k5
          refine ⟨p, _, rfl, .inl (SqL.of upd_same), rfl, rfl, ?_⟩
          rw [if_neg Bool.false_ne_true, inV_two "repeat" "say" "stop"]
          generalize upd H2 p (.lst [.str "say", .str "stop"]) = H5 at k5 hT5 kk5 h1' h2' ⊢
          rw [show (decide (("repeat" : Str) = "say") || decide (("repeat" : Str) = "stop")) = false from by decide +kernel]
          walk_at "rd"
          refine ⟨x1, d1, _, _, rfl, h1', ?_⟩
          have q := k _ kk5
          cases he : isWhole 0 8 d1 with
          | false =>
            rw [he, Bool.false_and] at q
            walk_at "rd"
            exact q
          | true =>
            rw [he, Bool.true_and, ← isa_tup] at q
            walk_at "rd"
            exact r_is2 h2' (by decide) q
  | _ => walk_at "rd"; exact k _ Kp.nil
abbrev s_law_counts : Stmt := topS 47
abbrev N_law_counts : List Str := ["_law_block", "_law_found", "_law_row", "_law_test", "_law_own", "_law_part", "_law_inner", "_law_times", "_law_k"]
abbrev P_law_counts : List Str := ["_law_block"]
theorem sc_law_counts : FnScope N_law_counts P_law_counts (defScope s_law_counts) :=
  ⟨rfl, rfl, rfl, by decide +kernel, rfl, by decide +kernel, by decide +kernel⟩
theorem ok_law_counts1 (D : Df K mg "_law_counts" s_law_counts P_law_counts) (B : Blt mg) {n lv : Nat} {sp2 : Sp}
    (G_law_counts : Has P w K mg base CX0 "_law_counts" P_law_counts lv sp2) (hs : ∀ m, n = m + 1 → sp2 = spCnt4 K m) :
    Has P w K mg base CX0 "_law_counts" P_law_counts (lv + 1) (spCnt4 K n) := by
  refine D.has sc_law_counts (fun vs H Q E h => ?_) (fun f cdv A outer s H vs Q E hr h => ?_)
  · obtain ⟨M, v, b, rfl, _⟩ := h
    rfl
  obtain ⟨M, v, b, rfl, hd, hv, k⟩ := h
  refine ⟨_, (pss_cons (ps_set (i := 1) sc_law_counts.nd rfl (Or.inr rfl) (pe_lst (pa_cons pe_int (pa_cons pe_int (pa_cons pe_int (pa_cons pe_int pa_nil))))))
      (pss_cons (ps_for PassesOwn.never rfl (pi_tup (pv 0)) (pg_name (i := 2) sc_law_counts.nd rfl (Or.inl rfl))
        (pss_cons (ps_set (i := 3) sc_law_counts.nd rfl (Or.inl rfl) (pe_ifExp (pt_cmpR op_eq (pe_ix ix_tup (pv 2) pe_int (fun _ _ => rfl)) pe_str (nomark _)) (pe_ix ix_tup (pv 2) pe_int (fun _ _ => rfl)) (pe_tup (pa_cons pe_str pa_nil))))
      (pss_cons (ps_while PassesOwn.never (pt_cmpR op_eq (pe_ix ix_tup (pv 3) pe_int (fun _ _ => rfl)) pe_str (nomark _)) (pss_one (ps_set (i := 3) sc_law_counts.nd rfl (Or.inl rfl) (pe_ix ix_tup (pv 3) pe_int (fun _ _ => rfl)))))
      (pss_cons (ps_set (i := 4) sc_law_counts.nd rfl (Or.inr rfl) (pe_lst (pa_cons pe_int (pa_cons pe_int (pa_cons (pe_callTy c_int (by rfl) B.int (by decide +kernel) (pa_cons (pe_cmpR op_eq (pe_ix ix_tup (pv 3) pe_int (fun _ _ => rfl)) pe_str (nomark _)) pa_nil)) (pa_cons (pe_callTy c_int (by rfl) B.int (by decide +kernel) (pa_cons (pe_cmpR op_eq (pe_ix ix_tup (pv 3) pe_int (fun _ _ => rfl)) pe_str (nomark _)) pa_nil)) pa_nil))))))
      (pss_cons (ps_for PassesOwn.never rfl (pi_tup (pe_ifExp (pt_cmpR op_in_seq (pe_ix ix_tup (pv 2) pe_int (fun _ _ => rfl)) (pe_tup (pa_cons pe_str (pa_cons pe_str pa_nil))) (by rfl)) (pe_slice sl_tup (pv 2) (po_some pe_int) po_none) (pe_tup pa_nil))) (pg_name (i := 5) sc_law_counts.nd rfl (Or.inl rfl))
        (pss_cons (ps_asg (pe_tup (pa_cons (pe_f G_law_counts (hr.mono (by omega)) (by rfl) pass0 (pa_cons (pv 5) pa_nil)) (pa_cons (pe_ifExp (pt_cmpR op_eq (pe_ix ix_tup (pv 2) pe_int (fun _ _ => rfl)) pe_str (nomark _)) (pe_ix ix_tup (pv 2) pe_int (fun _ _ => rfl)) pe_int) pa_nil))) (pg_tup rfl (pgs_cons (pg_name (i := 6) sc_law_counts.nd rfl (Or.inr rfl)) (pgs_cons (pg_name (i := 7) sc_law_counts.nd rfl (Or.inr rfl)) pgs_nil))))
      (pss_one (ps_set (i := 4) sc_law_counts.nd rfl (Or.inr rfl) (pe_op op_cat (pe_lst (pa_cons (pe_op op_add (pe_ix ix_list (pv 4) pe_int (fun _ _ => rfl)) (pe_ix ix_list (pv 6) pe_int (fun _ _ => rfl))) pa_nil)) (pe_lc (own := [("_law_k", 8)]) (g := gName 8) (by rfl) sc_law_counts.nd (pi_range2 (by rfl) B.range (pa_cons pe_int (pa_cons pe_int pa_nil))) (blkOk_by (own := [("_law_k", 8)]) (N := N_law_counts) (sc := defScope s_law_counts) (by decide +kernel)) (fun _ _ _ _ _ => (pg_name (i := 8) sc_law_counts.nd rfl (Or.inl rfl))) (fun _ _ _ _ _ => pts_nil) (fun _ _ _ _ _ => (pe_op op_add (pe_ix (ix_listK (K := K) rfl) (pv 4) (pv 8) (fun _ _ => rfl)) (pe_op op_mul (pv 7) (pe_ix (ix_listK (K := K) rfl) (pv 6) (pv 8) (fun _ _ => rfl)))))))))))
      (pss_one (ps_set (i := 1) sc_law_counts.nd rfl (Or.inr rfl) (pe_lc (own := [("_law_k", 8)]) (g := gName 8) (by rfl) sc_law_counts.nd (pi_range1 (by rfl) B.range (pa_cons pe_int pa_nil)) (blkOk_by (own := [("_law_k", 8)]) (N := N_law_counts) (sc := defScope s_law_counts) (by decide +kernel)) (fun _ _ _ _ _ => (pg_name (i := 8) sc_law_counts.nd rfl (Or.inl rfl))) (fun _ _ _ _ _ => pts_nil) (fun _ _ _ _ _ => (pe_op op_add (pe_ix (ix_listK (K := K) rfl) (pv 1) (pv 8) (fun _ _ => rfl)) (pe_ix (ix_listK (K := K) rfl) (pv 4) (pv 8) (fun _ _ => rfl))))))))))))
      (pss_one (ps_ret (pv 1))))), ?_⟩
  obtain ⟨a, xs, rfl, hT, hL⟩ := hd.items
  have hlen : xs.length = b.length := by rw [hL.len, Sm.ds_map, List.length_map]
  walk_at "rd"
  refine ⟨by decide, fun f0 hf0 => ?_⟩
  walk_at "rd"
  refine r_ForT (xs := xs) (sqT_kp (Kp.nil.new hf0) hT) (fun i σ H' => ∃ (fo : Addr) (rx tx ox px ix mx kx : Option V), σ = [some (.ref a), some (.ref fo), rx, tx, ox, px, ix, mx, kx] ∧ Kp [] H H' ∧ H fo = none ∧ H' fo = some (.lst (cnt4 (b.take i))))
    ⟨f0, none, none, none, none, none, none, none, rfl, Kp.nil.new hf0, hf0, upd_same⟩ (fun i σ H' ⟨_, _, _, _, _, _, _, _, _, q, _⟩ => sqT_kp q hT) ?_ ?_
  · rintro i x σ H1 hx ⟨fo, rx, tx, ox, px, ix, mx, kx, rfl, k1, hfo0, hfo⟩
    obtain ⟨dd, hdd, hxd⟩ := hL.get hx
    rw [Sm.ds_map, List.getElem?_map] at hdd
    obtain ⟨sm, hsm, rfl⟩ := Option.map_eq_some_iff.mp hdd
    have hmem : sm ∈ b := List.mem_of_getElem? hsm
    obtain ⟨m, rfl⟩ : ∃ m, n = m + 1 := by
      cases n with
      | zero =>
        rw [show b = [] from hv] at hmem
        cases hmem
      | succ m => exact ⟨m, rfl⟩
    have hsv : Sm.vd m sm := hv sm hmem
    obtain rfl := hs m rfl
    have hx1 := hxd.kp0 k1
    have htk : b.take (i + 1) = b.take i ++ [sm] := by rw [List.take_add_one, hsm]; rfl
    have hag : 0 ≤ sm.again ∧ sm.again ≤ 8 := by
      cases sm with
      | rep kk y => cases m <;> exact ⟨hsv.1, hsv.2.1⟩
      | _ => exact ⟨by show (0 : Int) ≤ 1; decide, by show (1 : Int) ≤ 8; decide⟩
    walk_at "rdj"
    refine r_ifJ (fun v H4 => Kp [] H1 H4 ∧ ∃ hm, HdT M K H4 v sm.wd hm) (fun Q' kQ => ?_) ?_
    · cases sm with
      | pl p =>
        obtain ⟨u, r, e, n1, n2⟩ := Pl.hd p
        rw [Sm.d, e] at hx1
        obtain ⟨a3, ws, rfl, hT3, hL3⟩ := hx1.items
        obtain ⟨z, zs, rfl, h0, hR⟩ := hL3.inv
        obtain rfl := h0.isStr
        have hx0 : atI (V.str u :: zs) 0 = some (V.str u) := at_nn (Int.le_refl 0) rfl
        walk_at "rd"
        refine ifd (fun c => absurd (V.str.inj c) n1) fun _ => ?_
        walk_at "rd"
        exact ⟨by decide, fun p hp => kQ _ _ ⟨Kp.nil.new hp, 0, .inr ⟨p, rfl, SqT.of upd_same, rfl, rfl⟩⟩⟩
      | rep kk y =>
        rw [Sm.d] at hx1
        obtain ⟨a3, ws, rfl, hT3, hL3⟩ := hx1.items
        obtain ⟨x0, x1, x2, d0, d1, d2, rfl, e, h0, h1, h2⟩ := hL3.is3 hL3.len
        cases e
        obtain rfl := h0.isStr
        walk_at "rd"
        exact ⟨by decide, fun p hp => kQ _ _ ⟨Kp.nil.new hp, 0, .inr ⟨p, rfl, SqT.of upd_same, rfl, rfl⟩⟩⟩
      | ifs t y z =>
        rw [Sm.d] at hx1
        obtain ⟨a3, ws, rfl, hT3, hL3⟩ := hx1.items
        obtain ⟨x0, x1, x2, x3, d0, d1, d2, d3, rfl, e, h0, h1, h2, h3⟩ := hL3.is4 hL3.len
        cases e
        obtain rfl := h0.isStr
        walk_at "rd"
        exact kQ _ _ ⟨Kp.nil, t.high, .inl ⟨t, h1, rfl, rfl⟩⟩
    rintro tv H2 ⟨k2, hm, hHd⟩
    have kk2 := k1.trans k2
    have hx2 := hx1.kp0 k2
    have hfo2 := k2.get hfo (by simp)
    walk_at "rdj"
    refine r_while (fun m' σ H' => ∃ tv, σ = [some (.ref a), some (.ref fo), some x, some tv, ox, px, ix, mx, kx] ∧ H' = H2 ∧ HdT M K H2 tv sm.wd m') hm ⟨tv, rfl, rfl, hHd⟩ ?_
    rintro m' σ H3 ⟨tv, rfl, rfl, hHd⟩
    obtain ⟨ta, tys, rfl, hTt, htw, hnot⟩ : ∃ (ta : Addr) (tys : List V), tv = .ref ta ∧ SqT K H3 ta tys ∧ ((∃ y m2, tys = [.str "not", y] ∧ m2 < m' ∧ HdT M K H3 y sm.wd m2) ∨ atI tys 0 = some (.str sm.wd) ∧ sm.wd ≠ "not") ∧ True := by
      rcases hHd with ⟨t, ht, hb, hh⟩ | ⟨ta, rfl, hTa, hw, hh⟩
      · cases t with
        | not t =>
          obtain ⟨ta, ws, rfl, hT3, hL3⟩ := ht.items
          obtain ⟨x0, x1, d0, d1, rfl, e, h0, h1⟩ := hL3.is2 hL3.len
          cases e
          obtain rfl := h0.isStr
          exact ⟨ta, _, rfl, hT3, .inl ⟨x1, t.high, rfl, by rw [← hh]; show t.high < t.high + 1; omega, .inl ⟨t, h1, hb, rfl⟩⟩, trivial⟩
        | given y =>
          obtain ⟨ta, ys, e, hT3, h0⟩ := Ts.headW ht
          refine ⟨ta, _, e, hT3, .inr ⟨by rw [← hb]; exact h0, by rw [← hb]; show ("given" : Str) ≠ "not"; decide +kernel⟩, trivial⟩
        | rest e0 b0 r0 =>
          obtain ⟨ta, ys, e, hT3, h0⟩ := Ts.headW ht
          refine ⟨ta, _, e, hT3, .inr ⟨by rw [← hb]; exact h0, by rw [← hb]; show ("rest" : Str) ≠ "not"; decide +kernel⟩, trivial⟩
        | less e0 b0 =>
          obtain ⟨ta, ys, e, hT3, h0⟩ := Ts.headW ht
          refine ⟨ta, _, e, hT3, .inr ⟨by rw [← hb]; exact h0, by rw [← hb]; show ("less" : Str) ≠ "not"; decide +kernel⟩, trivial⟩
      · exact ⟨ta, _, rfl, hTa, .inr ⟨by rw [hw]; exact at_nn (Int.le_refl 0) rfl, by rw [hw]; decide +kernel⟩, trivial⟩
    rcases htw with ⟨y, m2, rfl, hm2, hy⟩ | ⟨hat, hne⟩
    · walk_at "rdj"
      refine r_turn ?_
      walk_at "rdj"
      exact ⟨m2, hm2, y, rfl, rfl, hy⟩
    walk_at "rdj"
    refine ifd (fun c => absurd (V.str.inj c) hne) fun _ => ?_
    walk_at "rdj"
    refine ⟨by walk_at "sz", fun o ho => ?_⟩
    have eo : [V.int 1, V.int 1, V.int (if decide (V.str sm.wd = V.str "rest") = true then 1 else 0), V.int (if decide (V.str sm.wd = V.str "less") = true then 1 else 0)] = own4 sm [] := own4_nil sm
    rw [eo]
    have k4 : Kp [] H3 (upd H3 o (.lst (own4 sm []))) := Kp.nil.new ho
    have ho4 : upd H3 o (.lst (own4 sm [])) o = some (.lst (own4 sm [])) := upd_same
    have hfo4 := k4.get hfo2 (by simp)
    have hx4 := hx2.kp0 k4
    have kk4 := kk2.trans k4
    have ho0 : H o = none := kk2.free (fun b hb => by cases hb) ho
    generalize upd H3 o (.lst (own4 sm [])) = H4 at k4 ho4 hfo4 hx4 kk4 ⊢
    walk_at "rdj"
    refine r_ifJ (fun v H5 => ∃ (q : Addr) (ws : List V), v = .ref q ∧ Kp [] H4 H5 ∧ SqT K H5 q ws ∧ DwL M K H5 ws (sm.parts.map fun c => PyData.tuple (Sm.ds c))) (fun Q' kQ => ?_) ?_
    · cases sm with
      | pl p =>
        obtain ⟨u, r, e, n1, n2⟩ := Pl.hd p
        rw [Sm.d, e] at hx4
        obtain ⟨a3, ws, rfl, hT3, hL3⟩ := hx4.items
        obtain ⟨z, zs, rfl, h0, hR⟩ := hL3.inv
        obtain rfl := h0.isStr
        have hx0 : atI (V.str u :: zs) 0 = some (V.str u) := at_nn (Int.le_refl 0) rfl
        walk_at "rd"
        refine ⟨by decide, fun t ht => ?_⟩
        have k5 : Kp [] H4 (upd H4 t (.tup [.str "if", .str "repeat"])) := Kp.nil.new ht
        refine r_in (.inr (SqT.of upd_same)) rfl rfl ?_
        rw [inV_two u "if" "repeat", decide_eq_false n1, decide_eq_false n2]
        generalize upd H4 t (.tup [.str "if", .str "repeat"]) = H5 at k5 ⊢
        walk_at "rd"
        refine ⟨by decide, fun p hp => kQ _ _ ⟨p, [], rfl, k5.new hp, SqT.of upd_same, DwL.nil⟩⟩
      | rep kk y =>
        rw [Sm.d] at hx4
        obtain ⟨a3, ws, rfl, hT3, hL3⟩ := hx4.items
        obtain ⟨x0, x1, x2, d0, d1, d2, rfl, e, h0, h1, h2⟩ := hL3.is3 hL3.len
        cases e
        obtain rfl := h0.isStr
        walk_at "rd"
        refine ⟨by decide, fun t ht => ?_⟩
        have k5 : Kp [] H4 (upd H4 t (.tup [.str "if", .str "repeat"])) := Kp.nil.new ht
        have hT5 := sqT_kp k5 hT3
        refine r_inT (.inr (SqT.of upd_same)) rfl rfl (by decide +kernel) ?_
        generalize upd H4 t (.tup [.str "if", .str "repeat"]) = H5 at k5 hT5 ⊢
        walk_at "rd"
        refine r_slT hT5 (by simp only [List.length_cons, List.length_nil]; decide +kernel) fun p hp => kQ _ _ ⟨p, [x2], rfl, k5.new hp, SqT.of upd_same, DwL.cons (h2.kp0 (k5.new hp)) DwL.nil⟩
      | ifs t0 y z =>
        rw [Sm.d] at hx4
        obtain ⟨a3, ws, rfl, hT3, hL3⟩ := hx4.items
        obtain ⟨x0, x1, x2, x3, d0, d1, d2, d3, rfl, e, h0, h1, h2, h3⟩ := hL3.is4 hL3.len
        cases e
        obtain rfl := h0.isStr
        walk_at "rd"
        refine ⟨by decide, fun t ht => ?_⟩
        have k5 : Kp [] H4 (upd H4 t (.tup [.str "if", .str "repeat"])) := Kp.nil.new ht
        have hT5 := sqT_kp k5 hT3
        refine r_inT (.inr (SqT.of upd_same)) rfl rfl (by decide +kernel) ?_
        generalize upd H4 t (.tup [.str "if", .str "repeat"]) = H5 at k5 hT5 ⊢
        walk_at "rd"
        refine r_slT hT5 (by simp only [List.length_cons, List.length_nil]; decide +kernel) fun p hp => kQ _ _ ⟨p, [x2, x3], rfl, k5.new hp, SqT.of upd_same, DwL.cons (h2.kp0 (k5.new hp)) (DwL.cons (h3.kp0 (k5.new hp)) DwL.nil)⟩
    rintro v H5 ⟨q, ws, rfl, k5, hTq, hLq⟩
    have kk5 := kk4.trans k5
    have hx5 := hx4.kp0 k5
    have hfo5 := k5.get hfo4 (by simp)
    have ho5 := k5.get ho4 (by simp)
    refine r_ForT (xs := ws) hTq (fun j σ H' => ∃ (o : Addr) (px ix mx kx : Option V), σ = [some (.ref a), some (.ref fo), some x, some (.ref ta), some (.ref o), px, ix, mx, kx] ∧ Kp [] H5 H' ∧ H o = none ∧ H' o = some (.lst (own4 sm (sm.parts.take j))))
      ⟨o, px, ix, mx, kx, rfl, Kp.nil, ho0, ho5⟩ (fun j σ H' ⟨_, _, _, _, _, _, q, _⟩ => sqT_kp q hTq) ?_ ?_
    · rintro j u σ H6 hu ⟨o, px, ix, mx, kx, rfl, k6, ho60, ho6⟩
      obtain ⟨du, hdu, hud⟩ := hLq.get hu
      rw [List.getElem?_map] at hdu
      obtain ⟨pt, hpt, rfl⟩ := Option.map_eq_some_iff.mp hdu
      have hpm : pt ∈ sm.parts := List.mem_of_getElem? hpt
      have hjk : sm.parts.take (j + 1) = sm.parts.take j ++ [pt] := by rw [List.take_add_one, hpt]; rfl
      walk_at "rdj"
      refine ⟨M, u, pt, rfl, hud.kp0 k6, hsv.parts pt hpm, fun H7 p hp k7 hp7 => ?_⟩
      have kk7 := k6.trans k7
      have hx7 := hx5.kp0 kk7
      have ho7 := k7.get ho6 (by simp)
      walk_at "rdj"
      refine r_ifJ (fun v H8 => v = .int sm.again ∧ H8 = H7) (fun Q' kQ => ?_) ?_
      · cases sm with
        | pl p =>
          obtain ⟨u, r, e, n1, n2⟩ := Pl.hd p
          rw [Sm.d, e] at hx7
          obtain ⟨a3, ws, rfl, hT3, hL3⟩ := hx7.items
          obtain ⟨z, zs, rfl, h0, hR⟩ := hL3.inv
          obtain rfl := h0.isStr
          have hx0 : atI (V.str u :: zs) 0 = some (V.str u) := at_nn (Int.le_refl 0) rfl
          walk_at "rd"
          refine ifd (fun c => absurd (V.str.inj c) n2) fun _ => ?_
          walk_at "rd"
          exact kQ _ _ ⟨rfl, rfl⟩
        | ifs t y z =>
          rw [Sm.d] at hx7
          obtain ⟨a3, ws, rfl, hT3, hL3⟩ := hx7.items
          obtain ⟨x0, x1, x2, x3, d0, d1, d2, d3, rfl, e, h0, h1, h2, h3⟩ := hL3.is4 hL3.len
          cases e
          obtain rfl := h0.isStr
          walk_at "rd"
          exact kQ _ _ ⟨rfl, rfl⟩
        | rep kk y =>
          rw [Sm.d] at hx7
          obtain ⟨a3, ws, rfl, hT3, hL3⟩ := hx7.items
          obtain ⟨x0, x1, x2, d0, d1, d2, rfl, e, h0, h1, h2⟩ := hL3.is3 hL3.len
          cases e
          obtain rfl := h0.isStr
          obtain rfl := h1.isInt
          walk_at "rd"
          exact kQ _ _ ⟨rfl, rfl⟩
      rintro v H8 ⟨rfl, rfl⟩
      walk_at "rdj"
      refine ⟨by walk_at "sz", fun t ht => ?_⟩
      have k9 : Kp [] H8 (upd H8 t (.tup [.ref p, .int sm.again])) := Kp.nil.new ht
      have ho9 := k9.get ho7 (by simp)
      have hp9 := k9.get hp7 (by simp)
      have hT9 : SqT K (upd H8 t (.tup [.ref p, .int sm.again])) t [.ref p, .int sm.again] := SqT.of upd_same
      have kk9 := kk7.trans k9
      generalize upd H8 t (.tup [.ref p, .int sm.again]) = H9 at k9 ho9 hp9 hT9 kk9 ⊢
      unfold own4 at ho9
      unfold cnt4 at hp9
      walk_at "rdj"
      refine ⟨by walk_at "sz", fun l hl => ?_⟩
      have k10 : Kp [] H9 (upd H9 l (.lst [.int (1 + sumZ (sm.parts.take j) + (Sm.sizes pt : Nat))])) := Kp.nil.new hl
      have ho10 := k10.get ho9 (by simp)
      have hp10 := k10.get hp9 (by simp)
      have hl10 : upd H9 l (.lst [.int (1 + sumZ (sm.parts.take j) + (Sm.sizes pt : Nat))]) l = some (.lst [.int (1 + sumZ (sm.parts.take j) + (Sm.sizes pt : Nat))]) := upd_same
      have kk10 := kk9.trans k10
      generalize upd H9 l (.lst [.int (1 + sumZ (sm.parts.take j) + (Sm.sizes pt : Nat))]) = H10 at k10 ho10 hp10 hl10 kk10 ⊢
      walk_at "rdj"
      refine r_LcR2 (by decide) fun g hg => ⟨fun i' H' => Kp [] H10 H' ∧ H' g = some (.lst ([V.int (sm.own "weight" + sm.again * sumC "weight" (sm.parts.take j) + sm.again * Sm.cnts "weight" pt),
        V.int (sm.own "rest" + sm.again * sumC "rest" (sm.parts.take j) + sm.again * Sm.cnts "rest" pt), V.int (sm.own "less" + sm.again * sumC "less" (sm.parts.take j) + sm.again * Sm.cnts "less" pt)].take i')), ⟨Kp.nil.new hg, upd_same⟩, ?_, ?_⟩
      · rintro i' H11 hi' ⟨k11, hg11⟩
        have ho11 := k11.get ho10 (by simp)
        have hp11 := k11.get hp10 (by simp)
        have hi3 : i' = 0 ∨ i' = 1 ∨ i' = 2 := by
          have : ((4 : Int) - 1).toNat = 3 := by decide
          omega
        rcases hi3 with rfl | rfl | rfl
        · walk_at "rdj"
          · exact r_LcEnd hg11 (by simp only [List.length_take, List.length_cons, List.length_nil, sizeLine_eq]; omega) ⟨k11.own hg, upd_same⟩
          · exact c_mulL (by omega) (by omega)
        · walk_at "rdj"
          · exact r_LcEnd hg11 (by simp only [List.length_take, List.length_cons, List.length_nil, sizeLine_eq]; omega) ⟨k11.own hg, upd_same⟩
          · exact c_mulL (by omega) (by omega)
        · walk_at "rdj"
          · exact r_LcEnd hg11 (by simp only [List.length_take, List.length_cons, List.length_nil, sizeLine_eq]; omega) ⟨k11.own hg, upd_same⟩
          · exact c_mulL (by omega) (by omega)
      · rintro H11 ⟨k11, hg11⟩
        have hl11 := k11.get hl10 (by simp)
        refine r_cat hl11 hg11 (by simp only [List.length_take, List.length_cons, List.length_nil, sizeLine_eq]; omega) fun r hr' => ?_
        walk_at "rdj"
        refine ⟨r, _, _, _, _, rfl, (kk10.trans k11).new hr', ?_, ?_⟩
        · exact (kk5.trans (kk10.trans k11)).free (fun b hb => by cases hb) hr'
        · rw [upd_same, hjk, own4_snoc]
          rfl
    · rintro σ H6 ⟨o, px, ix, mx, kx, rfl, k6, ho60, ho6⟩
      have hfo6 := k6.get hfo5 (by simp)
      have hwl := hLq.len
      rw [List.length_map] at hwl
      rw [hwl, List.take_length] at ho6
      unfold own4 at ho6
      unfold cnt4 at hfo6
      walk_at "rdj"
      refine r_LcR (by decide) (by decide) fun g hg => ⟨fun i' H' => Kp [] H6 H' ∧ H' g = some (.lst ([V.int ((Sm.sizes (b.take i) : Nat) + (1 + sumZ sm.parts)), V.int (Sm.cnts "weight" (b.take i) + (sm.own "weight" + sm.again * sumC "weight" sm.parts)),
        V.int (Sm.cnts "rest" (b.take i) + (sm.own "rest" + sm.again * sumC "rest" sm.parts)), V.int (Sm.cnts "less" (b.take i) + (sm.own "less" + sm.again * sumC "less" sm.parts))].take i')), ⟨Kp.nil.new hg, upd_same⟩, ?_, ?_⟩
      · rintro i' H7 hi' ⟨k7, hg7⟩
        have ho7 := k7.get ho6 (by simp)
        have hfo7 := k7.get hfo6 (by simp)
        have hi4 : i' = 0 ∨ i' = 1 ∨ i' = 2 ∨ i' = 3 := by
          have : (4 : Int).toNat = 4 := by decide
          omega
        rcases hi4 with rfl | rfl | rfl | rfl
        · walk_at "rdj"
          exact r_LcEnd hg7 (by simp only [List.length_take, List.length_cons, List.length_nil, sizeLine_eq]; omega) ⟨k7.own hg, upd_same⟩
        · walk_at "rdj"
          exact r_LcEnd hg7 (by simp only [List.length_take, List.length_cons, List.length_nil, sizeLine_eq]; omega) ⟨k7.own hg, upd_same⟩
        · walk_at "rdj"
          exact r_LcEnd hg7 (by simp only [List.length_take, List.length_cons, List.length_nil, sizeLine_eq]; omega) ⟨k7.own hg, upd_same⟩
        · walk_at "rdj"
          exact r_LcEnd hg7 (by simp only [List.length_take, List.length_cons, List.length_nil, sizeLine_eq]; omega) ⟨k7.own hg, upd_same⟩
      · rintro H7 ⟨k7, hg7⟩
        walk_at "rdj"
        have kk6 := kk5.trans k6
        refine ⟨g, _, _, _, _, _, _, _, rfl, kk6.trans k7, kk6.free (fun b hb => by cases hb) hg, ?_⟩
        rw [hg7, htk, cnt4_snoc]
        rfl
  · rintro σ H1 ⟨fo, rx, tx, ox, px, ix, mx, kx, rfl, k1, hfo0, hfo⟩
    walk_at "rd"
    rw [hlen, List.take_length] at hfo
    exact k _ fo hfo0 k1 hfo
abbrev s_law_error : Stmt := topS 48
abbrev N_law_error : List Str := ["_law_value", "_law_left", "_law_place", "_law_item", "_law_depth", "_law_row", "_law_inner", "_law_part", "_law_found", "_law_k", "_law_word"]
abbrev P_law_error : List Str := ["_law_value"]
theorem sc_law_error : FnScope N_law_error P_law_error (defScope s_law_error) :=
  ⟨rfl, rfl, rfl, by decide +kernel, rfl, by decide +kernel, by decide +kernel⟩
theorem ok_law_error (D : Df K mg "_law_error" s_law_error P_law_error) (B : Blt mg)
    (G_law_is_statement : Has P w K mg base CX0 "_law_is_statement" ["_law_value"] 11 (spAsk K isStmt)) (G_law_counts : Has P w K mg base CX0 "_law_counts" ["_law_block"] 5 (spCnt4 K 4)) :
    Has P w K mg base CX0 "_law_error" P_law_error 12 (spPerr K) := by
  refine D.has sc_law_error (fun vs H Q E h => ?_) (fun f cdv A outer s H vs Q E hr h => ?_)
  · obtain ⟨v, d, rfl, _⟩ := h
    rfl
  obtain ⟨v, d, rfl, hd, hz, k⟩ := h
  refine ⟨_, (pss_cons (ps_if (pt_not (pt_val (pe_callB c_is2 (by rfl) B.isinstance (by decide +kernel) (pa_cons (pv 0) (pa_cons (pe_ty (T := "tuple") (by rfl) B.tuple (by decide +kernel)) pa_nil))))) (pss_one (ps_ret (pe_tup (pa_cons pe_non (pa_cons pe_str pa_nil)))))
        pss_nil)
      (pss_cons (ps_par (i := 1) (j := 2) (by rfl) sc_law_error.nd rfl rfl (by decide) rfl rfl (pa_cons (pe_revL (pe_lc (own := [("_law_item", 3)]) (g := gName 3) (by rfl) sc_law_error.nd (pi_tup (pv 0)) (blkOk_by (own := [("_law_item", 3)]) (N := N_law_error) (sc := defScope s_law_error) (by decide +kernel)) (fun _ _ _ _ _ => (pg_name (i := 3) sc_law_error.nd rfl (Or.inl rfl))) (fun _ _ _ _ _ => pts_nil) (fun _ _ _ _ _ => (pe_tup (pa_cons pe_int (pa_cons (pv 3) pa_nil)))))) (pa_cons pe_int pa_nil)) (by rfl))
      (pss_cons (ps_while PassesOwn.never (pt_cmpR (op_neNil hr.h64) (pv 1) (pe_lst pa_nil) (nomark _)) (pss_cons (ps_asg (pe_bm0 PySem.F.plainAttrs_list PySem.F.slot_list_pop PySem.F.type_list_pop mt_pop (pv 1)) (pg_tup rfl (pgs_cons (pg_name (i := 4) sc_law_error.nd rfl (Or.inr rfl)) (pgs_cons (pg_name (i := 5) sc_law_error.nd rfl (Or.inl rfl)) pgs_nil))))
      (pss_cons (ps_if (pt_cmpR op_gt (pv 4) pe_int (nomark _)) (pss_one (ps_ret (pe_tup (pa_cons (pv 2) (pa_cons pe_str pa_nil)))))
        pss_nil)
      (pss_cons (ps_if (pt_not (pt_val (pe_f G_law_is_statement (hr.mono (by omega)) (by rfl) pass0 (pa_cons (pv 5) pa_nil)))) (pss_one (ps_ret (pe_tup (pa_cons (pv 2) (pa_cons pe_str pa_nil)))))
        pss_nil)
      (pss_cons (ps_set (i := 6) sc_law_error.nd rfl (Or.inl rfl) (pe_lst pa_nil))
      (pss_cons (ps_for PassesOwn.never rfl (pi_tup (pe_ifExp (pt_cmpR op_in_seq (pe_ix ix_tup (pv 5) pe_int (fun _ _ => rfl)) (pe_tup (pa_cons pe_str (pa_cons pe_str pa_nil))) (by rfl)) (pe_slice sl_tup (pv 5) (po_some pe_int) po_none) (pe_tup pa_nil))) (pg_name (i := 7) sc_law_error.nd rfl (Or.inl rfl))
        (pss_one (ps_expr (pe_bm PySem.F.plainAttrs_list PySem.F.slot_list_extend PySem.F.type_list_extend mt_extend (pv 6) (pa_cons (pe_lc (own := [("_law_item", 3)]) (g := gName 3) (by rfl) sc_law_error.nd (pi_tup (pv 7)) (blkOk_by (own := [("_law_item", 3)]) (N := N_law_error) (sc := defScope s_law_error) (by decide +kernel)) (fun _ _ _ _ _ => (pg_name (i := 3) sc_law_error.nd rfl (Or.inl rfl))) (fun _ _ _ _ _ => pts_nil) (fun _ _ _ _ _ => (pe_tup (pa_cons (pe_op op_add (pv 4) pe_int) (pa_cons (pv 3) pa_nil))))) pa_nil)))))
      (pss_cons (ps_expr (pe_bm PySem.F.plainAttrs_list PySem.F.slot_list_extend PySem.F.type_list_extend mt_extend (pv 1) (pa_cons (pe_revL (pv 6)) pa_nil)))
      (pss_one (ps_set (i := 2) sc_law_error.nd rfl (Or.inl rfl) (pe_op op_add (pv 2) pe_int))))))))))
      (pss_cons (ps_set (i := 8) sc_law_error.nd rfl (Or.inl rfl) (pe_f G_law_counts (hr.mono (by omega)) (by rfl) pass0 (pa_cons (pv 0) pa_nil)))
      (pss_cons (ps_for PassesOwn.never rfl (pi_enum (by rfl) B.enumerate (pa_cons (pe_lst (pa_cons pe_str (pa_cons pe_str (pa_cons pe_str (pa_cons pe_str pa_nil))))) pa_nil)) (pg_tup rfl (pgs_cons (pg_name (i := 9) sc_law_error.nd rfl (Or.inl rfl)) (pgs_cons (pg_name (i := 10) sc_law_error.nd rfl (Or.inl rfl)) pgs_nil)))
        (pss_one (ps_if (pt_cmpR op_gt (pe_ix ix_list (pv 8) (pv 9) (fun _ _ => rfl)) (pe_ix ix_list (pe_lst (pa_cons pe_int (pa_cons pe_int (pa_cons pe_int (pa_cons pe_int pa_nil))))) (pv 9) (fun _ _ => rfl)) (nomark _)) (pss_one (ps_ret (pe_tup (pa_cons pe_non (pa_cons (pv 10) pa_nil)))))
        pss_nil)))
      (pss_one (ps_ret pe_non))))))), ?_⟩
  cases d with
  | tuple ds =>
    rw [dsz] at hz
    obtain ⟨a, xs, rfl, hT, hL⟩ := hd.items
    have hlen := dszs_len ds
    walk_at "rdj"
    refine lc_stk (n := 0) hT hL (by omega) (fun y H' R hR => ?_) (fun _ => rfl) fun q0 H1 us hq0 k1 hq1 hS1 => ?_
    · walk_at "rdj"
      exact ⟨by walk_at "sz", hR⟩
    refine r_RevL (SqL.of hq1) fun l hl => ?_
    have k2 : Kp [] H (upd H1 l (.lst us.reverse)) := k1.new hl
    have hl2 : upd H1 l (.lst us.reverse) l = some (.lst us.reverse) := upd_same
    have S2 : Stk [l] K (upd H1 l (.lst us.reverse)) us.reverse ((ds.map fun e => (0, e)).reverse) := ((hS1.fresh hl).kp0 (Kp.nil.new hl)).rev
    have hl0 : H l = none := k1.free (fun b hb => by cases hb) hl
    generalize upd H1 l (.lst us.reverse) = H2 at k2 hl2 S2 ⊢
    walk_at "rdj"
    refine r_while (fun m σ H' => ∃ (us : List V) (st : List (Nat × PyData)) (pl : Nat) (x3 x4 x5 x6 x7 x8 x9 x10 : Option V), σ = [some (.ref a), some (.ref l), some (.int pl), x3, x4, x5, x6, x7, x8, x9, x10] ∧ Kp [] H H' ∧ H' l = some (.lst us) ∧
        Stk [l] K H' us st.reverse ∧ ordLoop (stSize st) st pl = ordErr ds ∧ stSize st = m ∧ m ≤ 1000000) (dszs ds)
      ⟨_, ds.map fun e => (0, e), 0, none, none, none, none, none, none, none, none, rfl, k2, hl2, S2, by rw [stSize_map]; rfl, stSize_map _ _, by omega⟩ ?_
    rintro m σ H3 ⟨us, st, pl, x3, x4, x5, x6, x7, x8, x9, x10, rfl, k3, hl3, hS3, hO, hm, hmz⟩
    walk_at "rdj"
    refine ⟨by decide, fun q hq => ?_⟩
    have k4 : Kp [] H3 (upd H3 q (.lst [])) := Kp.nil.new hq
    have hl4 := k4.get hl3 (by simp)
    have S4 := hS3.kp0 k4
    refine r_neNL (SqL.of hl4) (SqL.of upd_same) ?_
    have k4' := k3.trans k4
    generalize upd H3 q (.lst []) = H4 at k4' hl4 S4 ⊢
    cases st with
    | nil =>
      have e : us = [] := List.length_eq_zero_iff.mp S4.len
      subst e
      have he0 : (!([] : List V).isEmpty) = false := rfl
      rw [he0]
      have ho : ordErr ds = none := by rw [← hO]; rfl
      have hp : perr (.tuple ds) = lim (treeOf ds) := by rw [perr, ho]
      rw [hp] at k
      obtain ⟨e1, hvd⟩ := treeOf_spec ho
      generalize treeOf ds = p at k e1 hvd
      subst e1
      unfold lim at k
      walk_at "rdj"
      refine ⟨[], _, p, rfl, hd.kp0 k4', hvd, fun H5 fo hfo k5 hfo5 => ?_⟩
      have k5' := k4'.trans k5
      unfold cnt4 at hfo5
      walk_at "rdj"
      refine ⟨by decide, fun wl hwl => ?_⟩
      have k6 : Kp [] H5 (upd H5 wl (.lst [.str "places", .str "weight", .str "rests", .str "comparings"])) := Kp.nil.new hwl
      have hfo6 := k6.get hfo5 (by simp)
      have hw6 : upd H5 wl (.lst [.str "places", .str "weight", .str "rests", .str "comparings"]) wl = some (.lst [.str "places", .str "weight", .str "rests", .str "comparings"]) := upd_same
      have k6' := k5'.trans k6
      generalize upd H5 wl (.lst [.str "places", .str "weight", .str "rests", .str "comparings"]) = H6 at k6 hfo6 hw6 k6' ⊢
      walk_at "rdj"
      refine r_ForE (xs := [.str "places", .str "weight", .str "rests", .str "comparings"]) (SqL.of hw6) (fun i σ H' => ∃ kx wx : Option V, σ = [some (.ref a), some (.ref l), some (.int pl), x3, x4, x5, x6, x7, some (.ref fo), kx, wx] ∧ Kp [] H6 H' ∧
          (0 < i → ¬ Sm.sizes p > 24) ∧ (1 < i → ¬ Sm.cnts "weight" p > 30) ∧ (2 < i → ¬ Sm.cnts "rest" p > 2) ∧ (3 < i → ¬ Sm.cnts "less" p > 2))
        ⟨x9, x10, rfl, Kp.nil, by omega, by omega, by omega, by omega⟩ (fun i σ H' ⟨_, _, _, q, _⟩ => SqL.of (q.get hw6 (by simp))) ?_ ?_
      · rintro i x σ H7 T hx ⟨kx, wx, rfl, k7, c0, c1, c2, c3⟩ hT7
        have k8 : Kp [] H7 (upd H7 T (.tup [.int (i : Nat), x])) := Kp.nil.new hT7
        have hT8 : SqT K (upd H7 T (.tup [.int (i : Nat), x])) T [.int (i : Nat), x] := SqT.of upd_same
        have kk8 := k7.trans k8
        generalize upd H7 T (.tup [.int (i : Nat), x]) = H8 at k8 hT8 kk8 ⊢
        have hfo8 := kk8.get hfo6 (by simp)
        have hi4 : i = 0 ∨ i = 1 ∨ i = 2 ∨ i = 3 := by
          have := (List.getElem?_eq_some_iff.mp hx).1
          simp only [List.length_cons, List.length_nil] at this
          omega
        rcases hi4 with rfl | rfl | rfl | rfl
        all_goals
          cases hx
          walk_at "rdj"
          refine ⟨by decide, fun z hz' => ?_⟩
          have hfo9 := (Kp.nil.new (o := .lst [.int 24, .int 30, .int 2, .int 2]) hz').get hfo8 (by simp)
          have k9 := kk8.new (o := .lst [.int 24, .int 30, .int 2, .int 2]) hz'
          walk_at "rdj"
          refine ifd (fun c => ?_) (fun c => ?_)
          · walk_at "rdj"
            refine ⟨by walk_at "sz", fun r hr' => k _ _ ((k6'.trans k9).new hr') ?_⟩
            first
              | (rw [if_pos (by omega)]; exact Dt.mk2 upd_same .non (.str _))
              | (rw [if_neg (c0 (by omega)), if_pos (by omega)]; exact Dt.mk2 upd_same .non (.str _))
              | (rw [if_neg (c0 (by omega)), if_neg (c1 (by omega)), if_pos (by omega)]; exact Dt.mk2 upd_same .non (.str _))
              | (rw [if_neg (c0 (by omega)), if_neg (c1 (by omega)), if_neg (c2 (by omega)), if_pos (by omega)]; exact Dt.mk2 upd_same .non (.str _))
          · walk_at "rdj"
            exact ⟨_, _, rfl, k9, by omega, by omega, by omega, by omega⟩
      · rintro σ H7 ⟨kx, wx, rfl, k7, c0, c1, c2, c3⟩
        walk_at "rdj"
        refine k _ _ (k6'.trans k7) ?_
        have h4 : [V.str "places", V.str "weight", V.str "rests", V.str "comparings"].length = 4 := rfl
        rw [if_neg (c0 (by omega)), if_neg (c1 (by omega)), if_neg (c2 (by omega)), if_neg (c3 (by omega))]
        exact .non
    | cons p st =>
      obtain ⟨dep, d⟩ := p
      rw [List.reverse_cons] at S4
      obtain ⟨us', b, y, rfl, S5, hb, hy⟩ := S4.last
      rw [stSize_cons] at hm hO
      have hdp := dsz_pos d
      have hin := inner_size d
      obtain ⟨f, hf⟩ : ∃ f, dsz d + stSize st = f + 1 := ⟨dsz d + stSize st - 1, by omega⟩
      rw [hf, ordLoop] at hO
      have he : (!(us' ++ [V.ref b]).isEmpty) = true := by cases us' <;> rfl
      rw [he]
      walk_at "rdj"
      refine r_turn ?_
      walk_at "rdj"
      refine r_pop hl4 ?_
      have k5 := kpW (o := .lst us') hl4
      have k5' : Kp [] H (upd H4 l (.lst us')) := k4'.own hl0
      have hb5 := k5.tup hb
      have S6 := S5.kpS k5 fun b hb => hb
      have hy5 := hy.kpS k5 fun b hb => hb
      have hl5 : upd H4 l (.lst us') l = some (.lst us') := upd_same
      generalize upd H4 l (.lst us') = H5 at k5 k5' hb5 S6 hy5 hl5 ⊢
      walk_at "rdj"
      refine ifd (fun c1 => ?_) (fun c1 => ?_)
      · walk_at "rdj"
        refine ⟨by walk_at "sz", fun r hr' => ?_⟩
        refine k _ _ (k5'.new hr') ?_
        rw [perr, ← hO, if_pos (by omega)]
        exact Dt.mk2 upd_same (.int _) (.str _)
      rw [if_neg (by omega)] at hO
      walk_at "rdj"
      refine ⟨y, d, rfl, hy5.nil, by omega, fun H6 k6 => ?_⟩
      cases hst : isStmt d with
      | false =>
        walk_at "rdj"
        refine ⟨by walk_at "sz", fun r hr' => ?_⟩
        refine k _ _ ((k5'.trans k6).new hr') ?_
        rw [perr, ← hO, if_pos hst]
        exact Dt.mk2 upd_same (.int _) (.str _)
      | true =>
        rw [if_neg (by rw [hst]; decide)] at hO
        have hl6 := k6.get hl5 (by simp)
        walk_at "rdj"
        refine ⟨by decide, fun g hg => ?_⟩
        have k7 : Kp [] H6 (upd H6 g (.lst [])) := Kp.nil.new hg
        have hg7 : upd H6 g (.lst []) g = some (.lst []) := upd_same
        have hl7 := k7.get hl6 (by simp)
        have kk7 := (k5'.trans k6).trans k7
        have hg0 : H g = none := (k5'.trans k6).free (fun b hb => by cases hb) hg
        have hgl : g ≠ l := Ne.symm (ne_of_none hl6 hg)
        have hy7 : Dw [g, l] K (upd H6 g (.lst [])) y d := ((hy5.kp0 k6).fresh hg).kp0 k7
        have S7 : Stk [g, l] K (upd H6 g (.lst [])) us' st.reverse := ((S6.kp0 k6).fresh hg).kp0 k7
        generalize upd H6 g (.lst []) = H7 at k7 hg7 hl7 kk7 hy7 S7 ⊢
        walk_at "rdj"
        refine r_ifJ (fun v H5 => ∃ (q : Addr) (ws : List V), v = .ref q ∧ Kp [] H7 H5 ∧ SqT K H5 q ws ∧ DwL [g, l] K H5 ws ((blks d).map PyData.tuple)) (fun Q' kQ => ?_) ?_
        · rcases stmt_view hst with ⟨p, rfl, hp, hbk⟩ | ⟨t, yb, zb, rfl, ht, hbk⟩ | ⟨n, bb, rfl, kn1, kn2, hbk⟩
          · obtain ⟨u, r, e, n1, n2⟩ := Pl.hd p
            rw [hbk] at kQ
            rw [e] at hy7
            obtain ⟨a3, ws, rfl, hT3, hL3⟩ := hy7.items
            obtain ⟨z, zs, rfl, h0, hR⟩ := hL3.inv
            obtain rfl := h0.isStr
            have hx0 : atI (V.str u :: zs) 0 = some (V.str u) := at_nn (Int.le_refl 0) rfl
            walk_at "rd"
            refine ⟨by decide, fun t ht => ?_⟩
            have k8 : Kp [] H7 (upd H7 t (.tup [.str "if", .str "repeat"])) := Kp.nil.new ht
            refine r_in (.inr (SqT.of upd_same)) rfl rfl ?_
            rw [inV_two u "if" "repeat", decide_eq_false n1, decide_eq_false n2]
            generalize upd H7 t (.tup [.str "if", .str "repeat"]) = H8 at k8 ⊢
            walk_at "rd"
            refine ⟨by decide, fun p hp => kQ _ _ ⟨p, [], rfl, k8.new hp, SqT.of upd_same, DwL.nil⟩⟩
          · rw [hbk] at kQ
            obtain ⟨a3, ws, rfl, hT3, hL3⟩ := hy7.items
            obtain ⟨x0, x1, x2, x3, d0, d1, d2, d3, rfl, e, h0, h1, h2, h3⟩ := hL3.is4 hL3.len
            cases e
            obtain rfl := h0.isStr
            walk_at "rd"
            refine ⟨by decide, fun t ht => ?_⟩
            have k8 : Kp [] H7 (upd H7 t (.tup [.str "if", .str "repeat"])) := Kp.nil.new ht
            have hT8 := sqT_kp k8 hT3
            refine r_inT (.inr (SqT.of upd_same)) rfl rfl (by decide +kernel) ?_
            generalize upd H7 t (.tup [.str "if", .str "repeat"]) = H8 at k8 hT8 ⊢
            walk_at "rd"
            refine r_slT hT8 (by simp only [List.length_cons, List.length_nil]; decide +kernel) fun p hp => kQ _ _ ⟨p, [x2, x3], rfl, k8.new hp, SqT.of upd_same, DwL.cons (h2.kp0 (k8.new hp)) (DwL.cons (h3.kp0 (k8.new hp)) DwL.nil)⟩
          · rw [hbk] at kQ
            obtain ⟨a3, ws, rfl, hT3, hL3⟩ := hy7.items
            obtain ⟨x0, x1, x2, d0, d1, d2, rfl, e, h0, h1, h2⟩ := hL3.is3 hL3.len
            cases e
            obtain rfl := h0.isStr
            walk_at "rd"
            refine ⟨by decide, fun t ht => ?_⟩
            have k8 : Kp [] H7 (upd H7 t (.tup [.str "if", .str "repeat"])) := Kp.nil.new ht
            have hT8 := sqT_kp k8 hT3
            refine r_inT (.inr (SqT.of upd_same)) rfl rfl (by decide +kernel) ?_
            generalize upd H7 t (.tup [.str "if", .str "repeat"]) = H8 at k8 hT8 ⊢
            walk_at "rd"
            refine r_slT hT8 (by simp only [List.length_cons, List.length_nil]; decide +kernel) fun p hp => kQ _ _ ⟨p, [x2], rfl, k8.new hp, SqT.of upd_same, DwL.cons (h2.kp0 (k8.new hp)) DwL.nil⟩
        rintro v H8 ⟨q, ws, rfl, k8, hTq, hLq⟩
        have kk8 := kk7.trans k8
        have hg8 := k8.get hg7 (by simp)
        have hl8 := k8.get hl7 (by simp)
        have S8 := S7.kp0 k8
        have sg : ∀ b ∈ [g], b ∈ [g, l] := fun b hb => by rw [List.mem_singleton.mp hb]; exact List.mem_cons_self ..
        have sl : ∀ b ∈ [l], b ∈ [g, l] := fun b hb => List.mem_cons_of_mem _ hb
        refine r_ForT (xs := ws) hTq (fun i σ H' => ∃ (gs : List V) (x3 x7 : Option V), σ = [some (.ref a), some (.ref l), some (.int pl), x3, some (.int dep), some y, some (.ref g), x7, x8, x9, x10] ∧ Kp [] H H' ∧ SqT K H' q ws ∧ H' l = some (.lst us') ∧ Stk [g, l] K H' us' st.reverse ∧
            DwL [g, l] K H' ws ((blks d).map PyData.tuple) ∧ H' g = some (.lst gs) ∧ Stk [g, l] K H' gs ((((blks d).take i).flatten).map fun e => (dep + 1, e)))
          ⟨[], _, _, rfl, kk8, hTq, hl8, S8, hLq, hg8, Stk.nil⟩ (fun i σ H' ⟨_, _, _, _, _, q, _⟩ => q) ?_ ?_
        · rintro i x σ H9 hx ⟨gs, x3, x7, rfl, k9, hTq9, hl9, S9, hL9, hg9, G9⟩
          obtain ⟨dd, hdd, hxd⟩ := hL9.get hx
          rw [List.getElem?_map] at hdd
          obtain ⟨bl, hbl, rfl⟩ := Option.map_eq_some_iff.mp hdd
          obtain ⟨a9, ys, rfl, hT9, hY⟩ := hxd.items
          have hfl : (((blks d).take i).flatten) ++ bl ++ ((blks d).drop (i + 1)).flatten = inner d := by
            unfold inner
            have q : (blks d).take i ++ bl :: (blks d).drop (i + 1) = blks d := by
              obtain ⟨hi, hbe⟩ := List.getElem?_eq_some_iff.mp hbl
              rw [← hbe, ← List.drop_eq_getElem_cons hi, List.take_append_drop]
            conv => rhs; rw [← q]
            rw [List.flatten_append, List.flatten_cons, List.append_assoc]
          have hlen := dszs_len (inner d)
          have hle : (((blks d).take i).flatten).length + bl.length ≤ (inner d).length := by
            rw [← hfl, List.length_append, List.length_append]
            omega
          walk_at "rdj"
          refine lc_stk (n := dep + 1) hT9 hY (by omega) (fun y H' R hR => ?_) (fun _ => rfl) fun r H10 rs hr' k10 hr10 S10 => ?_
          · walk_at "rdj"
            exact ⟨by walk_at "sz", hR⟩
          have hg10 := k10.get hg9 (by simp)
          have hl10 := k10.get hl9 (by simp)
          have hrg : r ≠ g := Ne.symm (ne_of_none hg9 hr')
          have l1 : gs.length = (((blks d).take i).flatten).length := by rw [G9.len, List.length_map]
          have l2 : rs.length = bl.length := by rw [S10.len, List.length_map]
          walk_at "rdj"
          · have k11 := kpW (o := .lst (gs ++ rs)) hg10
            refine ⟨gs ++ rs, _, _, rfl, (k9.trans k10).own hg0, sqT_kp k11 (sqT_kp k10 hTq9), k11.get hl10 (by simp [Ne.symm hgl]), (S9.kp0 k10).kpS k11 sg, (hL9.kp0 k10).kpS k11 sg, upd_same, ?_⟩
            have htk : (blks d).take (i + 1) = (blks d).take i ++ [bl] := by rw [List.take_add_one, hbl]; rfl
            rw [htk, List.flatten_append, List.flatten_cons, List.flatten_nil, List.append_nil, List.map_append]
            exact ((G9.kp0 k10).kpS k11 sg).app (S10.kpS k11 sg)
          · rw [sizeLine_eq]
            omega
        · rintro σ H9 ⟨gs, x3, x7, rfl, k9, hTq9, hl9, S9, hL9, hg9, G9⟩
          have hx := hL9.len
          rw [List.length_map] at hx
          rw [hx, List.take_length] at G9
          walk_at "rdj"
          refine r_RevL (SqL.of hg9) fun r hr' => ?_
          have k10 : Kp [] H9 (upd H9 r (.lst gs.reverse)) := Kp.nil.new hr'
          have hl10 := k10.get hl9 (by simp)
          have hr10 : upd H9 r (.lst gs.reverse) r = some (.lst gs.reverse) := upd_same
          have S10 := S9.kp0 k10
          have G10 := (G9.kp0 k10).rev
          have kk10 := k9.trans k10
          have hrl : r ≠ l := Ne.symm (ne_of_none hl9 hr')
          generalize upd H9 r (.lst gs.reverse) = H10 at k10 hl10 hr10 S10 G10 kk10 ⊢
          have w1 : gs.reverse.length = (inner d).length := by rw [G10.len, List.length_reverse, List.length_map]; rfl
          have w2 : us'.length = st.length := by rw [S10.len, List.length_reverse]
          have w3 := dszs_len (inner d)
          have w4 : st.length ≤ stSize st := by
            unfold stSize
            have := dszs_len (st.map (·.2))
            rwa [List.length_map] at this
          walk_at "rdj"
          · have k11 := kpW (o := .lst (us' ++ gs.reverse)) hl10
            refine ⟨dszs (inner d) + stSize st, by omega, us' ++ gs.reverse, (inner d).map (fun e => (dep + 1, e)) ++ st, pl + 1, _, _, _, _, _, _, _, _, rfl, kk10.own hl0, upd_same, ?_, ?_, ?_, by omega⟩
            · rw [List.reverse_append]
              exact ((S10.kpS k11 sl).app (G10.kpS k11 sl)).sub fun b hb => List.mem_cons_of_mem _ hb
            · rw [← hO]
              exact ordLoop_fuel _ _ _ _ (Nat.le_refl _) (by rw [stSize_app, stSize_map]; omega)
            · rw [stSize_app, stSize_map]
          · rw [sizeLine_eq]
            omega
  | _ =>
    walk_at "rdj"
    refine ⟨by walk_at "sz", fun t ht => k _ _ (Kp.nil.new ht) ?_⟩
    exact Dt.mk2 upd_same .non (.str _)
abbrev s_law_deck : Stmt := topS 36
abbrev N_law_deck : List Str := ["_law_script", "_law_cell"]
abbrev P_law_deck : List Str := ["_law_script"]
theorem sc_law_deck : FnScope N_law_deck P_law_deck (defScope s_law_deck) :=
  ⟨rfl, rfl, rfl, by decide +kernel, rfl, by decide +kernel, by decide +kernel⟩
theorem ok_law_deck (D : Df K mg "_law_deck" s_law_deck P_law_deck) (B : Blt mg) : Has P w K mg base CX0 "_law_deck" P_law_deck 1 (spDeck K) := by
  refine D.has sc_law_deck (fun vs H Q E h => ?_) (fun f cdv A outer s H vs Q E hr h => ?_)
  · obtain ⟨a, ns, rfl, _⟩ := h
    rfl
  obtain ⟨a, ns, rfl, hS, hl, k⟩ := h
  refine ⟨_, (pss_one (ps_ret (pe_lst (pa_cons (pe_lc (own := [("_law_cell", 1)]) (g := gName 1) (by rfl) sc_law_deck.nd (pi_list (pe_slice sl_list (pv 0) po_none (po_some pe_int))) (blkOk_by (own := [("_law_cell", 1)]) (N := N_law_deck) (sc := defScope s_law_deck) (by decide +kernel)) (fun _ _ _ _ _ => (pg_name (i := 1) sc_law_deck.nd rfl (Or.inl rfl))) (fun _ _ _ _ _ => pts_nil) (fun _ _ _ _ _ => (pe_callB c_abs (by rfl) B.abs (by decide +kernel) (pa_cons (pv 1) pa_nil)))) (pa_cons pe_int pa_nil))))), ?_⟩
  walk_at "rd"
  refine r_slL hS fun p hp => ?_
  obtain ⟨ms, e, hm, _⟩ := cutV_map V.int ns none (some 63)
  rw [e]
  have k1 : Kp [] H (upd H p (.lst (ms.map V.int))) := Kp.nil.new hp
  have h1 : upd H p (.lst (ms.map V.int)) p = some (.lst (ms.map V.int)) := upd_same
  generalize upd H p (.lst (ms.map V.int)) = H1 at k1 h1 ⊢
  refine r_LcL (SqL.of h1) fun c hc => ?_
  refine ⟨fun i H' => ∃ cs : List Int, H' c = some (.lst (cs.map V.int)) ∧ (∀ x ∈ cs, 0 ≤ x) ∧ cs.length = i ∧ Kp [] H1 H', ⟨[], upd_same, (fun _ h => (nomatch h)), rfl, Kp.nil.new hc⟩,
    fun i H' ⟨_, _, _, _, kk⟩ => SqL.of (kk.get h1 (by simp)), ?_, ?_⟩
  · rintro i x H2 hx ⟨cs, h2, h3, h4, k2⟩
    rw [List.getElem?_map] at hx
    obtain ⟨y, hy, rfl⟩ := Option.map_eq_some_iff.mp hx
    have hi : i < ms.length := (List.getElem?_eq_some_iff.mp hy).1
    walk_at "rd"
    refine r_LcEnd h2 (by walk_at "sz") ⟨cs ++ [if y < 0 then -y else y], ?_, ?_, ?_, k2.own hc⟩
    · rw [upd_same, List.map_append]
      rfl
    · intro z hz
      rcases List.mem_append.mp hz with hz | hz
      · exact h3 z hz
      · rw [List.mem_singleton.mp hz]
        split <;> omega
    · rw [List.length_append, h4]
      rfl
  · rintro H2 ⟨cs, h2, h3, h4, k2⟩
    rw [List.length_map] at h4
    walk_at "rd"
    refine ⟨by simp [sizeLine_eq], fun d hd => ?_⟩
    have hcd : d ≠ c := Ne.symm (ne_of_none h2 hd)
    refine k _ d c ((k1.trans k2).same.free hd) (k1.same.free hc) ⟨upd_same, ⟨cs, ?_, h3, by omega⟩, hcd, by omega⟩ ((k1.trans k2).new hd)
    rw [upd_ne hcd.symm]
    exact h2
abbrev s_law_draw : Stmt := topS 37
abbrev N_law_draw : List Str := ["_law_deck_here", "_law_many", "_law_cell", "_law_at", "_law_mixed"]
abbrev P_law_draw : List Str := ["_law_deck_here", "_law_many"]
theorem sc_law_draw : FnScope N_law_draw P_law_draw (defScope s_law_draw) :=
  ⟨rfl, rfl, rfl, by decide +kernel, rfl, by decide +kernel, by decide +kernel⟩
theorem ok_law_draw (D : Df K mg "_law_draw" s_law_draw P_law_draw) (B : Blt mg) : Has P w K mg base CX0 "_law_draw" P_law_draw 1 spDraw := by
  refine D.has sc_law_draw (fun vs H Q E h => ?_) (fun f cdv A outer s H vs Q E hr h => ?_)
  · obtain ⟨d, c, n, m, rfl, _⟩ := h
    rfl
  obtain ⟨d, c, n, m, rfl, Dk, hn, h1, h2, k⟩ := h
  refine ⟨_, (pss_cons (ps_asg (pe_op op_add (pe_ix ix_list (pv 0) pe_int (fun _ _ => rfl)) pe_int) (pg_sub (pv 0) pe_int set_list))
      (pss_cons (ps_asg (pe_tup (pa_cons pe_int (pa_cons (pe_un un_neg pe_int) pa_nil))) (pg_tup rfl (pgs_cons (pg_name (i := 2) sc_law_draw.nd rfl (Or.inl rfl)) (pgs_cons (pg_name (i := 3) sc_law_draw.nd rfl (Or.inl rfl)) pgs_nil))))
      (pss_cons (ps_if (pt_cmpR op_gt (pe_callB c_len (by rfl) B.len (by decide +kernel) (pa_cons (pe_ix ix_list (pv 0) pe_int (fun _ _ => rfl)) pa_nil)) pe_int (nomark _)) (pss_cons (ps_set (i := 3) sc_law_draw.nd rfl (Or.inl rfl) (pe_op op_mod (pe_callTy c_int (by rfl) B.int (by decide +kernel) (pa_cons (pe_ix ix_list (pv 0) pe_int (fun _ _ => rfl)) pa_nil)) (pe_callB c_len (by rfl) B.len (by decide +kernel) (pa_cons (pe_ix ix_list (pv 0) pe_int (fun _ _ => rfl)) pa_nil))))
      (pss_one (ps_set (i := 2) sc_law_draw.nd rfl (Or.inl rfl) (pe_ix ix_list (pe_ix ix_list (pv 0) pe_int (fun _ _ => rfl)) (pv 3) (fun _ _ => rfl)))))
        pss_nil)
      (pss_cons (ps_if (pt_cmpR op_ge (pv 2) (pe_op op_pow pe_int pe_int) (nomark _)) (pss_cons (ps_asg (pe_op op_fdiv (pe_callTy c_int (by rfl) B.int (by decide +kernel) (pa_cons (pv 2) pa_nil)) (pv 1)) (pg_sub (pe_ix ix_list (pv 0) pe_int (fun _ _ => rfl)) (pv 3) set_list))
      (pss_one (ps_ret (pe_op op_mod (pe_callTy c_int (by rfl) B.int (by decide +kernel) (pa_cons (pv 2) pa_nil)) (pv 1)))))
        pss_nil)
      (pss_cons (ps_set (i := 4) sc_law_draw.nd rfl (Or.inl rfl) (pe_op op_add (pe_op op_add (pe_op op_mod (pe_callTy c_int (by rfl) B.int (by decide +kernel) (pa_cons (pv 2) pa_nil)) pe_int) (pe_op op_mul pe_int (pe_ix ix_list (pv 0) pe_int (fun _ _ => rfl)))) pe_int))
      (pss_one (ps_ret (pe_op op_mod (pe_callTy c_int (by rfl) B.int (by decide +kernel) (pa_cons (pe_op op_mod (pe_callTy c_int (by rfl) B.int (by decide +kernel) (pa_cons (pe_op op_pow (pv 4) pe_int) pa_nil)) pe_int) pa_nil)) (pv 1))))))))), ?_⟩
  obtain ⟨hd, ⟨cs, hc, hp, hl⟩, ne, n0⟩ := Dk
  walk_at "rd"
  refine ⟨by decide, fun p hp' => ?_⟩
  have pd : p ≠ d := fun z => by
    rw [z, upd_same] at hp'
    cases hp'
  have pH : H p = none := by
    rw [upd_ne pd] at hp'
    exact hp'
  have pc : p ≠ c := Ne.symm (ne_of_none hc pH)
  generalize eH : upd (upd H d (HO.lst ([V.ref c, V.int n].set (Int.toNat 1) (V.int (n + 1))))) p (HO.tup [V.int 0, V.int (-1)]) = H1
  have hT : H1 p = some (.tup [V.int 0, V.int (-1)]) := by rw [← eH]; exact upd_same
  have hd1 : H1 d = some (.lst [V.ref c, V.int (n + 1)]) := by
    rw [← eH, upd_ne pd.symm]
    exact upd_same
  have hc1 : H1 c = some (.lst (cs.map V.int)) := by
    rw [← eH, upd_ne pc.symm, upd_ne ne.symm]
    exact hc
  have kp : Kp [d, c] H H1 := by
    rw [← eH]
    exact ((Kp.refl (Deck.ls ⟨hd, ⟨cs, hc, hp, hl⟩, ne, n0⟩)).write (by simp)).new hp'
  walk_at "rd"
  have last : ∀ (x : Int), 0 ≤ x → ∀ (y : Int), y = x % 2147483563 + 8117 * (n + 1) + 3 → y.natAbs < 2 ^ 64 := by
    intro x hx y e
    omega
  refine ifd (fun c1 => ?_) (fun c1 => ?_)
  · rw [List.length_map] at c1
    have hlt : ((n + 1) % (cs.length : Int)).toNat < cs.length := by
      have q1 := Int.emod_nonneg (n + 1) (show (cs.length : Int) ≠ 0 by omega)
      have q2 := Int.emod_lt_of_pos (n + 1) c1
      omega
    have h0 := Int.emod_nonneg (n + 1) (show (cs.length : Int) ≠ 0 by omega)
    have hlt2 := Int.emod_lt_of_pos (n + 1) c1
    have hat : atI (cs.map V.int) ((n + 1) % ((cs.map V.int).length : Nat)) = some (.int cs[((n + 1) % (cs.length : Int)).toNat]) := by
      rw [List.length_map]
      refine at_of (j := ((n + 1) % (cs.length : Int)).toNat) (by omega) ?_
      rw [List.getElem?_map, List.getElem?_eq_getElem hlt]
      rfl
    have hset : ixN (cs.map V.int).length ((n + 1) % ((cs.map V.int).length : Nat)) = some ((n + 1) % (cs.length : Int)).toNat := by
      unfold ixN
      rw [List.length_map, if_pos h0, if_pos hlt2]
    have hx := hp _ (List.getElem_mem hlt)
    generalize cs[((n + 1) % (cs.length : Int)).toNat] = x at hat hx
    walk_at "rd"
    refine ifd (fun c2 => ?_) (fun c2 => ?_)
    all_goals walk_at "rd"
    · refine k _ _ (Int.emod_nonneg _ (by omega)) (Int.emod_lt_of_pos _ (by omega)) ⟨?_, ⟨cs.set ((n + 1) % (cs.length : Int)).toNat (x / m), ?_, ?_, ?_⟩, ne, by omega⟩ (kp.write (by simp))
      · rw [upd_ne ne]
        exact hd1
      · rw [upd_same, List.map_set]
      · intro y hy
        rcases List.mem_or_eq_of_mem_set hy with hy | rfl
        · exact hp y hy
        · exact Int.ediv_nonneg hx (by omega)
      · rw [List.length_set]
        exact hl
    · walk_at "sc"
    · walk_at "sc"
    · exact k _ _ (Int.emod_nonneg _ (by omega)) (Int.emod_lt_of_pos _ (by omega)) ⟨hd1, ⟨cs, hc1, hp, hl⟩, ne, by omega⟩ kp
    · walk_at "sc"
    · walk_at "sc"
    · walk_at "sc"
    · walk_at "sc"
    · walk_at "sc"
    · walk_at "sc"
    · rw [List.length_map]
      exact c1
  · walk_at "rd"
    · refine ifd (fun c2 => ?_) (fun c2 => ?_)
      · exact absurd c2 (by decide)
      · walk_at "rd"
        · exact k _ _ (Int.emod_nonneg _ (by omega)) (Int.emod_lt_of_pos _ (by omega)) ⟨hd1, ⟨cs, hc1, hp, hl⟩, ne, by omega⟩ kp
        all_goals walk_at "sc"
    · walk_at "sc"
abbrev s_law_one : Stmt := topS 38
abbrev N_law_one : List Str := ["_law_deck_here", "_law_items"]
abbrev P_law_one : List Str := ["_law_deck_here", "_law_items"]
theorem sc_law_one : FnScope N_law_one P_law_one (defScope s_law_one) :=
  ⟨rfl, rfl, rfl, by decide +kernel, rfl, by decide +kernel, by decide +kernel⟩
theorem ok_law_one (D : Df K mg "_law_one" s_law_one P_law_one) (B : Blt mg)
    (G_law_draw : Has P w K mg base CX0 "_law_draw" ["_law_deck_here", "_law_many"] 1 spDraw) : Has P w K mg base CX0 "_law_one" P_law_one 2 (spOne K) := by
  refine D.has sc_law_one (fun vs H Q E h => ?_) (fun f cdv A outer s H vs Q E hr h => ?_)
  · rcases h with ⟨d, c, a, n, xs, rfl, _⟩ | ⟨d, c, n, z, rfl, _⟩ <;> rfl
  refine ⟨_, (pss_one (ps_ret (pe_ix ix_seq (pv 1) (pe_f G_law_draw (hr.mono (by omega)) (by rfl) pass0 (pa_cons (pv 0) (pa_cons (pe_callB c_len (by rfl) B.len (by decide +kernel) (pa_cons (pv 1) pa_nil)) pa_nil))) (fun _ _ => rfl)))), ?_⟩
  rcases h with ⟨d, c, a, n, xs, rfl, Dk, hn, hS, h1, h2, h3, h4, k⟩ | ⟨d, c, n, z, rfl, Dk, hn, h3, h4, k⟩
  · walk_at "rd"
    refine spDraw.use Dk hn (by omega) (by omega) fun H1 r r0 r1 D1 k1 => ?_
    have hlt : r.toNat < xs.length := by omega
    refine .inl (r_ixL (sqL_kp k1 (by simp [h1, h2]) hS) (at_of (j := r.toNat) (by omega) (List.getElem?_eq_getElem hlt)) ?_)
    exact k _ r.toNat _ (List.getElem?_eq_getElem hlt) D1 k1
  · have hz : z.length ≤ sizeLine := by rw [sizeLine_eq]; omega
    have hsz : z.cps.toList.length = z.length := by rw [Array.length_toList]; rfl
    walk_at "rd"
    · refine spDraw.use Dk hn (by omega) (by omega) fun H1 r r0 r1 D1 k1 => ?_
      have hlt : r.toNat < z.cps.toList.length := by omega
      refine .inr (.inr (r_ixS (c := z.cps.toList[r.toNat]) hz ?_ ?_))
      · exact at_nn r0 (List.getElem?_eq_getElem hlt)
      · exact k _ _ (List.getElem_mem hlt) D1 k1
    · exact hz
abbrev s_law_names : Stmt := topS 39
abbrev N_law_names : List Str := ["_law_deck_here", "_law_letters_here", "_law_signs", "_law_size", "_law_left", "_law_k", "_law_right"]
abbrev P_law_names : List Str := ["_law_deck_here"]
theorem sc_law_names : FnScope N_law_names P_law_names (defScope s_law_names) :=
  ⟨rfl, rfl, rfl, by decide +kernel, rfl, by decide +kernel, by decide +kernel⟩
theorem ok_law_names (D : Df K mg "_law_names" s_law_names P_law_names) (B : Blt mg)
    (G_law_draw : Has P w K mg base CX0 "_law_draw" ["_law_deck_here", "_law_many"] 1 spDraw) (G_law_one : Has P w K mg base CX0 "_law_one" ["_law_deck_here", "_law_items"] 2 (spOne K)) :
    Has P w K mg base CX0 "_law_names" P_law_names 3 spNmV := by
  refine D.has sc_law_names (fun vs H Q E h => ?_) (fun f cdv A outer s H vs Q E hr h => ?_)
  · obtain ⟨d, c, n, rfl, _⟩ := h
    rfl
  obtain ⟨d, c, n, rfl, Dk, hn, k⟩ := h
  have n0 := Dk.n0
  refine ⟨_, (pss_cons (ps_set (i := 1) sc_law_names.nd rfl (Or.inr rfl) pe_str)
      (pss_cons (ps_set (i := 2) sc_law_names.nd rfl (Or.inr rfl) (pe_op op_addS (pv 1) pe_str))
      (pss_cons (ps_set (i := 3) sc_law_names.nd rfl (Or.inl rfl) (pe_f G_law_one (hr.mono (by omega)) (by rfl) pass0 (pa_cons (pv 0) (pa_cons (pe_lst (pa_cons pe_int (pa_cons pe_int (pa_cons pe_int (pa_cons pe_int (pa_cons pe_int (pa_cons pe_int (pa_cons pe_int pa_nil)))))))) pa_nil))))
      (pss_cons (ps_set (i := 4) sc_law_names.nd rfl (Or.inr rfl) (pe_join pe_str (pe_lc (own := [("_law_k", 5)]) (g := gName 5) (by rfl) sc_law_names.nd (pi_range1 (by rfl) B.range (pa_cons (pv 3) pa_nil)) (blkOk_by (own := [("_law_k", 5)]) (N := N_law_names) (sc := defScope s_law_names) (by decide +kernel)) (fun _ _ _ _ _ => (pg_name (i := 5) sc_law_names.nd rfl (Or.inl rfl))) (fun _ _ _ _ _ => pts_nil) (fun _ _ _ _ _ => (pe_f G_law_one (hr.mono (by omega)) (by rfl) pass0 (pa_cons (pv 0) (pa_cons (pv 1) pa_nil)))))))
      (pss_cons (ps_set (i := 6) sc_law_names.nd rfl (Or.inr rfl) (pe_join pe_str (pe_lc (own := [("_law_k", 5)]) (g := gName 5) (by rfl) sc_law_names.nd (pi_range1 (by rfl) B.range (pa_cons (pe_f G_law_draw (hr.mono (by omega)) (by rfl) pass0 (pa_cons (pv 0) (pa_cons (pe_op op_sub pe_int (pv 3)) pa_nil))) pa_nil)) (blkOk_by (own := [("_law_k", 5)]) (N := N_law_names) (sc := defScope s_law_names) (by decide +kernel)) (fun _ _ _ _ _ => (pg_name (i := 5) sc_law_names.nd rfl (Or.inl rfl))) (fun _ _ _ _ _ => pts_nil) (fun _ _ _ _ _ => (pe_f G_law_one (hr.mono (by omega)) (by rfl) pass0 (pa_cons (pv 0) (pa_cons (pv 2) pa_nil)))))))
      (pss_one (ps_ret (pe_op op_cat (pe_lst (pa_cons pe_str pa_nil)) (pe_lc (own := [("_law_k", 5)]) (g := gName 5) (by rfl) sc_law_names.nd (pi_range1 (by rfl) B.range (pa_cons pe_int pa_nil)) (blkOk_by (own := [("_law_k", 5)]) (N := N_law_names) (sc := defScope s_law_names) (by decide +kernel)) (fun _ _ _ _ _ => (pg_name (i := 5) sc_law_names.nd rfl (Or.inl rfl))) (fun _ _ _ _ _ => pts_nil) (fun _ _ _ _ _ => (pe_op op_addS (pe_op op_addS (pv 4) (pe_ix ix_str pe_str (pv 5) (fun _ _ => rfl))) (pv 6)))))))))))), ?_⟩
  walk_at "rd"
  rotate_left
  · decide +kernel
  have Dk0 := Dk
  have k0 : Kp [d, c] H H := Kp.refl Dk.ls
  refine one_disp Dk0 (by omega) (by simp) (by simp) fun H1 x hx D1 k1 => ?_
  have hx' : ∃ u : Int, x = .int u ∧ 0 ≤ u ∧ u ≤ 7 := by
    simp only [List.mem_cons, List.not_mem_nil, or_false] at hx
    rcases hx with rfl | rfl | rfl | rfl | rfl | rfl | rfl <;> exact ⟨_, rfl, by omega, by omega⟩
  obtain ⟨u, rfl, u0, u1⟩ := hx'
  have kk1 := k0.trans k1
  walk_at "rd"
  refine lc_signs (text := "abcdefgijkmoquvwxyz") D1 (by omega) u0 (by omega) (fun _ => rfl) (fun _ => rfl) (fun _ => rfl) (by decide +kernel) (by decide +kernel) fun H2 p2 ys hp2 y1 y2 y3 D2 k2 => ?_
  have emp0 : ("" : Str).length = 0 := by decide +kernel
  have sm := sum_one y3
  refine ⟨"", p2, ys, rfl, rfl, .inl (SqL.of y1), by rw [emp0]; omega, ?_⟩
  have hL := joinL_signs ys LTT.cps.toList y3
  generalize Txt.join "" ys = left at hL ⊢
  have kk2 := kk1.trans k2
  walk_at "rd"
  refine spDraw.use D2 (by omega) (by omega) (by omega) fun H3 t t0 t1 D3 k3 => ?_
  walk_at "rd"
  refine lc_signs (text := "abcdefgijkmoquvwxyz" ++ "0123456789") D3 (by omega) t0 (by omega) (fun _ => rfl) (fun _ => rfl) (fun _ => rfl) (by decide +kernel) (by decide +kernel) fun H4 p4 zs hp4 z1 z2 z3 D4 k4 => ?_
  have sm2 := sum_one z3
  refine ⟨"", p4, zs, rfl, rfl, .inl (SqL.of z1), by rw [emp0]; omega, ?_⟩
  have hR := joinL_signs zs (LTT ++ ("0123456789" : Str)).cps.toList z3
  generalize Txt.join "" zs = right at hR ⊢
  have kk4 := (kk2.trans k3).trans k4
  clear k1 k2 k3 k4 sm sm2 y1 y3 z1 z3 hp2 hp4 D1 D2 D3
  walk_at "rd"
  refine ⟨by decide, fun p5 hp5 => ?_⟩
  have k5 : Kp [] H4 (upd H4 p5 (.lst [.str "n"])) := Kp.nil.new hp5
  have D5 := D4.kp k5 (by simp) (by simp)
  have h5 : upd H4 p5 (.lst [.str "n"]) p5 = some (.lst [.str "n"]) := upd_same
  have kk5 := kk4.new (o := .lst [.str "n"]) hp5
  generalize upd H4 p5 (.lst [.str "n"]) = H5 at k5 D5 h5 kk5 ⊢
  walk_at "rd"
  refine r_LcR (by omega) (by omega) fun p6 hp6 => ⟨fun i H' => ∃ xs : List Str, H' p6 = some (.lst (xs.map V.str)) ∧ xs.length = i ∧ (∀ x ∈ xs, isNameS x = true) ∧ Kp [] H5 H', ⟨[], upd_same, rfl, (fun _ h => (nomatch h)), Kp.nil.new hp6⟩, ?_, ?_⟩
  · rintro i H7 hi ⟨xs, x1, x2, x3, k7⟩
    have hlt : i < QXZ.cps.toList.length := by
      show i < 3
      omega
    have hat : atI ("qxz" : Str).cps.toList (i : Int) = some (QXZ.cps.toList[i]) := atI_nat (xs := QXZ.cps.toList) (List.getElem?_eq_getElem hlt)
    have hsg := name_made hL hR (List.getElem_mem hlt) (by omega)
    generalize QXZ.cps.toList[i] = sg at hat hsg
    have l1 : left.length = ys.length := by rw [← hL.1, Array.length_toList]; rfl
    have l2 : right.length = zs.length := by rw [← hR.1, Array.length_toList]; rfl
    have l3 : (⟨#[sg]⟩ : Str).length = 1 := rfl
    walk_at "rd"
    refine r_ixS (by decide +kernel) hat ?_
    walk_at "rd"
    · refine r_LcEnd x1 (by walk_at "sz") ⟨xs ++ [left ++ ⟨#[sg]⟩ ++ right], ?_, by rw [List.length_append, x2]; rfl, ?_, k7.own hp6⟩
      · rw [upd_same, List.map_append]
        rfl
      · intro y hy
        rcases List.mem_append.mp hy with hy | hy
        · exact x3 y hy
        · rw [List.mem_singleton.mp hy]
          exact hsg
    all_goals walk_at "sz"
  · rintro H7 ⟨xs, x1, x2, x3, k7⟩
    refine r_cat (k7.get h5 (by simp)) x1 (by rw [List.length_map, sizeLine_eq]; simp; omega) fun p8 hp8 => ?_
    have k8 : Kp [] H7 (upd H7 p8 (.lst ([V.str "n"] ++ xs.map V.str))) := Kp.nil.new hp8
    have D7 := D5.kp k7 (by simp) (by simp)
    have kk7 := kk5.trans (k7.sub D5.ls (by simp))
    refine k _ p8 ("n" :: xs) _ (kk7.free D7.ls hp8) (D7.kp k8 (by simp) (by simp)) (by omega) (by omega) (kk7.new hp8) ⟨by rw [upd_same]; rfl, by rw [List.length_cons, x2]; rfl, fun x hx => ?_⟩
    rcases List.mem_cons.mp hx with rfl | hx
    · decide +kernel
    · exact x3 x hx
abbrev s_law_odd : Stmt := topS 49
abbrev N_law_odd : List Str := ["_law_deck_here", "_law_some"]
abbrev P_law_odd : List Str := ["_law_deck_here"]
theorem sc_law_odd : FnScope N_law_odd P_law_odd (defScope s_law_odd) :=
  ⟨rfl, rfl, rfl, by decide +kernel, rfl, by decide +kernel, by decide +kernel⟩
theorem ok_law_odd (D : Df K mg "_law_odd" s_law_odd P_law_odd) (B : Blt mg)
    (G_law_one : Has P w K mg base CX0 "_law_one" ["_law_deck_here", "_law_items"] 2 (spOne K)) :
    Has P w K mg base CX0 "_law_odd" P_law_odd 3 (spOdd K) := by
  refine D.has sc_law_odd (fun vs H Q E h => ?_) (fun f cdv A outer s H vs Q E hr h => ?_)
  · obtain ⟨d, c, n, M, rfl, _⟩ := h
    rfl
  obtain ⟨d, c, n, M, rfl, Dk, hn, ocm, k⟩ := h
  have n0 := Dk.n0
  refine ⟨_, (pss_cons (ps_set (i := 1) sc_law_odd.nd rfl (Or.inl rfl) (pe_lst (pa_cons pe_non (pa_cons pe_bl (pa_cons pe_bl (pa_cons pe_int (pa_cons pe_int (pa_cons pe_int (pa_cons pe_int (pa_cons pe_int (pa_cons pe_int (pa_cons (pe_un un_neg pe_int) (pa_cons (pe_un un_neg pe_int) (pa_cons pe_int (pa_cons (pe_un un_neg pe_int) (pa_cons pe_int (pa_cons (pe_op op_pow pe_int pe_int) (pa_cons pe_str (pa_cons pe_str (pa_cons pe_str (pa_cons pe_str (pa_cons pe_str pa_nil))))))))))))))))))))))
      (pss_cons (ps_set (i := 1) sc_law_odd.nd rfl (Or.inl rfl) (pe_op op_cat (pv 1) (pe_lst (pa_cons pe_str (pa_cons pe_str (pa_cons pe_str (pa_cons pe_str (pa_cons pe_str (pa_cons pe_str (pa_cons pe_str (pa_cons pe_str (pa_cons pe_str (pa_cons pe_str (pa_cons (pe_tup pa_nil) (pa_cons (pe_lst pa_nil) (pa_cons pe_dnewK (pa_cons (pe_tup (pa_cons pe_int pa_nil)) pa_nil)))))))))))))))))
      (pss_cons (ps_set (i := 1) sc_law_odd.nd rfl (Or.inl rfl) (pe_op op_cat (pv 1) (pe_lst (pa_cons (pe_tup (pa_cons pe_str (pa_cons pe_str pa_nil))) (pa_cons (pe_tup (pa_cons pe_str (pa_cons pe_int (pa_cons pe_int pa_nil)))) (pa_cons (pe_lst (pa_cons pe_str (pa_cons pe_int (pa_cons pe_int pa_nil)))) (pa_cons (pe_tup (pa_cons pe_str (pa_cons pe_int (pa_cons pe_str pa_nil)))) (pa_cons (pe_tup (pa_cons pe_str (pa_cons pe_str (pa_cons pe_int pa_nil)))) pa_nil))))))))
      (pss_cons (ps_set (i := 1) sc_law_odd.nd rfl (Or.inl rfl) (pe_op op_cat (pv 1) (pe_lst (pa_cons (pe_tup (pa_cons pe_str (pa_cons (pe_tup (pa_cons pe_str (pa_cons pe_str pa_nil))) pa_nil))) (pa_cons (pe_tup (pa_cons pe_str (pa_cons pe_int pa_nil))) (pa_cons (pe_tup (pa_cons pe_str (pa_cons pe_str pa_nil))) (pa_cons (pe_tup (pa_cons (pe_tup (pa_cons pe_str (pa_cons pe_str pa_nil))) pa_nil)) (pa_cons (pe_disp (pps_cons pe_str pe_int pps_nil) (by rfl) (by rfl) (fun z => by cases z) (by decide)) (pa_cons (pe_tup (pa_cons pe_str (pa_cons pe_int pa_nil))) pa_nil)))))))))
      (pss_one (ps_ret (pe_f G_law_one (hr.mono (by omega)) (by rfl) pass0 (pa_cons (pv 0) (pa_cons (pe_op op_cat (pv 1) (pe_lst (pa_cons (pe_tup (pa_cons pe_str (pa_cons pe_str (pa_cons pe_int (pa_cons pe_int pa_nil))))) (pa_cons (pe_tup (pa_cons pe_str (pa_cons pe_str (pa_cons pe_int (pa_cons pe_int pa_nil))))) (pa_cons (pe_tup (pa_cons pe_str (pa_cons pe_str (pa_cons pe_int (pa_cons pe_int pa_nil))))) (pa_cons (pe_tup (pa_cons pe_str (pa_cons pe_str pa_nil))) pa_nil)))))) pa_nil))))))))), ?_⟩
  have oc := Dk.ocM ocm
  with_reducible refine r_seq ?_
  with_reducible refine r_asg ?_
  with_reducible refine r_lst ?_
  refine CWs.use (M := d :: c :: M) (K := K) (ds := OD1) ?a1 fun H1 vs1 k1 hs1 => ⟨by rw [hs1.len, sizeLine_eq]; decide, fun p1 hp1 => ?_⟩
  case a1 => walk_at "cw"
  have k2 : Kp [] H (upd H1 p1 (.lst vs1)) := k1.new hp1
  have hs2 := hs1.kp0 (Kp.nil.new (o := .lst vs1) hp1)
  have q2 : upd H1 p1 (.lst vs1) p1 = some (.lst vs1) := upd_same
  generalize upd H1 p1 (.lst vs1) = H2 at k2 hs2 q2 ⊢
  have oc2 := oc.kp k2
  with_reducible refine r_name ?_
  with_reducible refine r_seq ?_
  with_reducible refine r_asg ?_
  refine cat_some (K := K) (es := OD2) rfl q2 hs2 ?a2 (by decide) fun H3 p3 w3 _ q3 hs3 k3 => ?_
  case a2 => walk_at "cw"
  have oc3 := oc2.kp k3
  with_reducible refine r_name ?_
  with_reducible refine r_seq ?_
  with_reducible refine r_asg ?_
  refine cat_some (K := K) (es := OD3) rfl q3 hs3 ?a3 (by decide) fun H4 p4 w4 _ q4 hs4 k4 => ?_
  case a3 => walk_at "cw"
  have oc4 := oc3.kp k4
  with_reducible refine r_name ?_
  with_reducible refine r_seq ?_
  with_reducible refine r_asg ?_
  refine cat_some (K := K) (es := OD4) rfl q4 hs4 ?a4 (by decide) fun H5 p5 w5 _ q5 hs5 k5 => ?_
  case a4 => walk_at "cw"
  have oc5 := oc4.kp k5
  have kk5 := ((k2.trans k3).trans k4).trans k5
  have D5 := Dk.kp kk5 (by simp) (by simp)
  with_reducible refine r_name ?_
  with_reducible refine r_ret ?_
  refine call_oneC (K := K) (M := M) (es := OD5) D5 (by omega) rfl rfl q5 hs5 ?a5 (by decide) (by decide) fun H6 x e he hx D6 k6 => ?_
  case a5 => walk_at "cw"
  exact k _ _ e _ D6 (by omega) (by omega) ((kk5.sub Dk.ls (by simp)).trans k6) hx (od_ok e he)
abbrev s_law_bent : Stmt := topS 50
abbrev N_law_bent : List Str := ["_law_deck_here", "_law_value", "_law_deep_here", "_law_at", "_law_way"]
abbrev P_law_bent : List Str := ["_law_deck_here", "_law_value", "_law_deep_here"]
theorem sc_law_bent : FnScope N_law_bent P_law_bent (defScope s_law_bent) :=
  ⟨rfl, rfl, rfl, by decide +kernel, rfl, by decide +kernel, by decide +kernel⟩
theorem ok_law_bent1 (D : Df K mg "_law_bent" s_law_bent P_law_bent) (B : Blt mg) {m lv : Nat} {sp2 : Sp} (hlv : 3 ≤ lv)
    (G_law_draw : Has P w K mg base CX0 "_law_draw" ["_law_deck_here", "_law_many"] 1 spDraw) (G_law_odd : Has P w K mg base CX0 "_law_odd" ["_law_deck_here"] 3 (spOdd K))
    (G_law_bent : Has P w K mg base CX0 "_law_bent" P_law_bent lv sp2) (hs : ∀ i, m = i + 1 → sp2 = spBent K i) :
    Has P w K mg base CX0 "_law_bent" P_law_bent (lv + 1) (spBent K m) := by
  refine D.has sc_law_bent (fun vs H Q E h => ?_) (fun f cdv A outer s H vs Q E hr h => ?_)
  · obtain ⟨d, c, n, M, v, x, z, kd, rfl, _⟩ := h
    rfl
  obtain ⟨d, c, n, M, v, x, z, kd, rfl, Dk, hn, ocm, hv, hok, hz, k⟩ := h
  have n0 := Dk.n0
  refine ⟨_, (pss_cons (ps_if (PW.pt (pw_or (pt_cmpR op_eq (pv 2) pe_int (nomark _)) (pw_or (pt_not (pt_val (pe_callB c_is2 (by rfl) B.isinstance (by decide +kernel) (pa_cons (pv 1) (pa_cons (pe_ty (T := "tuple") (by rfl) B.tuple (by decide +kernel)) pa_nil))))) (pw_or (pt_cmpR (op_eqNil hr.h64) (pv 1) (pe_tup pa_nil) (nomark _)) (pw_or1 (pt_cmpR op_eq (pe_f G_law_draw (hr.mono (by omega)) (by rfl) pass0 (pa_cons (pv 0) (pa_cons pe_int pa_nil))) pe_int (nomark _))))))) (pss_one (ps_ret (pe_f G_law_odd (hr.mono (by omega)) (by rfl) pass0 (pa_cons (pv 0) pa_nil))))
        pss_nil)
      (pss_cons (ps_par (i := 3) (j := 4) (by rfl) sc_law_bent.nd rfl rfl (by decide) rfl rfl (pa_cons (pe_f G_law_draw (hr.mono (by omega)) (by rfl) pass0 (pa_cons (pv 0) (pa_cons (pe_callB c_len (by rfl) B.len (by decide +kernel) (pa_cons (pv 1) pa_nil)) pa_nil))) (pa_cons (pe_f G_law_draw (hr.mono (by omega)) (by rfl) pass0 (pa_cons (pv 0) (pa_cons pe_int pa_nil))) pa_nil)) (by rfl))
      (pss_cons (ps_if (pt_cmpR op_eq (pv 4) pe_int (nomark _)) (pss_one (ps_ret (pe_op op_catA (pe_slice sl_tupA (pv 1) po_none (po_some (pv 3))) (pe_slice sl_tupA (pv 1) (po_some (pe_op op_add (pv 3) pe_int)) po_none))))
        pss_nil)
      (pss_cons (ps_if (pt_cmpR op_eq (pv 4) pe_int (nomark _)) (pss_one (ps_ret (pe_op op_catA (pe_op op_catA (pe_slice sl_tupA (pv 1) po_none (po_some (pv 3))) (pe_slice sl_tupA (pv 1) (po_some (pv 3)) (po_some (pe_op op_add (pv 3) pe_int)))) (pe_slice sl_tupA (pv 1) (po_some (pv 3)) po_none))))
        pss_nil)
      (pss_cons (ps_if (pt_cmpR op_eq (pv 4) pe_int (nomark _)) (pss_one (ps_ret (pe_callTy c_lst (by rfl) B.list (by decide +kernel) (pa_cons (pv 1) pa_nil))))
        pss_nil)
      (pss_one (ps_ret (pe_op op_catA (pe_op op_catA (pe_slice sl_tupA (pv 1) po_none (po_some (pv 3))) (pe_tup (pa_cons (pe_f G_law_bent (hr.mono (by omega)) (by rfl) pass0 (pa_cons (pv 0) (pa_cons (pe_ix ix_tup (pv 1) (pv 3) (fun _ _ => rfl)) (pa_cons (pe_op op_sub (pv 2) pe_int) pa_nil)))) pa_nil))) (pe_slice sl_tupA (pv 1) (po_some (pe_op op_add (pv 3) pe_int)) po_none))))))))), ?_⟩
  have odd : ∀ (H1 : Hp) (n1 : Int), Deck H1 d c n1 → n ≤ n1 → n1 ≤ n + 1 → Kp [d, c] H H1 → spOdd K [.ref d] H1 Q E0 := by
    intro H1 n1 D1 q1 q2 k1
    exact ⟨d, c, n1, M, rfl, D1, by omega, ocm.deck D1 k1, fun H2 w y n2 D2 q3 q4 k2 hw hy => k _ _ y n2 D2 (by omega) (by omega) (k1.trans k2) hw (hy.mono (by omega) (by omega))⟩
  have start := odd H n Dk (by omega) (by omega) (Kp.refl Dk.ls)
  walk_at "rd"
  refine ifd (fun c0 => ?_) (fun c0 => ?_)
  · walk_at "rd"
    exact start
  have m1 : 1 ≤ m := by
    rcases Nat.eq_zero_or_pos m with h | h
    · exact absurd (show V.int (m : Int) = V.int 0 by rw [h]; rfl) c0
    · exact h
  obtain ⟨i, rfl⟩ : ∃ i, m = i + 1 := ⟨m - 1, by omega⟩
  obtain rfl := hs i rfl
  have em : (((i + 1 : Nat) : Int) - 1) = (i : Int) := by omega
  clear hs
  cases x with
  | tuple ds =>
    walk_at "rd"
    refine ⟨by decide, fun p1 hp1 => ?_⟩
    have k1 : Kp [] H (upd H p1 (.tup [])) := Kp.nil.new hp1
    have D1 := Dk.kp k1 (by simp) (by simp)
    have kk1 : Kp [d, c] H (upd H p1 (.tup [])) := (Kp.refl Dk.ls).new hp1
    have hv1 := hv.kp0 k1
    obtain ⟨a, xs, rfl, hT, hL⟩ := hv1.items
    refine r_eqNT hT (SqT.of upd_same) ?_
    generalize upd H p1 (.tup []) = H1 at k1 D1 kk1 hv1 hT hL ⊢
    have st1 := odd H1 n D1 (by omega) (by omega) kk1
    cases he : xs.isEmpty with
    | true =>
      walk_at "rd"
      exact st1
    | false =>
      have hne : 1 ≤ xs.length := by
        cases xs with
        | nil => cases he
        | cons _ _ => simp
      have hll := hL.len
      have hdz := hok.sz
      rw [dsz] at hdz
      have hdl := dszs_len ds
      walk_at "rd"
      refine spDraw.use D1 (by omega) (by omega) (by omega) fun H2 u u0 u1 D2 k2 => ?_
      have kk2 := kk1.trans k2
      walk_at "rd"
      refine ifd (fun c1 => ?_) (fun c1 => ?_)
      · walk_at "rd"
        exact odd H2 _ D2 (by omega) (by omega) kk2
      clear st1 start
      have hT2 := sqT_kp k2 hT
      walk_at "rd"
      refine spDraw.use D2 (by omega) (by omega) (by omega) fun H3 t t0 t1 D3 k3 => ?_
      walk_at "rd"
      refine spDraw.use D3 (by omega) (by omega) (by omega) fun H4 y y0 y1 D4 k4 => ?_
      have kk4 := (kk2.trans k3).trans k4
      have hv4 := ((hv1.kpS k2 dcM).kpS k3 dcM).kpS k4 dcM
      have oc4 : Oc (d :: c :: M) H4 := D4.ocM (ocm.deck D4 kk4)
      obtain ⟨j, rfl⟩ : ∃ j : Nat, t = (j : Int) := ⟨t.toNat, by omega⟩
      have hj : j < ds.length := by omega
      have e1 : ((j : Int) + 1) = ((j + 1 : Nat) : Int) := by omega
      have shd := hok.sh
      rw [shb] at shd
      have dpd := hok.dp
      rw [PyData.depth] at dpd
      have sub : ∀ es : List PyData, dszs es ≤ 3 * dszs ds + 2999 → (∀ e ∈ es, e ∈ ds) → Dok (.tuple es) (3 * z + 3000) (max kd (30 + (i + 1))) := fun es h1 h2 =>
        ⟨by rw [dsz]; omega, by rw [shb]; exact shbs_all fun e he => shbs_mem shd (h2 e he), by rw [PyData.depth]; have := depthAll_le (k := PyData.depthAll ds) fun e he => depthAll_mem (h2 e he); omega⟩
      have fin : ∀ (H5 : Hp) (w : V) (es : List PyData), Kp [] H4 H5 → Dw (d :: c :: M) K H5 w (.tuple es) → dszs es ≤ 3 * dszs ds + 2999 → (∀ e ∈ es, e ∈ ds) → Q w H5 := fun H5 w es k5 hw h1 h2 =>
        k _ _ (.tuple es) _ (D4.kp k5 (by simp) (by simp)) (by omega) (by omega) (kk4.trans (k5.sub D4.ls (by simp))) hw (sub es h1 h2)
      clear hT hT2 hL hv hv1 k1 k2 k3 D1 D2 D3 kk1 kk2 odd
      have cl : ∀ (lo hi : Option Int), (cutD ds lo hi).length ≤ ds.length := fun lo hi => by
        unfold cutD
        rw [List.length_take, List.length_drop]
        omega
      walk_at "rd"
      refine ifd (fun c2 => ?_) (fun c2 => ?_)
      · walk_at "rd"
        refine r_slW (K := K) hv4 fun H5 w5 k5 h5 => ?_
        walk_at "rd"
        refine r_slW (K := K) (hv4.kp0 k5) fun H6 w6 k6 h6 => ?_
        have l1 := cl none (some (j : Int))
        have l2 := cl (some ((j : Int) + 1)) none
        refine r_catW (K := K) (h5.kp0 k6) h6 (by omega) fun H7 w7 k7 h7 => fin _ _ _ ((k5.trans k6).trans k7) h7 ?_ ?_
        · have z1 := dszs_cut ds none (some (j : Int))
          have z2 := dszs_cut ds (some ((j : Int) + 1)) none
          rw [dszs_app]
          omega
        · intro e he
          rcases List.mem_append.mp he with he | he <;> exact cutD_mem he
      walk_at "rd"
      refine ifd (fun c3 => ?_) (fun c3 => ?_)
      · walk_at "rd"
        refine r_slW (K := K) hv4 fun H5 w5 k5 h5 => ?_
        walk_at "rd"
        refine r_slW (K := K) (hv4.kp0 k5) fun H6 w6 k6 h6 => ?_
        have l1 := cl none (some (j : Int))
        have l2 := cl (some (j : Int)) (some ((j : Int) + 1))
        have l3 := cl (some (j : Int)) none
        refine r_catW (K := K) (h5.kp0 k6) h6 (by omega) fun H7 w7 k7 h7 => ?_
        walk_at "rd"
        refine r_slW (K := K) (((hv4.kp0 k5).kp0 k6).kp0 k7) fun H8 w8 k8 h8 => ?_
        refine r_catW (K := K) (h7.kp0 k8) h8 (by rw [List.length_append]; omega) fun H9 w9 k9 h9 => fin _ _ _ ((((k5.trans k6).trans k7).trans k8).trans k9) h9 ?_ ?_
        · have z1 := dszs_cut ds none (some (j : Int))
          have z2 := dszs_cut ds (some (j : Int)) (some ((j : Int) + 1))
          have z3 := dszs_cut ds (some (j : Int)) none
          rw [dszs_app, dszs_app]
          omega
        · intro e he
          rcases List.mem_append.mp he with he | he
          · rcases List.mem_append.mp he with he | he <;> exact cutD_mem he
          · exact cutD_mem he
      walk_at "rd"
      refine ifd (fun c4 => ?_) (fun c4 => ?_)
      · walk_at "rd"
        obtain ⟨a4, ys, e4, hT4, hL4⟩ := hv4.items
        cases e4
        refine r_lstT hT4 fun l hl => ?_
        have k5 : Kp [] H4 (upd H4 l (.lst ys)) := Kp.nil.new hl
        refine k _ _ (.list ds) _ (D4.kp k5 (by simp) (by simp)) (by omega) (by omega) (kk4.new hl) ((hL4.kp0 k5).lst upd_same (oc4.new Kp.nil hl)) ⟨by rw [dsz]; omega, by rw [shb]; exact shd, by rw [PyData.depth]; omega⟩
      walk_at "rd"
      refine r_slW (K := K) hv4 fun H5 w5 k5 h5 => ?_
      obtain ⟨x0, hx0⟩ : ∃ x0, ds[j]? = some x0 := ⟨ds[j], List.getElem?_eq_getElem hj⟩
      have hv5 := hv4.kp0 k5
      obtain ⟨a4, ys, e4, hT5, hL5⟩ := hv5.items
      cases e4
      obtain ⟨vj, hvj⟩ : ∃ vj, ys[j]? = some vj := ⟨ys[j]'(by rw [hL5.len]; exact hj), List.getElem?_eq_getElem _⟩
      have hvd := hL5.all j vj x0 hvj hx0
      have hat : atI ys (j : Int) = some vj := atI_nat hvj
      walk_at "rd"
      rw [em]
      have D5 := D4.kp k5 (by simp) (by simp)
      have hsp := dszs_split ds hx0
      refine ⟨d, c, _, M, vj, x0, dsz x0, PyData.depthAll ds, rfl, D5, by omega, (ocm.deck D4 kk4).kp k5, hvd, ⟨Nat.le_refl _, shbs_mem shd (List.mem_of_getElem? hx0), depthAll_mem (List.mem_of_getElem? hx0)⟩, by omega, fun H6 w6 y6 n6 D6 q1 q2 k6 hw6 ok6 => ?_⟩
      walk_at "rd"
      refine ⟨by simp [sizeLine_eq], fun p7 hp7 => ?_⟩
      have k7 : Kp [] H6 (upd H6 p7 (.tup [w6])) := Kp.nil.new hp7
      have hw7 : Dw (d :: c :: M) K (upd H6 p7 (.tup [w6])) (.ref p7) (.tuple [y6]) := (DwL.cons (hw6.kp0 k7) DwL.nil).tup upd_same
      have D7 := D6.kp k7 (by simp) (by simp)
      have h57 := (h5.kpS k6 dcM).kp0 k7
      have hv7 := (hv5.kpS k6 dcM).kp0 k7
      have kk7 := ((kk4.trans (k5.sub D4.ls (by simp))).trans k6).new (o := .tup [w6]) hp7
      generalize upd H6 p7 (.tup [w6]) = H7 at k7 hw7 D7 h57 hv7 kk7 ⊢
      have l1 := cl none (some (j : Int))
      have l2 := cl (some ((j : Int) + 1)) none
      refine r_catW (K := K) h57 hw7 (by simp; omega) fun H8 w8 k8 h8 => ?_
      walk_at "rd"
      refine r_slW (K := K) (hv7.kp0 k8) fun H9 w9 k9 h9 => ?_
      refine r_catW (K := K) (h8.kp0 k9) h9 (by simp; omega) fun Ha wa ka ha => ?_
      have k789 := (k8.trans k9).trans ka
      refine k _ _ (.tuple (cutD ds none (some (j : Int)) ++ [y6] ++ cutD ds (some ((j : Int) + 1)) none)) n6 (D7.kp k789 (by simp) (by simp)) (by omega) (by omega) (kk7.trans (k789.sub D7.ls (by simp))) ha ⟨?_, ?_, ?_⟩
      · have := ok6.sz
        rw [dsz, dszs_app, dszs_app, e1, cutD_to ds j (by omega), cutD_from ds (j + 1) (by omega), dszs, dszs]
        omega
      · rw [shb, shbs_app, shbs_app, shbs, shbs, ok6.sh]
        have a1 : shbs (cutD ds none (some (j : Int))) = true := shbs_all fun e he => shbs_mem shd (cutD_mem he)
        have a2 : shbs (cutD ds (some ((j : Int) + 1)) none) = true := shbs_all fun e he => shbs_mem shd (cutD_mem he)
        rw [a1, a2]
        rfl
      · rw [PyData.depth]
        have := ok6.dp
        have q : PyData.depthAll (cutD ds none (some (j : Int)) ++ [y6] ++ cutD ds (some ((j : Int) + 1)) none) ≤ max (PyData.depthAll ds) (30 + i) := depthAll_le fun e he => by
          rcases List.mem_append.mp he with he | he
          · rcases List.mem_append.mp he with he | he
            · have := depthAll_mem (cutD_mem he)
              omega
            · rw [List.mem_singleton.mp he]
              exact this
          · have := depthAll_mem (cutD_mem he)
            omega
        omega
  | _ =>
    walk_at "rd"
    exact start
abbrev s_law_deep : Stmt := topS 51
abbrev N_law_deep : List Str := ["_law_deck_here", "_law_names_here", "_law_many", "_law_found", "_law_k", "_law_other"]
abbrev P_law_deep : List Str := ["_law_deck_here", "_law_names_here", "_law_many"]
theorem sc_law_deep : FnScope N_law_deep P_law_deep (defScope s_law_deep) :=
  ⟨rfl, rfl, rfl, by decide +kernel, rfl, by decide +kernel, by decide +kernel⟩
theorem ok_law_deep (D : Df K mg "_law_deep" s_law_deep P_law_deep) (B : Blt mg)
    (G_law_one : Has P w K mg base CX0 "_law_one" ["_law_deck_here", "_law_items"] 2 (spOne K)) :
    Has P w K mg base CX0 "_law_deep" P_law_deep 3 (spDeep K) := by
  refine D.has sc_law_deep (fun vs H Q E h => ?_) (fun f cdv A outer s H vs Q E hr h => ?_)
  · obtain ⟨d, c, nm, n, m, xs, M, rfl, _⟩ := h
    rfl
  obtain ⟨d, c, nm, n, m, xs, M, rfl, Dk, hn, N, n1, n2, ocm, m1, m2, k⟩ := h
  have n0 := Dk.n0
  have lx : (xs.map PyData.str).length = 4 := by rw [List.length_map, N.len]
  refine ⟨_, (pss_cons (ps_set (i := 3) sc_law_deep.nd rfl (Or.inl rfl) (pe_f G_law_one (hr.mono (by omega)) (by rfl) pass0 (pa_cons (pv 0) (pa_cons (pe_op op_cat (pv 1) (pe_lst (pa_cons pe_int (pa_cons (pe_un un_neg pe_int) pa_nil)))) pa_nil))))
      (pss_cons (ps_for PassesOwn.never rfl (pi_range1 (by rfl) B.range (pa_cons (pe_op op_sub (pv 2) pe_int) pa_nil)) (pg_name (i := 4) sc_law_deep.nd rfl (Or.inl rfl))
        (pss_cons (ps_set (i := 5) sc_law_deep.nd rfl (Or.inl rfl) (pe_f G_law_one (hr.mono (by omega)) (by rfl) pass0 (pa_cons (pv 0) (pa_cons (pe_op op_cat (pv 1) (pe_lst (pa_cons pe_int (pa_cons pe_int pa_nil)))) pa_nil))))
      (pss_one (ps_set (i := 3) sc_law_deep.nd rfl (Or.inl rfl) (pe_f G_law_one (hr.mono (by omega)) (by rfl) pass0 (pa_cons (pv 0) (pa_cons (pe_lst (pa_cons (pe_tup (pa_cons pe_str (pa_cons (pv 3) (pa_cons (pv 5) pa_nil)))) (pa_cons (pe_tup (pa_cons pe_str (pa_cons (pv 5) (pa_cons (pv 3) pa_nil)))) (pa_cons (pe_tup (pa_cons pe_str (pa_cons (pe_un un_neg pe_int) (pa_cons (pv 3) pa_nil)))) pa_nil)))) pa_nil)))))))
      (pss_one (ps_ret (pv 3))))), ?_⟩
  have oc := Dk.ocM ocm
  with_reducible refine r_seq ?_
  with_reducible refine r_asg ?_
  refine call_oneC (K := K) (M := M) (es := [.int 7, .int (-99)]) Dk (by omega) rfl rfl N.h N.dwl ?a1 (by omega) (by rw [lx]; decide) fun H1 x1 e1 he1 hx1 D1 k1 => ?_
  case a1 => walk_at "cw"
  have ok1 : Dok e1 10 0 := by
    rcases List.mem_append.mp he1 with he | he
    · exact (N.dok e1 he).mono (by omega) (by omega)
    · simp only [List.mem_cons, List.not_mem_nil, or_false] at he
      rcases he with rfl | rfl <;> exact Dok.by (by decide +kernel)
  walk_at "rd"
  refine r_ForR (fun i σ H' => ∃ (v : V) (x : PyData) (n' : Int) (y4 y5 : Option V), σ = [some (.ref d), some (.ref nm), some (.int m), some v, y4, y5] ∧ Deck H' d c n' ∧ n ≤ n' ∧ n' ≤ n + 1 + 2 * i ∧ Kp [d, c] H H' ∧ Dw (d :: c :: M) K H' v x ∧ Dok x (10 + 30 * i) i)
    (by omega) (by omega) ⟨_, _, _, _, _, rfl, D1, by omega, by omega, k1, hx1, ok1⟩ ?_ ?_
  · rintro i σ H2 hi ⟨v, x, n2', y4, y5, rfl, D2, q1, q2, k2, hv2, ok2⟩
    have N2 := N.kp k2 (by simp [n1, n2])
    have oc2 := D2.ocM (ocm.deck D2 k2)
    with_reducible refine r_name ?_
    with_reducible refine r_seq ?_
    with_reducible refine r_asg ?_
    refine call_oneC (K := K) (M := M) (es := [.int 0, .int 99]) D2 (by omega) rfl rfl N2.h N2.dwl ?a2 (by omega) (by rw [lx]; decide) fun H3 x3 e3 he3 hx3 D3 k3 => ?_
    case a2 => walk_at "cw"
    have ok3 : Dok e3 10 0 := by
      rcases List.mem_append.mp he3 with he | he
      · exact (N.dok e3 he).mono (by omega) (by omega)
      · simp only [List.mem_cons, List.not_mem_nil, or_false] at he
        rcases he with rfl | rfl <;> exact Dok.by (by decide +kernel)
    have kk3 := k2.trans k3
    have hv3 := hv2.kpS k3 dcM
    have oc3 := D3.ocM (ocm.deck D3 kk3)
    with_reducible refine r_name ?_
    with_reducible refine r_asg ?_
    refine call_one (K := K) (M := M) (ds := [.tuple [.str "plus", x, e3], .tuple [.str "minus", e3, x], .tuple [.str "times", .int (-9), x]]) D3 (by omega) rfl oc3 ?a3 (by simp) (by simp) fun H4 x4 e4 he4 hx4 D4 k4 => ?_
    case a3 => walk_at "cw"
    with_reducible refine r_name ?_
    refine ⟨_, e4, _, _, _, rfl, D4, by omega, by omega, kk3.trans k4, hx4, ?_⟩
    have three : ∀ (o : Str) (a b : PyData) (za zb : Nat), (PyData.strOk o && decide (o.length ≤ 5)) = true → Dok a za i → Dok b zb i → za + zb ≤ 20 + 30 * i → Dok (.tuple [.str o, a, b]) (10 + 30 * (i + 1)) (i + 1) := fun o a b za zb ho ha hb hz =>
      (Doks.tup (Doks.cons (Dok.str (lit_ok ho)) (Doks.cons ha (Doks.cons hb (Doks.nil (k := i)) (Nat.le_refl _)) (Nat.le_refl _)) (Nat.zero_le _))).mono (by omega) (by omega)
    simp only [List.mem_cons, List.not_mem_nil, or_false] at he4
    rcases he4 with rfl | rfl | rfl
    · exact three _ _ _ _ _ (by decide +kernel) ok2 (ok3.mono (Nat.le_refl _) (by omega)) (by omega)
    · exact three _ _ _ _ _ (by decide +kernel) (ok3.mono (Nat.le_refl _) (by omega)) ok2 (by omega)
    · exact three _ _ _ _ _ (by decide +kernel) ((Dok.int (by omega) (by omega)).mono (Nat.le_refl _) (by omega)) ok2 (by omega)
  · rintro σ H2 ⟨v, x, n2', y4, y5, rfl, D2, q1, q2, k2, hv2, ok2⟩
    walk_at "rd"
    exact k _ _ x n2' D2 q1 (by omega) k2 hv2 (ok2.mono (by omega) (by omega))
abbrev s_law_kept : Stmt := topS 52
abbrev N_law_kept : List Str := ["_law_found"]
abbrev P_law_kept : List Str := []
theorem sc_law_kept : FnScope N_law_kept P_law_kept (defScope s_law_kept) :=
  ⟨rfl, rfl, rfl, by decide +kernel, rfl, by decide +kernel, by decide +kernel⟩
theorem ok_law_kept (D : Df K mg "_law_kept" s_law_kept P_law_kept) (B : Blt mg) : Has P w K mg base CX0 "_law_kept" P_law_kept 1 spKept := by
  refine D.has sc_law_kept (fun vs H Q E h => ?_) (fun f cdv A outer s H vs Q E hr h => ?_)
  · obtain ⟨rfl, _⟩ := h
    rfl
  obtain ⟨rfl, k⟩ := h
  refine ⟨_, (pss_cons (ps_set (i := 0) sc_law_kept.nd rfl (Or.inl rfl) (pe_lst (pa_cons pe_str (pa_cons pe_str (pa_cons pe_str (pa_cons pe_str (pa_cons pe_str (pa_cons pe_str (pa_cons pe_str (pa_cons pe_str (pa_cons pe_str (pa_cons pe_str (pa_cons pe_str (pa_cons pe_str pa_nil))))))))))))))
      (pss_one (ps_ret (pe_op op_cat (pv 0) (pe_lst (pa_cons pe_str pa_nil)))))), ?_⟩
  walk_at "rd"
  refine ⟨by simp [sizeLine_eq], fun p1 hp1 => ?_⟩
  have k1 : Kp [] H (upd H p1 (.lst [.str "unset", .str "tell", .str "say", .str "stop", .str "if", .str "else", .str "repeat", .str "pass", .str "rest", .str "of", .str "set", .str "not"])) := Kp.nil.new hp1
  have q1 : upd H p1 (.lst [.str "unset", .str "tell", .str "say", .str "stop", .str "if", .str "else", .str "repeat", .str "pass", .str "rest", .str "of", .str "set", .str "not"]) p1 = some (.lst [.str "unset", .str "tell", .str "say", .str "stop", .str "if", .str "else", .str "repeat", .str "pass", .str "rest", .str "of", .str "set", .str "not"]) := upd_same
  generalize upd H p1 (.lst [.str "unset", .str "tell", .str "say", .str "stop", .str "if", .str "else", .str "repeat", .str "pass", .str "rest", .str "of", .str "set", .str "not"]) = H1 at k1 q1 ⊢
  walk_at "rd"
  refine ⟨by simp [sizeLine_eq], fun p2 hp2 => ?_⟩
  have k2 : Kp [] H (upd H1 p2 (.lst [.str "program"])) := k1.new hp2
  refine r_cat ((Kp.nil.new hp2).get q1 (by simp)) upd_same (by simp [sizeLine_eq]) fun p3 hp3 => ?_
  exact k _ p3 (k2.free (fun b hb => by cases hb) hp3) (k2.new hp3) upd_same
abbrev s_law_statement : Stmt := topS 53
abbrev N_law_statement : List Str := ["_law_deck_here", "_law_names_here", "_law_first", "_law_second", "_law_k", "_law_by", "_law_test", "_law_name", "_law_word", "_law_rows", "_law_some"]
abbrev P_law_statement : List Str := ["_law_deck_here", "_law_names_here"]
theorem sc_law_statement : FnScope N_law_statement P_law_statement (defScope s_law_statement) :=
  ⟨rfl, rfl, rfl, by decide +kernel, rfl, by decide +kernel, by decide +kernel⟩
theorem ok_law_statement (D : Df K mg "_law_statement" s_law_statement P_law_statement) (B : Blt mg)
    (G_law_draw : Has P w K mg base CX0 "_law_draw" ["_law_deck_here", "_law_many"] 1 spDraw) (G_law_one : Has P w K mg base CX0 "_law_one" ["_law_deck_here", "_law_items"] 2 (spOne K))
    (G_law_deep : Has P w K mg base CX0 "_law_deep" ["_law_deck_here", "_law_names_here", "_law_many"] 3 (spDeep K)) :
    Has P w K mg base CX0 "_law_statement" P_law_statement 4 (spStm K) := by
  refine D.has sc_law_statement (fun vs H Q E h => ?_) (fun f cdv A outer s H vs Q E hr h => ?_)
  · obtain ⟨d, c, nm, n, xs, rfl, _⟩ := h
    rfl
  obtain ⟨d, c, nm, n, xs, rfl, Dk, hn, N, n1, n2, k⟩ := h
  have n0 := Dk.n0
  obtain ⟨x1, hx1, ok1⟩ : ∃ x1, xs[1]? = some x1 ∧ isNameS x1 = true := by
    have h1 : 1 < xs.length := by rw [N.len]; omega
    exact ⟨xs[1], List.getElem?_eq_getElem h1, N.ok _ (List.getElem_mem h1)⟩
  have hat : atI (xs.map V.str) 1 = some (.str x1) := at_nn (by omega) (by rw [List.getElem?_map]; show Option.map V.str xs[1]? = _; rw [hx1]; rfl)
  have nm1 := name_ok ok1
  refine ⟨_, (pss_cons (ps_asg (pe_lc (own := [("_law_k", 4)]) (g := gName 4) (by rfl) sc_law_statement.nd (pi_range1 (by rfl) B.range (pa_cons pe_int pa_nil)) (blkOk_by (own := [("_law_k", 4)]) (N := N_law_statement) (sc := defScope s_law_statement) (by decide +kernel)) (fun _ _ _ _ _ => (pg_name (i := 4) sc_law_statement.nd rfl (Or.inl rfl))) (fun _ _ _ _ _ => pts_nil) (fun _ _ _ _ _ => (pe_f G_law_deep (hr.mono (by omega)) (by rfl) pass0 (pa_cons (pv 0) (pa_cons (pv 1) (pa_cons (pe_op op_add pe_int (pe_f G_law_draw (hr.mono (by omega)) (by rfl) pass0 (pa_cons (pv 0) (pa_cons pe_int pa_nil)))) pa_nil)))))) (pg_unl rfl (pgs_cons (pg_name (i := 2) sc_law_statement.nd rfl (Or.inl rfl)) (pgs_cons (pg_name (i := 3) sc_law_statement.nd rfl (Or.inl rfl)) pgs_nil))))
      (pss_cons (ps_set (i := 5) sc_law_statement.nd rfl (Or.inl rfl) (pe_op op_add pe_int (pe_f G_law_draw (hr.mono (by omega)) (by rfl) pass0 (pa_cons (pv 0) (pa_cons pe_int pa_nil)))))
      (pss_cons (ps_set (i := 6) sc_law_statement.nd rfl (Or.inl rfl) (pe_f G_law_one (hr.mono (by omega)) (by rfl) pass0 (pa_cons (pv 0) (pa_cons (pe_lst (pa_cons (pe_tup (pa_cons pe_str (pa_cons (pv 2) (pa_cons (pv 5) (pa_cons (pe_f G_law_draw (hr.mono (by omega)) (by rfl) pass0 (pa_cons (pv 0) (pa_cons (pv 5) pa_nil))) pa_nil))))) (pa_cons (pe_tup (pa_cons pe_str (pa_cons (pv 2) (pa_cons (pv 3) pa_nil)))) pa_nil))) pa_nil))))
      (pss_cons (ps_set (i := 6) sc_law_statement.nd rfl (Or.inl rfl) (pe_f G_law_one (hr.mono (by omega)) (by rfl) pass0 (pa_cons (pv 0) (pa_cons (pe_lst (pa_cons (pv 6) (pa_cons (pv 6) (pa_cons (pe_tup (pa_cons pe_str (pa_cons (pe_ix ix_list (pv 1) pe_int (fun _ _ => rfl)) pa_nil))) pa_nil)))) pa_nil))))
      (pss_cons (ps_for PassesOwn.never rfl (pi_range1 (by rfl) B.range (pa_cons (pe_callB (call_max2 rfl) (by rfl) B.max (by decide +kernel) (pa_cons pe_int (pa_cons (pe_op op_sub (pe_f G_law_draw (hr.mono (by omega)) (by rfl) pass0 (pa_cons (pv 0) (pa_cons pe_int pa_nil))) pe_int) pa_nil))) pa_nil)) (pg_name (i := 4) sc_law_statement.nd rfl (Or.inl rfl))
        (pss_one (ps_set (i := 6) sc_law_statement.nd rfl (Or.inl rfl) (pe_tup (pa_cons pe_str (pa_cons (pv 6) pa_nil))))))
      (pss_cons (ps_set (i := 7) sc_law_statement.nd rfl (Or.inl rfl) (pe_f G_law_one (hr.mono (by omega)) (by rfl) pass0 (pa_cons (pv 0) (pa_cons (pv 1) pa_nil))))
      (pss_cons (ps_set (i := 8) sc_law_statement.nd rfl (Or.inl rfl) (pe_f G_law_one (hr.mono (by omega)) (by rfl) pass0 (pa_cons (pv 0) (pa_cons (pe_lst (pa_cons pe_str (pa_cons pe_str (pa_cons pe_str (pa_cons pe_str (pa_cons pe_str (pa_cons (pe_ix ix_list (pv 1) pe_int (fun _ _ => rfl)) (pa_cons (pe_op op_addS (pe_ix ix_list (pv 1) pe_int (fun _ _ => rfl)) pe_str) (pa_cons pe_str pa_nil))))))))) pa_nil))))
      (pss_cons (ps_set (i := 9) sc_law_statement.nd rfl (Or.inl rfl) (pe_slice sl_list (pe_lst (pa_cons (pe_tup (pa_cons pe_str (pa_cons (pv 8) pa_nil))) (pa_cons (pe_tup (pa_cons pe_str (pa_cons (pv 2) pa_nil))) (pa_cons (pe_tup (pa_cons pe_str (pa_cons (pv 7) pa_nil))) pa_nil)))) po_none (po_some (pe_f G_law_draw (hr.mono (by omega)) (by rfl) pass0 (pa_cons (pv 0) (pa_cons pe_int pa_nil))))))
      (pss_cons (ps_set (i := 10) sc_law_statement.nd rfl (Or.inl rfl) (pe_lst (pa_cons (pe_tup (pa_cons pe_str (pa_cons (pv 7) (pa_cons (pv 2) pa_nil)))) (pa_cons (pe_tup (pa_cons pe_str (pa_cons (pv 7) pa_nil))) (pa_cons (pe_tup (pa_cons pe_str (pa_cons (pv 2) pa_nil))) (pa_cons (pe_tup (pa_cons pe_str (pa_cons (pv 8) pa_nil))) (pa_cons (pe_tup (pa_cons pe_str (pa_cons (pv 8) pa_nil))) pa_nil)))))))
      (pss_cons (ps_set (i := 10) sc_law_statement.nd rfl (Or.inl rfl) (pe_op op_cat (pv 10) (pe_lst (pa_cons (pe_tup (pa_cons pe_str (pa_cons (pv 6) (pa_cons (pe_callTy c_tup (by rfl) B.tuple (by decide +kernel) (pa_cons (pv 9) pa_nil)) (pa_cons (pe_tup pa_nil) pa_nil))))) (pa_cons (pe_tup (pa_cons pe_str (pa_cons (pv 6) (pa_cons (pe_tup pa_nil) (pa_cons (pe_callTy c_tup (by rfl) B.tuple (by decide +kernel) (pa_cons (pv 9) pa_nil)) pa_nil))))) pa_nil)))))
      (pss_one (ps_ret (pe_f G_law_one (hr.mono (by omega)) (by rfl) pass0 (pa_cons (pv 0) (pa_cons (pe_op op_cat (pv 10) (pe_lst (pa_cons (pe_tup (pa_cons pe_str (pa_cons (pe_f G_law_draw (hr.mono (by omega)) (by rfl) pass0 (pa_cons (pv 0) (pa_cons pe_int pa_nil))) (pa_cons (pe_callTy c_tup (by rfl) B.tuple (by decide +kernel) (pa_cons (pv 9) pa_nil)) pa_nil)))) pa_nil))) pa_nil))))))))))))))), ?_⟩
  walk_at "rd"
  refine r_LcR (by omega) (by omega) fun p hp => ?_
  have fp := Dk.fresh hp
  refine ⟨fun i H' => ∃ (acc : List V) (ys : List PyData) (n' : Int), H' p = some (.lst acc) ∧ acc.length = i ∧ DwL (d :: c :: [p]) K H' acc ys ∧ (∀ y ∈ ys, Dok y 200 5) ∧ Deck H' d c n' ∧ n ≤ n' ∧ n' ≤ n + 21 * i ∧ Kp [d, c] H H',
    ⟨[], [], n, upd_same, rfl, DwL.nil, (fun _ h => nomatch h), Dk.kp (Kp.nil.new hp) (by simp) (by simp), by omega, by omega, (Kp.refl Dk.ls).new hp⟩, ?_, ?_⟩
  · rintro i H1 hi ⟨acc, ys, n1', p1, p2, p3, p4, D1, q1, q2, k1⟩
    have hi2 : i < 2 := hi
    walk_at "rd"
    refine spDraw.use D1 (by omega) (by omega) (by omega) fun H2 u u0 u1 D2 k2 => ?_
    have kk2 := k1.trans k2
    have p5 := k2.get p1 (by simp [fp.1, fp.2])
    walk_at "rd"
    refine ⟨d, c, nm, _, _, xs, [p], rfl, D2, by omega, N.kp kk2 (by simp [n1, n2]), n1, n2, (fun e m => by cases List.mem_singleton.mp m; exact ⟨_, p5⟩), by omega, by omega, fun H3 v3 x3 n3 D3 q3 q4 k3 hv3 ok3 => ?_⟩
    have p6 := k3.get p5 (by simp [fp.1, fp.2])
    have kw := kpW (o := .lst (acc ++ [v3])) p6
    refine r_LcEnd p6 (by rw [sizeLine_eq]; omega) ⟨acc ++ [v3], ys ++ [x3], n3, upd_same, by rw [List.length_append, List.length_singleton, p2], ?_, ?_, D3.kp kw (by simp [Ne.symm fp.1]) (by simp [Ne.symm fp.2]), by omega, by omega, ((kk2.trans k3).own hp)⟩
    · exact (((p3.kpS k2 dcM).kpS k3 dcM).app (DwL.cons hv3 DwL.nil)).kpS kw (by simp)
    · intro y hy
      rcases List.mem_append.mp hy with hy | hy
      · exact p4 y hy
      · rw [List.mem_singleton.mp hy]
        exact ok3
  rintro H1 ⟨acc, ys, n1', p1, p2, p3, p4, D1, q1, q2, k1⟩
  have p2' : acc.length = 2 := p2
  obtain ⟨v1, v2, e1, e2, rfl, rfl, hv1, hv2⟩ := p3.is2 p2'
  have hv1 : Dw [d, c] K H1 v1 e1 := hv1.sub (by simp)
  have hv2 : Dw [d, c] K H1 v2 e2 := hv2.sub (by simp)
  have ok_1 := p4 e1 (by simp)
  have ok_2 := p4 e2 (by simp)
  have q2 : n1' ≤ n + 42 := by
    have e : ((Int.toNat 2 : Nat) : Int) = 2 := rfl
    omega
  refine ⟨p, _, rfl, SqL.of p1, rfl, ?_⟩
  clear p1 p2 p2' p4 p3 hp fp
  walk_at "rd"
  refine spDraw.use D1 (by omega) (by omega) (by omega) fun H2 u u0 u1 D2 k2 => ?_
  have kk2 := k1.trans k2
  walk_at "rd"
  refine spDraw.use D2 (by omega) (by omega) (by omega) fun H3 y y0 y1 D3 k3 => ?_
  have kk3 := kk2.trans k3
  have a1 := (hv1.kp k2).kp k3
  have a2 := (hv2.kp k2).kp k3
  clear hv1 hv2 k1 k2 k3 kk2 D1 D2
  walk_at "rd"
  refine ⟨by simp [sizeLine_eq], fun pt hpt => ?_⟩
  have k4 : Kp [] H3 (upd H3 pt (.tup [.str "rest", v1, .int (1 + u), .int y])) := Kp.nil.new hpt
  have D4 := D3.kp k4 (by simp) (by simp)
  have b1 := a1.kp0 k4
  have b2 := a2.kp0 k4
  have kk4 := kk3.new (o := .tup [.str "rest", v1, .int (1 + u), .int y]) hpt
  have t4 : Dw [d, c] K (upd H3 pt (.tup [.str "rest", v1, .int (1 + u), .int y])) (.ref pt) (.tuple [.str "rest", e1, .int (1 + u), .int y]) := (DwL.cons (.str _) (DwL.cons b1 (DwL.cons (.int _) (DwL.cons (.int _) DwL.nil)))).tup upd_same
  generalize upd H3 pt (.tup [.str "rest", v1, .int (1 + u), .int y]) = H4 at k4 D4 b1 b2 t4 kk4 ⊢
  walk_at "rd"
  refine ⟨by simp [sizeLine_eq], fun pl hpl => ?_⟩
  have k5 : Kp [] H4 (upd H4 pl (.tup [.str "less", v1, v2])) := Kp.nil.new hpl
  have D5 := D4.kp k5 (by simp) (by simp)
  have c1 := b1.kp0 k5
  have c2 := b2.kp0 k5
  have t5 := t4.kp0 k5
  have kk5 := kk4.new (o := .tup [.str "less", v1, v2]) hpl
  have l5 : Dw [d, c] K (upd H4 pl (.tup [.str "less", v1, v2])) (.ref pl) (.tuple [.str "less", e1, e2]) := (DwL.cons (.str _) (DwL.cons c1 (DwL.cons c2 DwL.nil))).tup upd_same
  generalize upd H4 pl (.tup [.str "less", v1, v2]) = H5 at k5 D5 c1 c2 t5 l5 kk5 ⊢
  walk_at "rd"
  refine ⟨by simp [sizeLine_eq], fun q hq => ?_⟩
  have k6 : Kp [] H5 (upd H5 q (.lst [.ref pt, .ref pl])) := Kp.nil.new hq
  have D6 := D5.kp k6 (by simp) (by simp)
  have f6 := D5.fresh hq
  have kk6 := kk5.new (o := .lst [.ref pt, .ref pl]) hq
  have g1 := c1.kp0 k6
  refine one_dw (M := []) (ds := [.tuple [.str "rest", e1, .int (1 + u), .int y], .tuple [.str "less", e1, e2]]) D6 (by omega) upd_same (DwL.cons (t5.kp0 k6) (DwL.cons (l5.kp0 k6) DwL.nil)) f6.1 f6.2 (by simp) (by simp) fun H7 x7 e7 he7 hx7 D7 k7 => ?_
  have kk7 := kk6.trans k7
  have g7 := g1.kp k7
  have ok7 : Dok e7 430 6 := by
    simp only [List.mem_cons, List.not_mem_nil, or_false] at he7
    rcases he7 with rfl | rfl
    · exact (Doks.tup (Doks.cons (Dok.str (lit_ok (x := "rest") (n := 5) (by decide +kernel))) (Doks.cons ok_1 (Doks.cons (Dok.int (by omega) (by omega)) (Doks.cons (Dok.int (by omega) (by omega)) (Doks.nil (k := 5)) (by omega)) (by omega)) (by omega)) (by omega))).mono (by omega) (by omega)
    · exact (Doks.tup (Doks.cons (Dok.str (lit_ok (x := "less") (n := 5) (by decide +kernel))) (Doks.cons ok_1 (Doks.cons ok_2 (Doks.nil (k := 5)) (by omega)) (by omega)) (by omega))).mono (by omega) (by omega)
  clear k4 k5 k6 k7 D3 D4 D5 D6 a1 a2 b1 b2 c1 c2 t4 t5 l5 kk3 kk4 kk5 kk6 hpt hpl hq f6 g1 he7
  have N7 := N.kp kk7 (by simp [n1, n2])
  with_reducible refine r_name ?_
  with_reducible refine r_seq ?_
  with_reducible refine r_asg ?_
  refine call_one (K := K) (M := []) (ds := [e7, e7, .tuple [.str "given", .str x1]]) D7 (by omega) rfl D7.oc (cws_cons (cw_var rfl hx7) (cws_cons (cw_var rfl hx7) (cws_cons (cw_tup (cws_cons cw_str (cws_cons (cw_ix rfl N7.h hat (.str x1)) cws_nil)) (by simp)) cws_nil))) (by simp) (by simp) fun H8 x8 e8 he8 hx8 D8 k8 => ?_
  have kk8 := kk7.trans k8
  have g8 := g7.kp k8
  have ok8 : Dok e8 430 6 := by
    simp only [List.mem_cons, List.not_mem_nil, or_false] at he8
    rcases he8 with rfl | rfl | rfl
    · exact ok7
    · exact ok7
    · exact (Doks.tup (Doks.cons (Dok.str (lit_ok (x := "given") (n := 5) (by decide +kernel))) (Doks.cons (Dok.str nm1) (Doks.nil (k := 5)) (by omega)) (by omega))).mono (by omega) (by omega)
  clear k8 D7 he8 hx7 g7 N7 kk7
  walk_at "rd"
  refine spDraw.use D8 (by omega) (by omega) (by omega) fun H9 z z0 z1 D9 k9 => ?_
  have kk9 := kk8.trans k9
  have g9 := g8.kp k9
  walk_at "rd"
  refine ⟨0, _, rfl, ?_⟩
  generalize hw : (if z - 2 > 0 then z - 2 else (0 : Int)) = w
  have hw2 : 0 ≤ w ∧ w ≤ 3 := by
    rw [← hw]
    split <;> omega
  walk_at "rd"
  refine r_ForR (fun i σ H' => ∃ (v : V) (x : PyData) (kx : Option V), σ = [some (.ref d), some (.ref nm), some v1, some v2, kx, some (.int (1 + u)), some v, none, none, none, none] ∧ Kp [] H9 H' ∧ Dw [d, c] K H' v x ∧ Dok x (430 + 6 * i) (6 + i))
    (by omega) (by omega) ⟨_, _, _, rfl, Kp.nil, hx8.kp k9, ok8⟩ ?_ ?_
  · rintro i σ Ha hi ⟨v, x, kx, rfl, ka, hva, oka⟩
    walk_at "rd"
    refine ⟨by simp [sizeLine_eq], fun pa hpa => ?_⟩
    have kb : Kp [] Ha (upd Ha pa (.tup [.str "not", v])) := Kp.nil.new hpa
    walk_at "rd"
    exact ⟨_, _, _, rfl, ka.new hpa, (DwL.cons (.str _) (DwL.cons (hva.kp0 kb) DwL.nil)).tup upd_same,
      (Doks.tup (Doks.cons (Dok.str (lit_ok (x := "not") (n := 3) (by decide +kernel))) (Doks.cons oka (Doks.nil (k := 6 + i)) (by omega)) (by omega))).mono (by omega) (by omega)⟩
  rintro σ Ha ⟨vt, xt, kx, rfl, ka, hva, oka⟩
  have Da := D9.kp ka (by simp) (by simp)
  have kka := kk9.trans (ka.sub D9.ls (by simp))
  have ga := g9.kp0 ka
  have okt : Dok xt 460 10 := oka.mono (by omega) (by omega)
  clear oka D8 D9 k9 ka g8 g9 kk8 kk9 hx8 hw
  have Na := N.kp kka (by simp [n1, n2])
  walk_at "rd"
  refine Na.one Da (by omega) n1 n2 fun Hb y2 hy2 Db kb => ?_
  have kkb := kka.trans kb
  have gb := ga.kp kb
  have tb := hva.kp kb
  have ny := name_ok hy2
  have Nb := N.kp kkb (by simp [n1, n2])
  clear kb Da ga hva Na kka
  with_reducible refine r_name ?_
  with_reducible refine r_seq ?_
  with_reducible refine r_asg ?_
  have l1 := nm1.2
  have l2 : ("ab" : Str).length = 2 := by decide +kernel
  refine call_one (K := K) (M := []) (ds := [.str "go", .str "0", .str "if", .str "unsure", .str "unsure1", .str x1, .str (x1 ++ "ab"), .str "abcdefgh"]) Db (by omega) rfl Db.oc
    (cws_cons cw_str (cws_cons cw_str (cws_cons cw_str (cws_cons cw_str (cws_cons cw_str (cws_cons (cw_ix rfl Nb.h hat (.str x1)) (cws_cons (cw_addS (cw_ix rfl Nb.h hat (.str x1)) (by omega)) (cws_cons cw_str cws_nil)))))))) (by simp) (by simp) fun Hc xc ec hec hxc Dc kc => ?_
  have okc : Dok ec 11 0 := by
    simp only [List.mem_cons, List.not_mem_nil, or_false] at hec
    rcases hec with rfl | rfl | rfl | rfl | rfl | rfl | rfl | rfl
    · exact Dok.by (by decide +kernel)
    · exact Dok.by (by decide +kernel)
    · exact Dok.by (by decide +kernel)
    · exact Dok.by (by decide +kernel)
    · exact Dok.by (by decide +kernel)
    · exact (Dok.str nm1).mono (by omega) (by omega)
    · refine (Dok.str (n := 10) ⟨?_, ?_⟩).mono (by omega) (by omega)
      · exact ((Sok.app ⟨nm1.1, Nat.le_refl _⟩ (Sok.lit (x := "ab") (n := 2) (by decide +kernel)))).ok
      · rw [Str.length_append]
        omega
    · exact Dok.by (by decide +kernel)
  have kkc := kkb.trans kc
  have gc := gb.kp kc
  have tc := tb.kp kc
  clear kc Db gb tb Nb kkb hec
  with_reducible refine r_name ?_
  with_reducible refine r_seq ?_
  with_reducible refine r_asg ?_
  with_reducible refine r_sl ?_
  with_reducible refine r_lst ?_
  have occ := Dc.oc
  refine CWs.use (M := [d, c]) (K := K) (ds := [.tuple [.str "say", ec], .tuple [.str "tell", e1], .tuple [.str "unset", .str y2]]) ?a3 fun Hd vd kd hsd => ⟨by rw [hsd.len, sizeLine_eq]; simp, fun pd hpd => ?_⟩
  case a3 =>
    have hy : Dw [d, c] K Hc (.str y2) (.str y2) := .str y2
    walk_at "cw"
  have ke : Kp [] Hc (upd Hd pd (.lst vd)) := kd.new hpd
  have De := Dc.kp ke (by simp) (by simp)
  have hse := hsd.kp0 (Kp.nil.new (o := .lst vd) hpd)
  have fd := (Dc.kp kd (by simp) (by simp)).fresh hpd
  have qe : upd Hd pd (.lst vd) pd = some (.lst vd) := upd_same
  have ge := gc.kp0 ke
  have te := tc.kp0 ke
  have xe := hxc.kp0 ke
  have kke := kkc.trans (ke.sub Dc.ls (by simp))
  generalize upd Hd pd (.lst vd) = He at ke De hse qe ge te xe kke ⊢
  clear ke kd gc tc hxc kkc Dc hsd hpd occ
  walk_at "rd"
  refine spDraw.use De (by omega) (by omega) (by omega) fun Hf w1 w10 w11 Df kf => ?_
  have hsf := hse.kp kf
  have qf := kf.get qe (by simp [fd.1, fd.2])
  walk_at "rd"
  refine r_slL (SqL.of qf) fun pr hpr => ?_
  have kr : Kp [] Hf (upd Hf pr (.lst (cutV vd none (some w1)))) := Kp.nil.new hpr
  have Dr := Df.kp kr (by simp) (by simp)
  have hsr := (hsf.cut none (some w1)).kp0 kr
  have qr : upd Hf pr (.lst (cutV vd none (some w1))) pr = some (.lst (cutV vd none (some w1))) := upd_same
  have gr := (ge.kp kf).kp0 kr
  have tr := (te.kp kf).kp0 kr
  have xr := (xe.kp kf).kp0 kr
  have kkr := (kke.trans kf).new (o := .lst (cutV vd none (some w1))) hpr
  have fr := Df.fresh hpr
  generalize upd Hf pr (.lst (cutV vd none (some w1))) = Hr at kr Dr hsr qr gr tr xr kkr ⊢
  have okr : Doks (cutD [PyData.tuple [.str "say", ec], .tuple [.str "tell", e1], .tuple [.str "unset", .str y2]] none (some w1)) 300 7 := by
    have o1 : Dok (.tuple [.str "say", ec]) 20 1 := (Doks.tup (Doks.cons (Dok.str (lit_ok (x := "say") (n := 5) (by decide +kernel))) (Doks.cons okc (Doks.nil (k := 0)) (by omega)) (by omega))).mono (by omega) (by omega)
    have o2 : Dok (.tuple [.str "tell", e1]) 210 6 := (Doks.tup (Doks.cons (Dok.str (lit_ok (x := "tell") (n := 5) (by decide +kernel))) (Doks.cons ok_1 (Doks.nil (k := 5)) (by omega)) (by omega))).mono (by omega) (by omega)
    have o3 : Dok (.tuple [.str "unset", .str y2]) 20 1 := (Doks.tup (Doks.cons (Dok.str (lit_ok (x := "unset") (n := 5) (by decide +kernel))) (Doks.cons (Dok.str ny) (Doks.nil (k := 0)) (by omega)) (by omega))).mono (by omega) (by omega)
    have all : Doks [PyData.tuple [.str "say", ec], .tuple [.str "tell", e1], .tuple [.str "unset", .str y2]] 250 7 := by
      have q := Doks.cons o1 (Doks.cons o2 (Doks.cons o3 (Doks.nil (k := 7)) (by omega)) (by omega)) (by omega)
      exact ⟨by have := q.sz; omega, q.sh, q.dp⟩
    refine ⟨Nat.le_trans (dszs_cut _ _ _) (by have := all.sz; omega), shbs_all fun e he => shbs_mem all.sh (cutD_mem he), depthAll_le fun e he => Nat.le_trans (depthAll_mem (cutD_mem he)) all.dp⟩
  generalize cutD [PyData.tuple [.str "say", ec], .tuple [.str "tell", e1], .tuple [.str "unset", .str y2]] none (some w1) = rw at hsr okr
  generalize cutV vd none (some w1) = vr at hsr qr
  clear kf kr hsf qf hse qe ge te xe kke De Df hpr
  have ocr := Dr.oc
  with_reducible refine r_name ?_
  with_reducible refine r_seq ?_
  with_reducible refine r_asg ?_
  with_reducible refine r_lst ?_
  refine CWs.use (M := [d, c]) (K := K) (ds := [.tuple [.str "set", .str y2, e1], .tuple [.str "unset", .str y2], .tuple [.str "tell", e1], .tuple [.str "say", ec], .tuple [.str "stop", ec]]) ?a4 fun Hg vg kg hsg => ⟨by rw [hsg.len, sizeLine_eq]; simp, fun pg hpg => ?_⟩
  case a4 =>
    have hy : Dw [d, c] K Hr (.str y2) (.str y2) := .str y2
    walk_at "cw"
  have kh : Kp [] Hr (upd Hg pg (.lst vg)) := kg.new hpg
  have Dh := Dr.kp kh (by simp) (by simp)
  have hsh := hsg.kp0 (Kp.nil.new (o := .lst vg) hpg)
  have qh : upd Hg pg (.lst vg) pg = some (.lst vg) := upd_same
  have gh := gr.kp0 kh
  have th := tr.kp0 kh
  have xh := xr.kp0 kh
  have kkh := kkr.trans (kh.sub Dr.ls (by simp))
  have rh := hsr.kp0 kh
  have rqh := kh.get qr (by simp)
  generalize upd Hg pg (.lst vg) = Hh at kh Dh hsh qh gh th xh kkh rh rqh ⊢
  clear kh kg gr tr xr kkr Dr hsg hpg hsr qr ocr
  have och := Dh.oc
  with_reducible refine r_name ?_
  with_reducible refine r_seq ?_
  with_reducible refine r_asg ?_
  refine cat_some (K := K) (es := [.tuple [.str "if", xt, .tuple rw, .tuple []], .tuple [.str "if", xt, .tuple [], .tuple rw]]) rfl qh hsh
    (cws_cons (cw_tup (cws_cons cw_str (cws_cons (cw_var rfl th) (cws_cons (cw_tupL rfl rqh rh) (cws_cons (cw_tup cws_nil (by simp)) cws_nil)))) (by simp))
      (cws_cons (cw_tup (cws_cons cw_str (cws_cons (cw_var rfl th) (cws_cons (cw_tup cws_nil (by simp)) (cws_cons (cw_tupL rfl rqh rh) cws_nil)))) (by simp)) cws_nil)) (by simp) fun Hi pi wi hpi qi hsi ki => ?_
  have Di := Dh.kp ki (by simp) (by simp)
  have ri := rh.kp0 ki
  have rqi := ki.get rqh (by simp)
  have fi := Dh.fresh hpi
  have kki := kkh.trans (ki.sub Dh.ls (by simp))
  have fpr : pr ≠ d ∧ pr ≠ c := fr
  clear ki gh th xh kkh hsh qh Dh rh rqh och
  walk_at "rd"
  refine spDraw.use Di (by omega) (by omega) (by omega) fun Hj w2 w20 w21 Dj kj => ?_
  have rj := ri.kp kj
  have rqj := kj.get rqi (by simp [fpr.1, fpr.2])
  have hsj := hsi.kp kj
  have qj := kj.get qi (by simp [fi.1, fi.2])
  have kkj := kki.trans kj
  walk_at "rd"
  refine r_tupL (SqL.of rqj) fun t1 ht1 => ?_
  have k1 : Kp [] Hj (upd Hj t1 (.tup vr)) := Kp.nil.new ht1
  have Dk1 := Dj.kp k1 (by simp) (by simp)
  have w1' : Dw [d, c] K (upd Hj t1 (.tup vr)) (.ref t1) (.tuple rw) := (rj.kp0 k1).tup upd_same
  have hs1 := hsj.kp0 k1
  have qk1 := k1.get qj (by simp)
  have kk1 := kkj.new (o := .tup vr) ht1
  generalize upd Hj t1 (.tup vr) = Hk at k1 Dk1 w1' hs1 qk1 kk1 ⊢
  walk_at "rd"
  refine ⟨by simp [sizeLine_eq], fun t2 ht2 => ?_⟩
  have k2 : Kp [] Hk (upd Hk t2 (.tup [.str "repeat", .int w2, .ref t1])) := Kp.nil.new ht2
  have Dk2 := Dk1.kp k2 (by simp) (by simp)
  have w2' : Dw [d, c] K (upd Hk t2 (.tup [.str "repeat", .int w2, .ref t1])) (.ref t2) (.tuple [.str "repeat", .int w2, .tuple rw]) := (DwL.cons (.str _) (DwL.cons (.int _) (DwL.cons (w1'.kp0 k2) DwL.nil))).tup upd_same
  have hs2 := hs1.kp0 k2
  have qk2 := k2.get qk1 (by simp)
  have kk2 := kk1.new (o := .tup [.str "repeat", .int w2, .ref t1]) ht2
  generalize upd Hk t2 (.tup [.str "repeat", .int w2, .ref t1]) = Hl at k2 Dk2 w2' hs2 qk2 kk2 ⊢
  walk_at "rd"
  refine ⟨by simp [sizeLine_eq], fun t3 ht3 => ?_⟩
  have k3 : Kp [] Hl (upd Hl t3 (.lst [.ref t2])) := Kp.nil.new ht3
  have Dk3 := Dk2.kp k3 (by simp) (by simp)
  have hs3 := (hs2.kp0 k3).app (DwL.cons (w2'.kp0 k3) DwL.nil)
  have qk3 := k3.get qk2 (by simp)
  have qt3 : upd Hl t3 (.lst [.ref t2]) t3 = some (.lst [.ref t2]) := upd_same
  have kk3 := kk2.new (o := .lst [.ref t2]) ht3
  have li := hsi.len
  generalize upd Hl t3 (.lst [.ref t2]) = Hm at k3 Dk3 hs3 qk3 qt3 kk3 ⊢
  refine r_cat qk3 qt3 (by rw [li, sizeLine_eq]; simp) fun t4 ht4 => ?_
  have k4 : Kp [] Hm (upd Hm t4 (.lst (wi ++ [.ref t2]))) := Kp.nil.new ht4
  have f4 := Dk3.fresh ht4
  walk_at "rd"
  refine one_dw (M := []) (Dk3.kp k4 (by simp) (by simp)) (by omega) upd_same (hs3.kp0 k4) f4.1 f4.2 (by simp) (by simp) fun Hn xn en hen hxn Dn kn => ?_
  refine k _ _ en _ Dn (by omega) (by omega) ((kk3.new ht4).trans kn) hxn ?_
  have o1 : Dok e1 200 5 := ok_1
  have st2 : ∀ (o : Str) (a : PyData) (za : Nat), (PyData.strOk o && decide (o.length ≤ 5)) = true → Dok a za 5 → za ≤ 300 → Dok (.tuple [.str o, a]) 3000 20 := fun o a za ho ha hz =>
    (Doks.tup (Doks.cons (Dok.str (lit_ok ho)) (Doks.cons ha (Doks.nil (k := 5)) (Nat.le_refl _)) (Nat.zero_le _))).mono (by omega) (by omega)
  have okr2 := okr.tup
  simp only [List.mem_append, List.mem_cons, List.not_mem_nil, or_false] at hen
  rcases hen with ((rfl | rfl | rfl | rfl | rfl) | rfl | rfl) | rfl
  · exact (Doks.tup (Doks.cons (Dok.str (lit_ok (x := "set") (n := 5) (by decide +kernel))) (Doks.cons (Dok.str ny) (Doks.cons o1 (Doks.nil (k := 5)) (by omega)) (by omega)) (by omega))).mono (by omega) (by omega)
  · exact st2 _ _ _ (by decide +kernel) ((Dok.str ny).mono (Nat.le_refl _) (by omega)) (by omega)
  · exact st2 _ _ _ (by decide +kernel) o1 (by omega)
  · exact st2 _ _ _ (by decide +kernel) (okc.mono (Nat.le_refl _) (by omega)) (by omega)
  · exact st2 _ _ _ (by decide +kernel) (okc.mono (Nat.le_refl _) (by omega)) (by omega)
  · exact (Doks.tup (Doks.cons (Dok.str (lit_ok (x := "if") (n := 5) (by decide +kernel))) (Doks.cons okt (Doks.cons okr2 (Doks.cons (Dok.nil (k := 0)) (Doks.nil (k := 10)) (by omega)) (by omega)) (by omega)) (by omega))).mono (by omega) (by omega)
  · exact (Doks.tup (Doks.cons (Dok.str (lit_ok (x := "if") (n := 5) (by decide +kernel))) (Doks.cons okt (Doks.cons (Dok.nil (k := 0)) (Doks.cons okr2 (Doks.nil (k := 10)) (by omega)) (by omega)) (by omega)) (by omega))).mono (by omega) (by omega)
  · exact (Doks.tup (Doks.cons (Dok.str (lit_ok (x := "repeat") (n := 6) (by decide +kernel))) (Doks.cons (Dok.int (by omega) (by omega)) (Doks.cons okr2 (Doks.nil (k := 10)) (by omega)) (by omega)) (by omega))).mono (by omega) (by omega)
abbrev slaw : Stmt := topS 54
abbrev Nlaw : List Str := ["_law_script", "_law_deck_here", "_law_names_here", "_law_turn", "_law_row", "_law_bent_here", "_law_word", "_law_some", "_law_value", "_law_kept_here"]
abbrev Plaw : List Str := ["_law_script"]
theorem sclaw : FnScope Nlaw Plaw (defScope slaw) :=
  ⟨rfl, rfl, rfl, by decide +kernel, rfl, by decide +kernel, by decide +kernel⟩
theorem ok_law (D : Df K mg "law" slaw Plaw) (B : Blt mg) (hM : ∃ mm, base.Ns sysModules mm)
    (G_law_deck : Has P w K mg base CX0 "_law_deck" ["_law_script"] 1 (spDeck K)) (G_law_one : Has P w K mg base CX0 "_law_one" ["_law_deck_here", "_law_items"] 2 (spOne K)) (G_law_names : Has P w K mg base CX0 "_law_names" ["_law_deck_here"] 3 spNmV)
    (G_law_statement : Has P w K mg base CX0 "_law_statement" ["_law_deck_here", "_law_names_here"] 4 (spStm K)) (G_law_odd : Has P w K mg base CX0 "_law_odd" ["_law_deck_here"] 3 (spOdd K))
    (G_law_bent : Has P w K mg base CX0 "_law_bent" ["_law_deck_here", "_law_value", "_law_deep_here"] 10 (spBent K 6)) (G_law_kept : Has P w K mg base CX0 "_law_kept" [] 1 spKept)
    (Gprogram_error : Has P w K mg base CX0 "program_error" ["value"] 12 (spPerr K)) (G_law_error : Has P w K mg base CX0 "_law_error" ["_law_value"] 12 (spPerr K)) :
    Has P w K mg base CX0 "law" Plaw 16 (spLaw K) := by
  refine D.has sclaw (fun vs H Q E h => ?_) (fun f cdv A outer s H vs Q E hr h => ?_)
  · obtain ⟨a, ns, rfl, _⟩ := h
    rfl
  obtain ⟨a, ns, rfl, hS, hl, k⟩ := h
  refine ⟨_, (pss_cons (ps_set (i := 1) sclaw.nd rfl (Or.inl rfl) (pe_f G_law_deck (hr.mono (by omega)) (by rfl) pass0 (pa_cons (pv 0) pa_nil)))
      (pss_cons (ps_set (i := 2) sclaw.nd rfl (Or.inl rfl) (pe_f G_law_names (hr.mono (by omega)) (by rfl) pass0 (pa_cons (pv 1) pa_nil)))
      (pss_cons (ps_for PassesOwn.never rfl (pi_range1 (by rfl) B.range (pa_cons pe_int pa_nil)) (pg_name (i := 3) sclaw.nd rfl (Or.inl rfl))
        (pss_cons (ps_set (i := 4) sclaw.nd rfl (Or.inl rfl) (pe_f G_law_statement (hr.mono (by omega)) (by rfl) pass0 (pa_cons (pv 1) (pa_cons (pv 2) pa_nil))))
      (pss_cons (ps_set (i := 5) sclaw.nd rfl (Or.inl rfl) (pe_f G_law_bent (hr.mono (by omega)) (by rfl) pass0 (pa_cons (pv 1) (pa_cons (pv 4) (pa_cons pe_int pa_nil)))))
      (pss_cons (ps_set (i := 6) sclaw.nd rfl (Or.inl rfl) (pe_f G_law_one (hr.mono (by omega)) (by rfl) pass0 (pa_cons (pv 1) (pa_cons (pe_f0 G_law_kept (hr.mono (by omega)) (by rfl) pass0) pa_nil))))
      (pss_cons (ps_set (i := 7) sclaw.nd rfl (Or.inl rfl) (pe_lst (pa_cons (pe_tup (pa_cons pe_str (pa_cons (pv 6) (pa_cons pe_int pa_nil)))) (pa_cons (pe_tup (pa_cons pe_str (pa_cons (pv 6) pa_nil))) (pa_cons (pe_tup (pa_cons pe_str (pa_cons (pv 6) pa_nil))) (pa_cons (pe_tup (pa_cons pe_str (pa_cons (pe_tup (pa_cons pe_str (pa_cons (pv 6) pa_nil))) (pa_cons (pe_tup pa_nil) (pa_cons (pe_tup pa_nil) pa_nil))))) pa_nil))))))
      (pss_one (ps_for PassesOwn.never rfl (pi_list (pe_op op_cat (pe_lst (pa_cons (pv 4) (pa_cons (pv 5) (pa_cons (pe_f G_law_bent (hr.mono (by omega)) (by rfl) pass0 (pa_cons (pv 1) (pa_cons (pv 5) (pa_cons pe_int pa_nil)))) (pa_cons (pe_f G_law_odd (hr.mono (by omega)) (by rfl) pass0 (pa_cons (pv 1) pa_nil)) pa_nil))))) (pv 7))) (pg_name (i := 8) sclaw.nd rfl (Or.inl rfl))
        (pss_cons (ps_set (i := 9) sclaw.nd rfl (Or.inl rfl) (pe_callB (c_repr3 hr hM) (by rfl) B.repr (by decide +kernel) (pa_cons (pv 8) pa_nil)))
      (pss_one (ps_if (PW.pt (pw_or (pt_cmpR op_ne (pe_callB (c_repr3 hr hM) (by rfl) B.repr (by decide +kernel) (pa_cons (pe_f Gprogram_error (hr.mono (by omega)) (by rfl) pass0 (pa_cons (pe_tup (pa_cons (pv 8) pa_nil)) pa_nil)) pa_nil)) (pe_callB (c_repr3 hr hM) (by rfl) B.repr (by decide +kernel) (pa_cons (pe_f G_law_error (hr.mono (by omega)) (by rfl) pass0 (pa_cons (pe_tup (pa_cons (pv 8) pa_nil)) pa_nil)) pa_nil)) (nomark _)) (pw_or1 (pt_cmpR op_ne (pe_callB (c_repr3 hr hM) (by rfl) B.repr (by decide +kernel) (pa_cons (pv 8) pa_nil)) (pv 9) (nomark _))))) (pss_one (ps_ret pe_bl))
        pss_nil))))))))))
      (pss_one (ps_ret pe_bl))))), ?_⟩
  walk_at "rd"
  refine ⟨a, ns, rfl, hS, hl, fun H1 d c hd hc D1 k1 => ?_⟩
  walk_at "rd"
  refine ⟨d, c, _, rfl, D1, by omega, fun H2 nm xs n2 hnm D2 q1 q2 k2 N2 => ?_⟩
  have fnm : nm ≠ d ∧ nm ≠ c := D1.fresh hnm
  have oc0 : ∀ H : Hp, Oc [] H := fun H a m => by cases m
  walk_at "rd"
  refine r_ForR (fun i σ H' => ∃ (n' : Int) (x3 x4 x5 x6 x7 x8 x9 : Option V), σ = [some (.ref a), some (.ref d), some (.ref nm), x3, x4, x5, x6, x7, x8, x9] ∧ Deck H' d c n' ∧ n' ≤ 30 + 400 * i ∧ NmV H' nm xs) (by omega) (by omega) ⟨_, none, none, none, none, none, none, none, rfl, D2, by omega, N2⟩ ?_ ?_
  · rintro i σ H3 hi ⟨n3, x3, x4, x5, x6, x7, x8, x9, rfl, D3, hn3, N3⟩
    have hi6 : i < 16 := hi
    have n30 := D3.n0
    clear D1 D2 k1 k2 N2 hd hc hnm
    walk_at "rd"
    refine ⟨d, c, nm, n3, xs, rfl, D3, by omega, N3, fnm.1, fnm.2, fun H4 v4 y4 n4 D4 q3 q4 k4 hv4 ok4 => ?_⟩
    have N4 := N3.kp k4 (by simp [fnm.1, fnm.2])
    walk_at "rd"
    refine ⟨d, c, n4, [], v4, _, 3000, 20, rfl, D4, by omega, oc0 _, hv4, ok4, by omega, fun H5 v5 y5 n5 D5 q5 q6 k5 hv5 ok5 => ?_⟩
    have N5 := N4.kp k5 (by simp [fnm.1, fnm.2])
    have hv45 := hv4.kp k5
    walk_at "rd"
    refine ⟨rfl, fun H6 p6 hp6 k6 h6 => ?_⟩
    have D6 := D5.kp k6 (by simp) (by simp)
    have f6 := D5.fresh hp6
    walk_at "rd"
    refine spOne.list D6 (by omega) (SqL.of h6) f6.1 f6.2 (by rw [List.length_map]; decide) (by rw [List.length_map]; decide) fun H7 j x7 hx7 D7 k7 => ?_
    obtain ⟨wd, rfl, hwd⟩ : ∃ wd : Str, x7 = .str wd ∧ PyData.strOk wd = true ∧ wd.length ≤ 8 := by
      rw [List.getElem?_map] at hx7
      obtain ⟨z, hz, rfl⟩ := Option.map_eq_some_iff.mp hx7
      have hk : ∀ z ∈ KEPTS, PyData.strOk z = true ∧ z.length ≤ 8 := by decide +kernel
      exact ⟨z, rfl, hk z (List.mem_of_getElem? hz)⟩
    have N7 := (N5.kp k6 (by simp)).kp k7 (by simp [fnm.1, fnm.2])
    have hv47 := (hv45.kp0 k6).kp k7
    have hv57 := (hv5.kp0 k6).kp k7
    clear k4 k5 k6 k7 D3 D4 D5 D6 N3 N4 N5 hv4 hv45 hv5 h6 hp6 f6 hx7
    with_reducible refine r_name ?_
    with_reducible refine r_seq ?_
    with_reducible refine r_asg ?_
    with_reducible refine r_lst ?_
    refine CWs.use (M := [d, c]) (K := K) (ds := [.tuple [.str "set", .str wd, .int 1], .tuple [.str "unset", .str wd], .tuple [.str "tell", .str wd], .tuple [.str "if", .tuple [.str "given", .str wd], .tuple [], .tuple []]]) ?a1 fun H8 vs8 k8 hs8 => ⟨by rw [hs8.len, sizeLine_eq]; simp, fun p8 hp8 => ?_⟩
    case a1 =>
      have hy : Dw [d, c] K H7 (.str wd) (.str wd) := .str wd
      walk_at "cw"
    have k9 : Kp [] H7 (upd H8 p8 (.lst vs8)) := k8.new hp8
    have D9 := D7.kp k9 (by simp) (by simp)
    have hs9 := hs8.kp0 (Kp.nil.new (o := .lst vs8) hp8)
    have q9 : upd H8 p8 (.lst vs8) p8 = some (.lst vs8) := upd_same
    have f9 := (D7.kp k8 (by simp) (by simp)).fresh hp8
    have N9 := N7.kp k9 (by simp)
    have hv49 := hv47.kp0 k9
    have hv59 := hv57.kp0 k9
    generalize upd H8 p8 (.lst vs8) = H9 at k9 D9 hs9 q9 N9 hv49 hv59 ⊢
    clear k8 k9 hs8 hv47 hv57 N7 D7 hp8
    have w9 : Doks [PyData.tuple [.str "set", .str wd, .int 1], .tuple [.str "unset", .str wd], .tuple [.str "tell", .str wd], .tuple [.str "if", .tuple [.str "given", .str wd], .tuple [], .tuple []]] 200 5 := by
      have g : Dok (.tuple [.str "given", .str wd]) 20 1 := (Doks.tup (Doks.cons (Dok.str (lit_ok (x := "given") (n := 5) (by decide +kernel))) (Doks.cons (Dok.str hwd) (Doks.nil (k := 0)) (by omega)) (by omega))).mono (by omega) (by omega)
      have o1 : Dok (.tuple [.str "set", .str wd, .int 1]) 30 1 := (Doks.tup (Doks.cons (Dok.str (lit_ok (x := "set") (n := 5) (by decide +kernel))) (Doks.cons (Dok.str hwd) (Doks.cons (Dok.int (by omega) (by omega)) (Doks.nil (k := 0)) (by omega)) (by omega)) (by omega))).mono (by omega) (by omega)
      have o2 : Dok (.tuple [.str "unset", .str wd]) 30 1 := (Doks.tup (Doks.cons (Dok.str (lit_ok (x := "unset") (n := 5) (by decide +kernel))) (Doks.cons (Dok.str hwd) (Doks.nil (k := 0)) (by omega)) (by omega))).mono (by omega) (by omega)
      have o3 : Dok (.tuple [.str "tell", .str wd]) 30 1 := (Doks.tup (Doks.cons (Dok.str (lit_ok (x := "tell") (n := 5) (by decide +kernel))) (Doks.cons (Dok.str hwd) (Doks.nil (k := 0)) (by omega)) (by omega))).mono (by omega) (by omega)
      have o4 : Dok (.tuple [.str "if", .tuple [.str "given", .str wd], .tuple [], .tuple []]) 60 3 := (Doks.tup (Doks.cons (Dok.str (lit_ok (x := "if") (n := 5) (by decide +kernel))) (Doks.cons g (Doks.cons (Dok.nil (k := 0)) (Doks.cons (Dok.nil (k := 0)) (Doks.nil (k := 2)) (by omega)) (by omega)) (by omega)) (by omega))).mono (by omega) (by omega)
      have q := Doks.cons o1 (Doks.cons o2 (Doks.cons o3 (Doks.cons o4 (Doks.nil (k := 5)) (by omega)) (by omega)) (by omega)) (by omega)
      exact ⟨by have := q.sz; omega, q.sh, q.dp⟩
    have lds : [PyData.tuple [.str "set", .str wd, .int 1], .tuple [.str "unset", .str wd], .tuple [.str "tell", .str wd], .tuple [.str "if", .tuple [.str "given", .str wd], .tuple [], .tuple []]].length = 4 := rfl
    generalize [PyData.tuple [.str "set", .str wd, .int 1], .tuple [.str "unset", .str wd], .tuple [.str "tell", .str wd], .tuple [.str "if", .tuple [.str "given", .str wd], .tuple [], .tuple []]] = ds8 at hs9 w9 lds
    walk_at "rd"
    refine ⟨d, c, _, [], v5, _, 12000, 36, rfl, D9, by omega, oc0 _, hv59, ok5, by omega, fun Ha va ya na Da qa qb ka hva oka => ?_⟩
    walk_at "rd"
    refine ⟨d, c, na, [], rfl, Da, by omega, oc0 _, fun Hb vb yb nb Db qc qd kb hvb okb => ?_⟩
    have kab := ka.trans kb
    have q_b := kab.get q9 (by simp [f9.1, f9.2])
    have hs_b := (hs9.kp ka).kp kb
    have h4b := (hv49.kp ka).kp kb
    have h5b := (hv59.kp ka).kp kb
    have hab := hva.kp kb
    have Nb := (N9.kp ka (by simp [fnm.1, fnm.2])).kp kb (by simp [fnm.1, fnm.2])
    clear ka kb kab D9 Da N9 hv49 hv59 hva q9 hs9
    walk_at "rd"
    refine ⟨by simp [sizeLine_eq], fun pc hpc => ?_⟩
    have kc : Kp [] Hb (upd Hb pc (.lst [v4, v5, va, vb])) := Kp.nil.new hpc
    have Dc := Db.kp kc (by simp) (by simp)
    have sc : DwL [d, c] K (upd Hb pc (.lst [v4, v5, va, vb])) [v4, v5, va, vb] [y4, y5, ya, yb] := DwL.cons (h4b.kp0 kc) (DwL.cons (h5b.kp0 kc) (DwL.cons (hab.kp0 kc) (DwL.cons (hvb.kp0 kc) DwL.nil)))
    have qc2 : upd Hb pc (.lst [v4, v5, va, vb]) pc = some (.lst [v4, v5, va, vb]) := upd_same
    have q8c := kc.get q_b (by simp)
    have s8c := hs_b.kp0 kc
    have Nc := Nb.kp kc (by simp)
    generalize upd Hb pc (.lst [v4, v5, va, vb]) = Hc at kc Dc sc qc2 q8c s8c Nc ⊢
    walk_at "rd"
    have l8 := s8c.len
    refine r_cat qc2 q8c (by rw [l8, lds, sizeLine_eq]; simp) fun pq hpq => ?_
    have kq : Kp [] Hc (upd Hc pq (.lst ([v4, v5, va, vb] ++ vs8))) := Kp.nil.new hpq
    have Dq := Dc.kp kq (by simp) (by simp)
    have sq := (sc.app s8c).kp0 kq
    have hqq : upd Hc pq (.lst ([v4, v5, va, vb] ++ vs8)) pq = some (.lst ([v4, v5, va, vb] ++ vs8)) := upd_same
    have Nq := Nc.kp kq (by simp)
    generalize upd Hc pq (.lst ([v4, v5, va, vb] ++ vs8)) = Hq at kq Dq sq hqq Nq ⊢
    have okq : ∀ x ∈ [y4, y5, ya, yb] ++ ds8, Dok x 39000 40 := by
      intro x hx
      rcases List.mem_append.mp hx with hx | hx
      · simp only [List.mem_cons, List.not_mem_nil, or_false] at hx
        rcases hx with rfl | rfl | rfl | rfl
        · exact ok4.mono (by omega) (by omega)
        · exact ok5.mono (by omega) (by omega)
        · exact oka.mono (by omega) (by omega)
        · exact okb.mono (by omega) (by omega)
      · have e1 := dszs_mem hx
        have e2 := w9.sz
        have e3 := depthAll_mem hx
        have e4 := w9.dp
        exact ⟨by omega, shbs_mem w9.sh hx, by omega⟩
    refine r_ForL (SqL.of hqq) (fun i σ H' => ∃ (y3 y8 y9 : Option V), σ = [some (.ref a), some (.ref d), some (.ref nm), y3, some v4, some v5, some (.str wd), some (.ref p8), y8, y9] ∧ Kp [] Hq H') ⟨_, _, _, rfl, Kp.nil⟩ (fun i σ H' ⟨_, _, _, _, z⟩ => SqL.of (z.get hqq (by simp))) ?_ ?_
    · rintro j x σ Hr hx ⟨y3, y8, y9, rfl, kr⟩
      obtain ⟨dx, hdx, hxd⟩ := sq.get hx
      have okx := okq dx (List.mem_of_getElem? hdx)
      have hx0 := (hxd.kp0 kr).nil
      have ok1 : Dok (.tuple [dx]) 39001 41 := (Doks.cons okx (Doks.nil (k := 40)) (Nat.le_refl _)).tup.mono (by omega) (by omega)
      have hz' : dsz (.tuple [dx]) ≤ 1000000 := by have := ok1.sz; omega
      have hs := Shw.perr _ hz'
      walk_at "rd"
      refine r_repr3 hx0 okx.shw (by omega) (by omega) ?_
      walk_at "rd"
      refine ⟨by simp [sizeLine_eq], fun pa hpa => ?_⟩
      have ka : Kp [] Hr (upd Hr pa (.tup [x])) := Kp.nil.new hpa
      have wa : Dw [] K (upd Hr pa (.tup [x])) (.ref pa) (.tuple [dx]) := (DwL.cons (hx0.kp0 ka) DwL.nil).tup upd_same
      have hxa := hx0.kp0 ka
      generalize upd Hr pa (.tup [x]) = Ha at ka wa hxa ⊢
      walk_at "rd"
      refine ⟨_, _, rfl, wa, hz', fun Hs r1 ks hr1 => ?_⟩
      have hxs := hxa.kp0 ks
      walk_at "rd"
      refine r_repr3 hr1.dw hs.toD (by omega) (by omega) ?_
      walk_at "rd"
      refine ⟨by simp [sizeLine_eq], fun pb hpb => ?_⟩
      have kb : Kp [] Hs (upd Hs pb (.tup [x])) := Kp.nil.new hpb
      have wb : Dw [] K (upd Hs pb (.tup [x])) (.ref pb) (.tuple [dx]) := (DwL.cons (hxs.kp0 kb) DwL.nil).tup upd_same
      have hxb := hxs.kp0 kb
      generalize upd Hs pb (.tup [x]) = Hb at kb wb hxb ⊢
      walk_at "rd"
      refine ⟨_, _, rfl, wb, hz', fun Ht r2 kt hr2 => ?_⟩
      walk_at "rd"
      refine r_repr3 hr2.dw hs.toD (by omega) (by omega) ?_
      walk_at "rd"
      refine r_repr3 (hxb.kp0 kt) okx.shw (by omega) (by omega) ?_
      walk_at "rd"
      exact ⟨_, _, _, rfl, (((kr.trans ka).trans ks).trans kb).trans kt⟩
    · rintro σ Hr ⟨y3, y8, y9, rfl, kr⟩
      walk_at "rd"
      exact ⟨_, _, _, _, _, _, _, _, rfl, Dq.kp kr (by simp) (by simp), by omega, Nq.kp kr (by simp)⟩
  · rintro σ H3 ⟨n3, x3, x4, x5, x6, x7, x8, x9, rfl, D3, hn3, N3⟩
    walk_at "rd"
    exact k _
/-- what the top holds for the family of program_error -/
structure PeTop (mg : Str → Option Value) (K : PySem.W.Frag) : Prop where
  MAX_NAME : ∃ t, mg "MAX_NAME" = some (.int 8 t)
  MAX_WORD : ∃ t, mg "MAX_WORD" = some (.int 8 t)
  MAX_TIMES : ∃ t, mg "MAX_TIMES" = some (.int 8 t)
  MAX_DEEP : ∃ t, mg "MAX_DEEP" = some (.int 3 t)
  MAX_NOTS : ∃ t, mg "MAX_NOTS" = some (.int 2 t)
  MAX_BY : ∃ t, mg "MAX_BY" = some (.int 6 t)
  MAX_PLACES : ∃ t, mg "MAX_PLACES" = some (.int 24 t)
  MAX_WEIGHT : ∃ t, mg "MAX_WEIGHT" = some (.int 30 t)
  MAX_RESTS : ∃ t, mg "MAX_RESTS" = some (.int 2 t)
  MAX_COMPARINGS : ∃ t, mg "MAX_COMPARINGS" = some (.int 2 t)
  MAX_NEST : ∃ t, mg "MAX_NEST" = some (.int 3 t)
  MOST_NUMBER : ∃ t, mg "MOST_NUMBER" = some (.int 99 t)
  MOST_FACTOR : ∃ t, mg "MOST_FACTOR" = some (.int 9 t)
  LETTERS : ∃ t, mg "LETTERS" = some (.str LETT t)
  SIGNS : ∃ t, mg "SIGNS" = some (.str SGN t)
  UNSURE : ∃ t, mg "UNSURE" = some (.str "unsure" t)
  KEPT : ∃ a, mg "KEPT" = some (.ref a) ∧ ∀ H : Hp, SqT K H a (KEPTS.map V.str)
/-- is_name, is_expression, is_test, is_statement .. -/
structure PeHas (P : Program) (w : World) (K : PySem.W.Frag) (mg : Str → Option Value) (base : Heap) : Prop where
  whole : Has P w K mg base CX0 "is_whole" ["value", "least", "most"] 1 (spWhole K)
  blocks : Has P w K mg base CX0 "blocks_of" ["statement"] 1 (spBlocks K)
  rows : Has P w K mg base CX0 "rows_of" ["program"] 3 (spRows K)
  counted : Has P w K mg base CX0 "counted" ["block", "sort"] 7 (spCnt K 4)
  weight : Has P w K mg base CX0 "weight" ["program"] 8 (spWt K)
  error : Has P w K mg base CX0 "program_error" ["value"] 12 (spPerr K)
theorem pe_has (T : PeTop mg K) (B : Blt mg) (D1 : Df K mg "is_whole" sis_whole Pis_whole) (D2 : Df K mg "is_word" sis_word Pis_word) (D3 : Df K mg "is_name" sis_name Pis_name)
    (D4 : Df K mg "is_expression" sis_expression Pis_expression) (D5 : Df K mg "is_rest" sis_rest Pis_rest) (D6 : Df K mg "is_test" sis_test Pis_test) (D7 : Df K mg "is_plain" sis_plain Pis_plain)
    (D8 : Df K mg "is_statement" sis_statement Pis_statement) (D9 : Df K mg "blocks_of" sblocks_of Pblocks_of) (D10 : Df K mg "items_within" sitems_within Pitems_within) (D11 : Df K mg "rows_of" srows_of Prows_of)
    (D12 : Df K mg "order_error" sorder_error Porder_error) (D13 : Df K mg "bare" sbare Pbare) (D14 : Df K mg "own_count" sown_count Pown_count) (D15 : Df K mg "counted" scounted Pcounted)
    (D16 : Df K mg "weight" sweight Pweight) (D17 : Df K mg "program_error" sprogram_error Pprogram_error) : PeHas P w K mg base := by
  obtain ⟨⟨_, e1⟩, ⟨_, e2⟩, ⟨_, e3⟩, ⟨_, e4⟩, ⟨_, e5⟩, ⟨_, e6⟩, ⟨_, e7⟩, ⟨_, e8⟩, ⟨_, e9⟩, ⟨_, e10⟩, ⟨_, e11⟩, ⟨_, e12⟩, ⟨_, e13⟩, ⟨_, e14⟩, ⟨_, e15⟩, ⟨_, e16⟩, ⟨aK, e17, hK⟩⟩ := T
  have G1 := ok_is_whole (P := P) (w := w) (base := base) D1 B
  have G2 := ok_is_word (P := P) (w := w) (base := base) D2 B e2 e16 e15
  have G3 := ok_is_name (P := P) (w := w) (base := base) D3 B e1 e14 e17 hK e15
  have G4 : ∀ n, Has P w K mg base CX0 "is_expression" Pis_expression (n + 2) (spAskN K isExpr n) := by
    intro n
    induction n with
    | zero => exact ok_is_expression1 (lv := 1) D4 B (by omega) e12 e13 G1 G3 ((D4.void (sp := fun _ _ _ _ => False) fun _ _ _ _ h => h).mono (by omega)) fun m h => by omega
    | succ n ih =>
      exact ok_is_expression1 (lv := n + 2) D4 B (by omega) e12 e13 G1 G3 ih fun m h => by
        obtain rfl : n = m := by omega
        rfl
  have G5 := ok_is_rest (lv := 5) D5 B (by omega) e4 e6 G1 (G4 3)
  have G6 : ∀ n, Has P w K mg base CX0 "is_test" Pis_test (n + 7) (spAskN K isTest n) := by
    intro n
    induction n with
    | zero => exact ok_is_test1 (lv := 6) D6 B (by omega) e4 G5 G3 (G4 3) ((D6.void (sp := fun _ _ _ _ => False) fun _ _ _ _ h => h).mono (by omega)) fun m h => by omega
    | succ n ih =>
      exact ok_is_test1 (lv := n + 7) D6 B (by omega) e4 G5 G3 (G4 3) ih fun m h => by
        obtain rfl : n = m := by omega
        rfl
  have G7 := ok_is_plain D7 B e4 G2 G3 (G4 3)
  have G8 := ok_is_statement D8 B e5 e3 G1 (G6 2) G7
  have G9 := ok_blocks_of (P := P) (w := w) (base := base) D9 B
  have G10 := ok_items_within D10 B G9
  have G11 := ok_rows_of D11 B G10
  have G12 := ok_order_error D12 B e11 G8 G10
  have G14 := ok_own_count D14 B (ok_bare (P := P) (w := w) (base := base) D13 B)
  have G15 : ∀ n, Has P w K mg base CX0 "counted" Pcounted (n + 3) (spCnt K n) := by
    intro n
    induction n with
    | zero => exact ok_counted1 (lv := 2) D15 B (by omega) G9 G14 ((D15.void (sp := fun _ _ _ _ => False) fun _ _ _ _ h => h).mono (by omega)) fun m h => by omega
    | succ n ih =>
      exact ok_counted1 (lv := n + 3) D15 B (by omega) G9 G14 ih fun m h => by
        obtain rfl : n = m := by omega
        rfl
  have G16 := ok_weight D16 B (G15 4)
  exact ⟨G1, G9, G11, G15 4, G16, ok_program_error D17 B e7 e8 e9 e10 G12 G11 (G15 4) G16⟩
theorem k30_error (D1 : Df K mg "_law_whole" s_law_whole P_law_whole) (D2 : Df K mg "_law_letters" s_law_letters P_law_letters) (D3 : Df K mg "_law_is_name" s_law_is_name P_law_is_name)
    (D4 : Df K mg "_law_is_expression" s_law_is_expression P_law_is_expression) (D5 : Df K mg "_law_is_rest" s_law_is_rest P_law_is_rest) (D6 : Df K mg "_law_is_test" s_law_is_test P_law_is_test)
    (D7 : Df K mg "_law_is_statement" s_law_is_statement P_law_is_statement) (D8 : Df K mg "_law_counts" s_law_counts P_law_counts) (D9 : Df K mg "_law_error" s_law_error P_law_error) (B : Blt mg) :
    Has P w K mg base CX0 "_law_counts" ["_law_block"] 5 (spCnt4 K 4) ∧ Has P w K mg base CX0 "_law_error" ["_law_value"] 12 (spPerr K) := by
  have G1 := ok_law_whole (P := P) (w := w) (base := base) D1 B
  have G2 := ok_law_letters (P := P) (w := w) (base := base) D2 B
  have G3 := ok_law_is_name D3 B G2
  have G4 : ∀ n, Has P w K mg base CX0 "_law_is_expression" P_law_is_expression (n + 3) (spAskN K isExpr n) := by
    intro n
    induction n with
    | zero => exact ok_law_is_expression1 (lv := 2) D4 B (by omega) G1 G3 ((D4.void (sp := fun _ _ _ _ => False) fun _ _ _ _ h => h).mono (by omega)) fun m h => by omega
    | succ n ih =>
      exact ok_law_is_expression1 (lv := n + 3) D4 B (by omega) G1 G3 ih fun m h => by
        obtain rfl : n = m := by omega
        rfl
  have G5 := ok_law_is_rest D5 B G1 (G4 3)
  have G6 : ∀ n, Has P w K mg base CX0 "_law_is_test" P_law_is_test (n + 8) (spAskN K isTest n) := by
    intro n
    induction n with
    | zero => exact ok_law_is_test1 (lv := 7) D6 B (by omega) G5 G3 (G4 3) ((D6.void (sp := fun _ _ _ _ => False) fun _ _ _ _ h => h).mono (by omega)) fun m h => by omega
    | succ n ih =>
      exact ok_law_is_test1 (lv := n + 8) D6 B (by omega) G5 G3 (G4 3) ih fun m h => by
        obtain rfl : n = m := by omega
        rfl
  have G7 := ok_law_is_statement D7 B G1 G2 G3 (G4 3) (G6 2)
  have G8 : ∀ n, Has P w K mg base CX0 "_law_counts" P_law_counts (n + 1) (spCnt4 K n) := by
    intro n
    induction n with
    | zero => exact ok_law_counts1 (lv := 0) D8 B ((D8.void (sp := fun _ _ _ _ => False) fun _ _ _ _ h => h).mono (by omega)) fun m h => by omega
    | succ n ih =>
      exact ok_law_counts1 (lv := n + 1) D8 B ih fun m h => by
        obtain rfl : n = m := by omega
        rfl
  exact ⟨G8 4, ok_law_error D9 B G7 (G8 4)⟩
theorem k29_bent (Dbe : Df K mg "_law_bent" s_law_bent P_law_bent) (B : Blt mg) (Gdr : Has P w K mg base CX0 "_law_draw" ["_law_deck_here", "_law_many"] 1 spDraw) (God : Has P w K mg base CX0 "_law_odd" ["_law_deck_here"] 3 (spOdd K)) :
    ∀ n, Has P w K mg base CX0 "_law_bent" P_law_bent (n + 4) (spBent K n) := by
  intro n
  induction n with
  | zero => exact ok_law_bent1 (lv := 3) Dbe B (by omega) Gdr God ((Dbe.void (sp := fun _ _ _ _ => False) fun _ _ _ _ h => h).mono (by omega)) fun m h => by omega
  | succ n ih =>
    exact ok_law_bent1 (lv := n + 4) Dbe B (by omega) Gdr God ih fun m h => by
      obtain rfl : n = m := by omega
      rfl
end
end Aw
open PySem PySem.W PyProof.Rows in
set_option maxRecDepth 100000 in
set_option maxHeartbeats 0 in
theorem PySem.Challenge.cw_anewread_k28_single_statements_holds : PySem.Challenge.rw_anewread_k28_single_statements.Holds := by
  w_on; o_law; k_head; (case hw => w_witness2)
  k_fill
  refine Aw.walkG (k := 16) (l := PySem.Challenge.rw_anewread_k28_single_statements) (x := "_law_script") rfl rfl rfl ⟨⟨rfl, by decide, by decide⟩, rfl⟩ (fun w h Y => PySem.W.kIn_of Y) ?F ?Q
  case Q => rfl
  case F =>
    intro w mg h KX G base _ _ hSys
    have Dis_whole : Aw.Df (L2.KOf KX) mg "is_whole" Aw.sis_whole Aw.Pis_whole := by
      unfold L2.KOf
      refine' Aw.df_mk KX G ?a ?l ?c ?k ?b
      (case a => k_is)
      (case l => k_is)
      (case c => k_is)
      (case k => k_is)
      (case b => exact fun _ _ _ _ _ _ us hl => match us, hl with | [_, _, _], _ => rfl)
    have Dis_word : Aw.Df (L2.KOf KX) mg "is_word" Aw.sis_word Aw.Pis_word := by
      unfold L2.KOf
      refine' Aw.df_mk KX G ?a ?l ?c ?k ?b
      (case a => k_is)
      (case l => k_is)
      (case c => k_is)
      (case k => k_is)
      (case b => exact fun _ _ _ _ _ _ us hl => match us, hl with | [_], _ => rfl)
    have Dis_name : Aw.Df (L2.KOf KX) mg "is_name" Aw.sis_name Aw.Pis_name := by
      unfold L2.KOf
      refine' Aw.df_mk KX G ?a ?l ?c ?k ?b
      (case a => k_is)
      (case l => k_is)
      (case c => k_is)
      (case k => k_is)
      (case b => exact fun _ _ _ _ _ _ us hl => match us, hl with | [_], _ => rfl)
    have Dis_expression : Aw.Df (L2.KOf KX) mg "is_expression" Aw.sis_expression Aw.Pis_expression := by
      unfold L2.KOf
      refine' Aw.df_mk KX G ?a ?l ?c ?k ?b
      (case a => k_is)
      (case l => k_is)
      (case c => k_is)
      (case k => k_is)
      (case b => exact fun _ _ _ _ _ _ us hl => match us, hl with | [_, _], _ => rfl)
    have Dis_rest : Aw.Df (L2.KOf KX) mg "is_rest" Aw.sis_rest Aw.Pis_rest := by
      unfold L2.KOf
      refine' Aw.df_mk KX G ?a ?l ?c ?k ?b
      (case a => k_is)
      (case l => k_is)
      (case c => k_is)
      (case k => k_is)
      (case b => exact fun _ _ _ _ _ _ us hl => match us, hl with | [_], _ => rfl)
    have Dis_test : Aw.Df (L2.KOf KX) mg "is_test" Aw.sis_test Aw.Pis_test := by
      unfold L2.KOf
      refine' Aw.df_mk KX G ?a ?l ?c ?k ?b
      (case a => k_is)
      (case l => k_is)
      (case c => k_is)
      (case k => k_is)
      (case b => exact fun _ _ _ _ _ _ us hl => match us, hl with | [_, _], _ => rfl)
    have Dis_plain : Aw.Df (L2.KOf KX) mg "is_plain" Aw.sis_plain Aw.Pis_plain := by
      unfold L2.KOf
      refine' Aw.df_mk KX G ?a ?l ?c ?k ?b
      (case a => k_is)
      (case l => k_is)
      (case c => k_is)
      (case k => k_is)
      (case b => exact fun _ _ _ _ _ _ us hl => match us, hl with | [_], _ => rfl)
    have Dis_statement : Aw.Df (L2.KOf KX) mg "is_statement" Aw.sis_statement Aw.Pis_statement := by
      unfold L2.KOf
      refine' Aw.df_mk KX G ?a ?l ?c ?k ?b
      (case a => k_is)
      (case l => k_is)
      (case c => k_is)
      (case k => k_is)
      (case b => exact fun _ _ _ _ _ _ us hl => match us, hl with | [_], _ => rfl)
    have Dblocks_of : Aw.Df (L2.KOf KX) mg "blocks_of" Aw.sblocks_of Aw.Pblocks_of := by
      unfold L2.KOf
      refine' Aw.df_mk KX G ?a ?l ?c ?k ?b
      (case a => k_is)
      (case l => k_is)
      (case c => k_is)
      (case k => k_is)
      (case b => exact fun _ _ _ _ _ _ us hl => match us, hl with | [_], _ => rfl)
    have Ditems_within : Aw.Df (L2.KOf KX) mg "items_within" Aw.sitems_within Aw.Pitems_within := by
      unfold L2.KOf
      refine' Aw.df_mk KX G ?a ?l ?c ?k ?b
      (case a => k_is)
      (case l => k_is)
      (case c => k_is)
      (case k => k_is)
      (case b => exact fun _ _ _ _ _ _ us hl => match us, hl with | [_, _], _ => rfl)
    have Drows_of : Aw.Df (L2.KOf KX) mg "rows_of" Aw.srows_of Aw.Prows_of := by
      unfold L2.KOf
      refine' Aw.df_mk KX G ?a ?l ?c ?k ?b
      (case a => k_is)
      (case l => k_is)
      (case c => k_is)
      (case k => k_is)
      (case b => exact fun _ _ _ _ _ _ us hl => match us, hl with | [_], _ => rfl)
    have Dorder_error : Aw.Df (L2.KOf KX) mg "order_error" Aw.sorder_error Aw.Porder_error := by
      unfold L2.KOf
      refine' Aw.df_mk KX G ?a ?l ?c ?k ?b
      (case a => k_is)
      (case l => k_is)
      (case c => k_is)
      (case k => k_is)
      (case b => exact fun _ _ _ _ _ _ us hl => match us, hl with | [_], _ => rfl)
    have Dbare : Aw.Df (L2.KOf KX) mg "bare" Aw.sbare Aw.Pbare := by
      unfold L2.KOf
      refine' Aw.df_mk KX G ?a ?l ?c ?k ?b
      (case a => k_is)
      (case l => k_is)
      (case c => k_is)
      (case k => k_is)
      (case b => exact fun _ _ _ _ _ _ us hl => match us, hl with | [_], _ => rfl)
    have Down_count : Aw.Df (L2.KOf KX) mg "own_count" Aw.sown_count Aw.Pown_count := by
      unfold L2.KOf
      refine' Aw.df_mk KX G ?a ?l ?c ?k ?b
      (case a => k_is)
      (case l => k_is)
      (case c => k_is)
      (case k => k_is)
      (case b => exact fun _ _ _ _ _ _ us hl => match us, hl with | [_, _], _ => rfl)
    have Dcounted : Aw.Df (L2.KOf KX) mg "counted" Aw.scounted Aw.Pcounted := by
      unfold L2.KOf
      refine' Aw.df_mk KX G ?a ?l ?c ?k ?b
      (case a => k_is)
      (case l => k_is)
      (case c => k_is)
      (case k => k_is)
      (case b => exact fun _ _ _ _ _ _ us hl => match us, hl with | [_, _], _ => rfl)
    have Dweight : Aw.Df (L2.KOf KX) mg "weight" Aw.sweight Aw.Pweight := by
      unfold L2.KOf
      refine' Aw.df_mk KX G ?a ?l ?c ?k ?b
      (case a => k_is)
      (case l => k_is)
      (case c => k_is)
      (case k => k_is)
      (case b => exact fun _ _ _ _ _ _ us hl => match us, hl with | [_], _ => rfl)
    have Dprogram_error : Aw.Df (L2.KOf KX) mg "program_error" Aw.sprogram_error Aw.Pprogram_error := by
      unfold L2.KOf
      refine' Aw.df_mk KX G ?a ?l ?c ?k ?b
      (case a => k_is)
      (case l => k_is)
      (case c => k_is)
      (case k => k_is)
      (case b => exact fun _ _ _ _ _ _ us hl => match us, hl with | [_], _ => rfl)
    have D_law_whole : Aw.Df (L2.KOf KX) mg "_law_whole" Aw.s_law_whole Aw.P_law_whole := by
      unfold L2.KOf
      refine' Aw.df_mk KX G ?a ?l ?c ?k ?b
      (case a => k_is)
      (case l => k_is)
      (case c => k_is)
      (case k => k_is)
      (case b => exact fun _ _ _ _ _ _ us hl => match us, hl with | [_, _, _], _ => rfl)
    have D_law_letters : Aw.Df (L2.KOf KX) mg "_law_letters" Aw.s_law_letters Aw.P_law_letters := by
      unfold L2.KOf
      refine' Aw.df_mk KX G ?a ?l ?c ?k ?b
      (case a => k_is)
      (case l => k_is)
      (case c => k_is)
      (case k => k_is)
      (case b => exact fun _ _ _ _ _ _ us hl => match us, hl with | [_, _], _ => rfl)
    have D_law_is_name : Aw.Df (L2.KOf KX) mg "_law_is_name" Aw.s_law_is_name Aw.P_law_is_name := by
      unfold L2.KOf
      refine' Aw.df_mk KX G ?a ?l ?c ?k ?b
      (case a => k_is)
      (case l => k_is)
      (case c => k_is)
      (case k => k_is)
      (case b => exact fun _ _ _ _ _ _ us hl => match us, hl with | [_], _ => rfl)
    have D_law_is_expression : Aw.Df (L2.KOf KX) mg "_law_is_expression" Aw.s_law_is_expression Aw.P_law_is_expression := by
      unfold L2.KOf
      refine' Aw.df_mk KX G ?a ?l ?c ?k ?b
      (case a => k_is)
      (case l => k_is)
      (case c => k_is)
      (case k => k_is)
      (case b => exact fun _ _ _ _ _ _ us hl => match us, hl with | [_, _], _ => rfl)
    have D_law_is_rest : Aw.Df (L2.KOf KX) mg "_law_is_rest" Aw.s_law_is_rest Aw.P_law_is_rest := by
      unfold L2.KOf
      refine' Aw.df_mk KX G ?a ?l ?c ?k ?b
      (case a => k_is)
      (case l => k_is)
      (case c => k_is)
      (case k => k_is)
      (case b => exact fun _ _ _ _ _ _ us hl => match us, hl with | [_], _ => rfl)
    have D_law_is_test : Aw.Df (L2.KOf KX) mg "_law_is_test" Aw.s_law_is_test Aw.P_law_is_test := by
      unfold L2.KOf
      refine' Aw.df_mk KX G ?a ?l ?c ?k ?b
      (case a => k_is)
      (case l => k_is)
      (case c => k_is)
      (case k => k_is)
      (case b => exact fun _ _ _ _ _ _ us hl => match us, hl with | [_, _], _ => rfl)
    have D_law_is_statement : Aw.Df (L2.KOf KX) mg "_law_is_statement" Aw.s_law_is_statement Aw.P_law_is_statement := by
      unfold L2.KOf
      refine' Aw.df_mk KX G ?a ?l ?c ?k ?b
      (case a => k_is)
      (case l => k_is)
      (case c => k_is)
      (case k => k_is)
      (case b => exact fun _ _ _ _ _ _ us hl => match us, hl with | [_], _ => rfl)
    have D_law_counts : Aw.Df (L2.KOf KX) mg "_law_counts" Aw.s_law_counts Aw.P_law_counts := by
      unfold L2.KOf
      refine' Aw.df_mk KX G ?a ?l ?c ?k ?b
      (case a => k_is)
      (case l => k_is)
      (case c => k_is)
      (case k => k_is)
      (case b => exact fun _ _ _ _ _ _ us hl => match us, hl with | [_], _ => rfl)
    have D_law_error : Aw.Df (L2.KOf KX) mg "_law_error" Aw.s_law_error Aw.P_law_error := by
      unfold L2.KOf
      refine' Aw.df_mk KX G ?a ?l ?c ?k ?b
      (case a => k_is)
      (case l => k_is)
      (case c => k_is)
      (case k => k_is)
      (case b => exact fun _ _ _ _ _ _ us hl => match us, hl with | [_], _ => rfl)
    have D_law_deck : Aw.Df (L2.KOf KX) mg "_law_deck" Aw.s_law_deck Aw.P_law_deck := by
      unfold L2.KOf
      refine' Aw.df_mk KX G ?a ?l ?c ?k ?b
      (case a => k_is)
      (case l => k_is)
      (case c => k_is)
      (case k => k_is)
      (case b => exact fun _ _ _ _ _ _ us hl => match us, hl with | [_], _ => rfl)
    have D_law_draw : Aw.Df (L2.KOf KX) mg "_law_draw" Aw.s_law_draw Aw.P_law_draw := by
      unfold L2.KOf
      refine' Aw.df_mk KX G ?a ?l ?c ?k ?b
      (case a => k_is)
      (case l => k_is)
      (case c => k_is)
      (case k => k_is)
      (case b => exact fun _ _ _ _ _ _ us hl => match us, hl with | [_, _], _ => rfl)
    have D_law_one : Aw.Df (L2.KOf KX) mg "_law_one" Aw.s_law_one Aw.P_law_one := by
      unfold L2.KOf
      refine' Aw.df_mk KX G ?a ?l ?c ?k ?b
      (case a => k_is)
      (case l => k_is)
      (case c => k_is)
      (case k => k_is)
      (case b => exact fun _ _ _ _ _ _ us hl => match us, hl with | [_, _], _ => rfl)
    have D_law_names : Aw.Df (L2.KOf KX) mg "_law_names" Aw.s_law_names Aw.P_law_names := by
      unfold L2.KOf
      refine' Aw.df_mk KX G ?a ?l ?c ?k ?b
      (case a => k_is)
      (case l => k_is)
      (case c => k_is)
      (case k => k_is)
      (case b => exact fun _ _ _ _ _ _ us hl => match us, hl with | [_], _ => rfl)
    have D_law_odd : Aw.Df (L2.KOf KX) mg "_law_odd" Aw.s_law_odd Aw.P_law_odd := by
      unfold L2.KOf
      refine' Aw.df_mk KX G ?a ?l ?c ?k ?b
      (case a => k_is)
      (case l => k_is)
      (case c => k_is)
      (case k => k_is)
      (case b => exact fun _ _ _ _ _ _ us hl => match us, hl with | [_], _ => rfl)
    have D_law_bent : Aw.Df (L2.KOf KX) mg "_law_bent" Aw.s_law_bent Aw.P_law_bent := by
      unfold L2.KOf
      refine' Aw.df_mk KX G ?a ?l ?c ?k ?b
      (case a => k_is)
      (case l => k_is)
      (case c => k_is)
      (case k => k_is)
      (case b => exact fun _ _ _ _ _ _ us hl => match us, hl with | [_, _, _], _ => rfl)
    have D_law_deep : Aw.Df (L2.KOf KX) mg "_law_deep" Aw.s_law_deep Aw.P_law_deep := by
      unfold L2.KOf
      refine' Aw.df_mk KX G ?a ?l ?c ?k ?b
      (case a => k_is)
      (case l => k_is)
      (case c => k_is)
      (case k => k_is)
      (case b => exact fun _ _ _ _ _ _ us hl => match us, hl with | [_, _, _], _ => rfl)
    have D_law_kept : Aw.Df (L2.KOf KX) mg "_law_kept" Aw.s_law_kept Aw.P_law_kept := by
      unfold L2.KOf
      refine' Aw.df_mk KX G ?a ?l ?c ?k ?b
      (case a => k_is)
      (case l => k_is)
      (case c => k_is)
      (case k => k_is)
      (case b => exact fun _ _ _ _ _ _ us hl => match us, hl with | [], _ => rfl)
    have D_law_statement : Aw.Df (L2.KOf KX) mg "_law_statement" Aw.s_law_statement Aw.P_law_statement := by
      unfold L2.KOf
      refine' Aw.df_mk KX G ?a ?l ?c ?k ?b
      (case a => k_is)
      (case l => k_is)
      (case c => k_is)
      (case k => k_is)
      (case b => exact fun _ _ _ _ _ _ us hl => match us, hl with | [_, _], _ => rfl)
    have Dlaw : Aw.Df (L2.KOf KX) mg "law" Aw.slaw Aw.Plaw := by
      unfold L2.KOf
      refine' Aw.df_mk KX G ?a ?l ?c ?k ?b
      (case a => k_is)
      (case l => k_is)
      (case c => k_is)
      (case k => k_is)
      (case b => exact fun _ _ _ _ _ _ us hl => match us, hl with | [_], _ => rfl)
    have B : Aw.Blt mg := by
      refine' ⟨PySem.W.mg_none_of KX G ?z0, PySem.W.mg_none_of KX G ?z1, PySem.W.mg_none_of KX G ?z2, PySem.W.mg_none_of KX G ?z3, PySem.W.mg_none_of KX G ?z4, PySem.W.mg_none_of KX G ?z5, PySem.W.mg_none_of KX G ?z6, PySem.W.mg_none_of KX G ?z7, PySem.W.mg_none_of KX G ?z8, PySem.W.mg_none_of KX G ?z9, PySem.W.mg_none_of KX G ?z10, PySem.W.mg_none_of KX G ?z11, PySem.W.mg_none_of KX G ?z12, PySem.W.mg_none_of KX G ?z13, PySem.W.mg_none_of KX G ?z14, PySem.W.mg_none_of KX G ?z15, PySem.W.mg_none_of KX G ?z16, PySem.W.mg_none_of KX G ?z17, PySem.W.mg_none_of KX G ?z18⟩
      all_goals k_is
    have T : Aw.PeTop mg (L2.KOf KX) := by
      refine ⟨?t0, ?t1, ?t2, ?t3, ?t4, ?t5, ?t6, ?t7, ?t8, ?t9, ?t10, ?t11, ?t12, ?t13, ?t14, ?t15, ?t16⟩
      case t0 => (refine' Aw.gint_mk KX G ?z; (case z => k_is))
      case t1 => (refine' Aw.gint_mk KX G ?z; (case z => k_is))
      case t2 => (refine' Aw.gint_mk KX G ?z; (case z => k_is))
      case t3 => (refine' Aw.gint_mk KX G ?z; (case z => k_is))
      case t4 => (refine' Aw.gint_mk KX G ?z; (case z => k_is))
      case t5 => (refine' Aw.gint_mk KX G ?z; (case z => k_is))
      case t6 => (refine' Aw.gint_mk KX G ?z; (case z => k_is))
      case t7 => (refine' Aw.gint_mk KX G ?z; (case z => k_is))
      case t8 => (refine' Aw.gint_mk KX G ?z; (case z => k_is))
      case t9 => (refine' Aw.gint_mk KX G ?z; (case z => k_is))
      case t10 => (refine' Aw.gint_mk KX G ?z; (case z => k_is))
      case t11 => (refine' Aw.gint_mk KX G ?z; (case z => k_is))
      case t12 => (refine' Aw.gint_mk KX G ?z; (case z => k_is))
      case t13 => (refine' Aw.gstr_mk KX G ?z; (case z => k_is))
      case t14 => (refine' Aw.gstr_mk KX G ?z; (case z => k_is))
      case t15 => (refine' Aw.gstr_mk KX G ?z; (case z => k_is))
      case t16 =>
        unfold L2.KOf
        refine' Aw.kept_mk KX G ?s1 ?s2 ?s3 ?s4
        (case s1 => k_is)
        (case s2 => k_is)
        (case s3 => decide)
        (case s4 => exact .cons ⟨_, rfl⟩ (.cons ⟨_, rfl⟩ (.cons ⟨_, rfl⟩ (.cons ⟨_, rfl⟩ (.cons ⟨_, rfl⟩ (.cons ⟨_, rfl⟩ (.cons ⟨_, rfl⟩ (.cons ⟨_, rfl⟩ (.cons ⟨_, rfl⟩ (.cons ⟨_, rfl⟩ (.cons ⟨_, rfl⟩ (.cons ⟨_, rfl⟩ (.cons ⟨_, rfl⟩ (.nil))))))))))))))
    have GP := Aw.pe_has (P := PySem.Challenge.pw_anewread_k28_single_statements) (w := w) (base := base) T B Dis_whole Dis_word Dis_name Dis_expression Dis_rest Dis_test Dis_plain Dis_statement Dblocks_of Ditems_within Drows_of Dorder_error Dbare Down_count Dcounted Dweight Dprogram_error
    have GL := Aw.k30_error (P := PySem.Challenge.pw_anewread_k28_single_statements) (w := w) (base := base) D_law_whole D_law_letters D_law_is_name D_law_is_expression D_law_is_rest D_law_is_test D_law_is_statement D_law_counts D_law_error B
    have G1 := Aw.ok_law_deck (P := PySem.Challenge.pw_anewread_k28_single_statements) (w := w) (base := base) D_law_deck B
    have G2 := Aw.ok_law_draw (P := PySem.Challenge.pw_anewread_k28_single_statements) (w := w) (base := base) D_law_draw B
    have G3 := Aw.ok_law_one D_law_one B G2
    have G4 := Aw.ok_law_names D_law_names B G2 G3
    have G6 := Aw.ok_law_odd D_law_odd B G3
    have G7 := Aw.k29_bent D_law_bent B G2 G6 6
    have G8 := Aw.ok_law_deep D_law_deep B G3
    have G9 := Aw.ok_law_statement D_law_statement B G2 G3 G8
    have G10 := Aw.ok_law_kept (P := PySem.Challenge.pw_anewread_k28_single_statements) (w := w) (base := base) D_law_kept B
    exact Aw.ok_law Dlaw B hSys G1 G3 G4 G9 G6 G7 G10 GP.error GL.2
