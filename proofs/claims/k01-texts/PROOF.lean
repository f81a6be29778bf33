import PyProof.Rows.All
import Wide.All
import OpenK.AllK
import Wide.FinOn
import HandS.ForMost
import HandS.IsInst
import HandS.TupAny
import HandS.RaiseMore
import HandS.Conv
import HandS.WideBits
import HandS.More
import HandS.Style
import HandS.ReplaceLit
import HandS.ReplaceList
import PySem.Challenge.RW_anewread_k01_texts_of_programs
set_option Elab.async false
set_option linter.all false
set_option maxRecDepth 100000
set_option maxHeartbeats 4000000
set_option autoImplicit false
/-! calls with the guards known (so that repr of data may be asked), a def as it is had, repr -/
namespace Aw
open PySem PySem.Spec PyProof.Rows L2

structure RoomG (k : Nat) (A : Around) : Prop where
  r : Room k A
  g : A.guards = some []
theorem RoomG.mono {j k : Nat} {A : Around} (h : RoomG k A) (q : j ≤ k) : RoomG j A := ⟨h.r.mono q, h.g⟩
theorem RoomG.hu {k : Nat} {A : Around} (h : RoomG k A) : A.units + 1 < cLine := hu_of h.r
theorem RoomG.h64 {k : Nat} {A : Around} (h : RoomG k A) : A.units + 64 < cLine := h.r.units

/-- a def keeps its promise wherever nothing is being shown -/
structure FnG (P : Program) (w : World) (K : PySem.W.Frag) (mg : Str → Option Value) (base : Heap) (CX : CXT)
    (k : Nat) (f : Addr) (fd : FuncData) (ps : List Str) (sp : Sp) : Prop where
  len : ∀ vs H Q E, sp vs H Q E → vs.length = ps.length
  run : ∀ (A : Around) (outer : List Env) (s : Shared) (H : Hp) (args : Args) (us : List Value) (vs : List V)
    (Q : VK) (E : XK), RoomG k A → Env0 P w K mg base A outer s H → BindsTo s fd args (ps.zip us) → Vals vs us →
    sp vs H Q E → codeAny (model P w) A (.call (.ref f) args) (CR CX outer P w H s Q E) s

section
variable {P : Program} {w : World} {K : PySem.W.Frag} {mg : Str → Option Value} {base : Heap} {CX : CXT}

theorem FnG.mono {j k : Nat} {f : Addr} {fd : FuncData} {ps : List Str} {sp : Sp}
    (F : FnG P w K mg base CX j f fd ps sp) (h : j ≤ k) : FnG P w K mg base CX k f fd ps sp :=
  ⟨F.len, fun A o s H a us vs Q E hr => F.run A o s H a us vs Q E (hr.mono h)⟩

theorem fnG_of {k : Nat} {f : Addr} {nm qual : Str} {params : Arguments} {body : List Stmt} {scope : Scope}
    {dV kV doc pm cdv ct oc : Value} {an od : Option Addr} {osl : Array (Option Value)} {N ps : List Str} {sp : Sp}
    (lk : K.lookup f = some ⟨oc, od, .func (PySem.W.fnOf nm qual params body scope dV kV doc pm an cdv ct), osl⟩)
    (hcd : PySem.W.codeIn K cdv qual = true) (S : FnScope N ps scope)
    (len : ∀ vs H Q E, sp vs H Q E → vs.length = ps.length)
    (hb : ∀ (A : Around) (outer : List Env) (s : Shared) (H : Hp) (vs : List V) (Q : VK) (E : XK),
      RoomG k (A.deeper (envOfC qual scope s.heap.objs.size f cdv)) → sp vs H Q E →
      ∃ t, PSs (cxOf CX P w K mg base N qual scope f cdv A outer s H E) body t ∧
        t { nx := fun _ H' => Q .non H', rt := Q } (start N vs) H) :
    FnG P w K mg base CX (k + 1) f (PySem.W.fnOf nm qual params body scope dV kV doc pm an cdv ct) ps sp := by
  refine ⟨len, fun A outer s H args us vs Q E hr e0 hbd r hsp => ?_⟩
  have hl := len _ _ _ _ hsp
  have KX : K.In s.heap := e0.mod.kin.keeps fun b o e => (e0.bs b o e).1
  have lim : s.heap.NoLimit := e0.mod.nolimit.keeps fun b o e => (e0.bs b o e).1
  refine codeAny_call_function hr.r.depth (KX _ _ lk) rfl S.co S.gen rfl (PySem.W.codeRec_of KX hcd)
    (hbd _ _ _ _ ?_)
  refine wpAny_newFunctionEnv_cells S.kind (fun ⟨n, v⟩ hy => ?_) fun env he s1 x => ?_
  · rcases S.par n (List.of_mem_zip hy).1 with q | q
    · exact .inl q
    · exact .inr ⟨q, PySem.W.cellsFrom_some _ _ _ (.inl q)⟩
  subst he
  refine ⟨lim.keeps x.toInCall.keep, codeAny_func ?_⟩
  obtain ⟨t, ht, hq⟩ := hb A outer s H vs Q E ⟨hr.r.deeper _, hr.g⟩ hsp
  have I := inv_start (CX := CX) (E := E) (f := f) (cd := cdv) S hr.r.hd e0 hl r x
  refine wpAny_mono (ht.run [] s1 (start N vs) H _ I hq) (fun fl s' hs => ?_) fun e s' hs => hs
  cases fl with
  | ret u =>
    obtain ⟨v, σ', H', J, rv, q⟩ := hs
    exact ⟨v, H', J.os, J.bare, J.base, J.hok, rv, q⟩
  | next =>
    obtain ⟨σ', H', J, q⟩ := hs
    exact ⟨V.non, H', J.os, J.bare, J.base, J.hok, rfl, q⟩
  | brk => exact hs.elim fun _ h => h.elim fun _ h => h.2.elim
  | cont => exact hs.elim fun _ h => h.elim fun _ h => h.2.elim

/-- a def of the top, by its name -/
def Df (K : PySem.W.Frag) (mg : Str → Option Value) (x : Str) (st : Stmt) (ps : List Str) : Prop :=
  ∃ (f : Addr) (fd : FuncData), Fun K x x st f fd ∧ mg x = some (.ref f) ∧ Binds K fd ps []
/-- the def of this name keeps a promise -/
def Has (P : Program) (w : World) (K : PySem.W.Frag) (mg : Str → Option Value) (base : Heap) (CX : CXT) (x : Str)
    (ps : List Str) (k : Nat) (sp : Sp) : Prop :=
  ∃ (f : Addr) (fd : FuncData), (PySem.W.keepIn K (.ref f) = true ∧ ∃ oc od osl, K.lookup f = some ⟨oc, od, .func fd, osl⟩) ∧
    mg x = some (.ref f) ∧ Binds K fd ps [] ∧ FnG P w K mg base CX k f fd ps sp
theorem Has.any {ι : Type} {x : Str} {ps : List Str} {k : Nat} {sp : ι → Sp} (i₀ : ι) (h : ∀ i, Has P w K mg base CX x ps k (sp i)) :
    Has P w K mg base CX x ps k (fun vs H Q E => ∃ i, sp i vs H Q E) := by
  obtain ⟨f, fd, ⟨a, oc, od, osl, l⟩, b, c, _⟩ := h i₀
  have same : ∀ i, FnG P w K mg base CX k f fd ps (sp i) := by
    intro i
    obtain ⟨f', fd', ⟨_, oc', od', osl', l'⟩, b', _, d'⟩ := h i
    cases b.symm.trans b'
    cases l.symm.trans l'
    exact d'
  exact ⟨f, fd, ⟨a, oc, od, osl, l⟩, b, c, fun vs H Q E ⟨i, z⟩ => (same i).len _ _ _ _ z, fun A o s H ar us vs Q E hr he hb hv ⟨i, hs⟩ =>
    (same i).run A o s H ar us vs Q E hr he hb hv hs⟩
theorem Has.mono {x : Str} {ps : List Str} {j k : Nat} {sp : Sp} (h : Has P w K mg base CX x ps j sp) (q : j ≤ k) :
    Has P w K mg base CX x ps k sp := by
  obtain ⟨f, fd, a, b, c, d⟩ := h
  exact ⟨f, fd, a, b, c, d.mono q⟩
theorem Has.imp {x : Str} {ps : List Str} {k : Nat} {sp sp' : Sp} (h : Has P w K mg base CX x ps k sp)
    (q : ∀ vs H Q E, sp' vs H Q E → sp vs H Q E) : Has P w K mg base CX x ps k sp' := by
  obtain ⟨f, fd, a, b, c, d⟩ := h
  exact ⟨f, fd, a, b, c, fun vs H Q E z => d.len _ _ _ _ (q _ _ _ _ z), fun A o s H ar us vs Q E hr he hb hv hs =>
    d.run A o s H ar us vs Q E hr he hb hv (q _ _ _ _ hs)⟩
theorem Df.void {x : Str} {st : Stmt} {ps : List Str} {sp : Sp} (d : Df K mg x st ps) (h : ∀ vs H Q E, ¬ sp vs H Q E) :
    Has P w K mg base CX x ps 0 sp := by
  obtain ⟨f, fd, F, m, b⟩ := d
  have lk : ∃ oc od osl, K.lookup f = some ⟨oc, od, .func fd, osl⟩ := by
    obtain ⟨oc, od, kV, doc, pm, an, cdv, ct, osl, rfl, lk, hcd⟩ := F.ex
    exact ⟨oc, od, osl, lk⟩
  exact ⟨f, fd, ⟨F.kp, lk⟩, m, b, fun vs H Q E z => absurd z (h _ _ _ _), fun A o s H ar us vs Q E hr he hb hv hs =>
    absurd hs (h _ _ _ _)⟩
theorem Df.has {x : Str} {st : Stmt} {ps N : List Str} {k : Nat} {sp : Sp} (d : Df K mg x st ps)
    (S : FnScope N ps (defScope st)) (len : ∀ vs H Q E, sp vs H Q E → vs.length = ps.length)
    (hb : ∀ (f : Addr) (cdv : Value) (A : Around) (outer : List Env) (s : Shared) (H : Hp) (vs : List V) (Q : VK) (E : XK),
      RoomG k (A.deeper (envOfC x (defScope st) s.heap.objs.size f cdv)) → sp vs H Q E →
      ∃ t, PSs (cxOf CX0 P w K mg base N x (defScope st) f cdv A outer s H E).nox (defBody st) t ∧
        t { nx := fun _ H' => Q .non H', rt := Q } (start N vs) H) : Has P w K mg base CX0 x ps (k + 1) sp := by
  obtain ⟨f, fd, F, m, b⟩ := d
  obtain ⟨oc, od, kV, doc, pm, an, cdv, ct, osl, rfl, lk, hcd⟩ := F.ex
  refine ⟨f, _, ⟨F.kp, oc, od, osl, lk⟩, m, b, fnG_of lk hcd S len fun A outer s H vs Q E hr hsp => ?_⟩
  obtain ⟨t, h, q⟩ := hb f cdv A outer s H vs Q E hr hsp
  exact ⟨t, h.nox, q⟩
end

section
variable {X : Cx} {CX : CXT} {k : Nat} {ps : List Str} {sp : Sp} {E : XK} {x : Str} {p pos : Pos} {e : Expr}
  {es : List Expr} {t : TA}
theorem runG {f : Addr} {fd : FuncData} {pins : List (Addr × Obj)} {σ : L2.St} {H : Hp} {s : Shared} {Q : VK}
    {us : List Value} {vs : List V} (F : FnG X.prog X.w X.K X.mg X.base CX k f fd ps sp) (hr : RoomG k X.A)
    (hb : Binds X.K fd ps []) (hx : Passes CX X E) (I : Inv X pins σ H s) (r : Vals vs us) (h : sp vs H Q E) :
    wpAny (model X.prog X.w) X.A (call (.ref f) us) (EP X pins σ Q) X.xe s := by
  have hl : (us ++ []).length = ps.length := by
    rw [List.append_nil, ← r.length]
    exact F.len _ _ _ _ h
  have bb := hb s us I.kIn hl
  rw [List.append_nil] at bb
  refine wpAny_call (codeAny_mono (F.run X.A X.stack s H ⟨us, []⟩ us vs Q E hr I.env0 bb r h) fun r s' hq => ?_)
  match r, hq with
  | .error e, hq => exact hx pins σ H s e s' I hq
  | .ok (.ret u), hq => exact I.after hq
/-- f(e, ..) of a def by its name -/
theorem pe_f (F : Has X.prog X.w X.K X.mg X.base CX x ps k sp) (hr : RoomG k X.A) (hg : Gl X x) (hx : Passes CX X E)
    (ha : PA X (e :: es) t) (hdb : (x == ("__debug__" : Str)) = false := by decide)
    (he : starEach (e :: es) X.env = (false, eval e X.env) :: starEach es X.env := by rfl)
    (hpl : (backTo pos (starEach es X.env)).any (·.1) = false := by rfl) :
    PE X (.Call (.Name x p) (e :: es) [] pos) (tCall sp [] E t) := by
  obtain ⟨f, fd, ⟨hk, _⟩, hm, hb, F⟩ := F
  refine ⟨fun pins s σ H Q I h => wpAny_Call_Name_kw (ld_glob I hg hm ?_ hdb)⟩
  refine PySem.W.callWith_K (h₀ := X.base) I.ok.mod.kin hk (thn (ha.run pos pins s σ H _ I h) fun us s1 q => ?_) he hpl
  obtain ⟨vs, H1, I1, r, q⟩ := q
  rw [List.append_nil] at q
  exact ⟨I1.kIn, runG F hr hb hx I1 r q⟩
theorem pe_f0 (F : Has X.prog X.w X.K X.mg X.base CX x ps k sp) (hr : RoomG k X.A) (hg : Gl X x) (hx : Passes CX X E)
    (hdb : (x == ("__debug__" : Str)) = false := by decide) :
    PE X (.Call (.Name x p) [] [] pos) (tCall sp [] E tNil) := by
  obtain ⟨f, fd, ⟨hk, _⟩, hm, hb, F⟩ := F
  refine ⟨fun pins s σ H Q I h => wpAny_Call_Name_kw (ld_glob I hg hm ?_ hdb)⟩
  exact PySem.W.callWith_K0 I.kIn hk (runG (us := []) F hr hb hx I .nil h)

/-- repr of data -/
theorem call_reprD {k : Nat} (hr : RoomG k X.A) : CallR X (.builtin "repr") (fun xs H Q => ∃ a d, xs = [.ref a] ∧
    Dp X.K H (.ref a) d ∧ d.showable = true ∧ d.hasDict = false ∧ d.depth ≤ 100 ∧ d.shown.length ≤ sizeLine ∧
    Q (.str d.shown) H) := by
  intro pins s σ H xs us Q I r h
  obtain ⟨a, d, rfl, hd, h1, h2, h3, h4, q⟩ := h
  obtain ⟨u, rfl, r1⟩ := vals1 r
  cases (show u = Value.ref a from r1)
  obtain ⟨as, rd⟩ := Dp.reads I d _ _ hd r1
  have hu := hr.r.un
  refine repr_of_reads' rd h1 (PyData.noDict_hsm h2) hr.g (by omega) (fun _ _ e => e) (fun h' u tk hk => ?_) h4
  exact ⟨.str d.shown, H, I.kept hk, ⟨_, rfl⟩, q⟩
end
end Aw

/-! the end of a law by its def's promise -/
namespace Aw
open PySem PySem.Spec PyProof.Rows L2

def spLaw (K : PySem.W.Frag) : Sp := fun vs H Q _ => ∃ (a : Addr) (ns : List Int),
  vs = [.ref a] ∧ SqL K H a (ns.map V.int) ∧ ns.length ≤ 63 ∧ ∀ H', Q (.bl true) H'

theorem lawG_core {P : Program} {w : World} {K : PySem.W.Frag} {mg mb : Str → Option Value} {k : Nat} {fa a : Addr}
    {x : Str} {s : Shared} {vs : List Value} {ns : List Int} (KX : K.In s.heap) (hns : s.heap.Ns mainGlobals mg)
    (hb : s.heap.Ns builtinsNs mb) (hbb : ∀ x : Str, x ≠ "__name__" → mb x = bootBuiltins x)
    (hlim : s.heap.NoLimit) (hg : s.gens = #[])
    (ha : s.heap.get? a = some { cls := .type "list", data := .seq vs.toArray }) (hl : ns.length ≤ 63)
    (hr : RoomG k callerA) (hfa : mg "law" = some (.ref fa))
    (F : ∀ base : Heap, K.In base → base.Ns mainGlobals mg → Has P w K mg base CX0 "law" [x] k (spLaw K))
    (H : Hp) (hO : Only H) (hS : SqL K H a (ns.map V.int)) (hok : HOk P w H s.heap) (hA : ∀ b, H b ≠ none → b = a)
    (hK : H a ≠ none → K.lookup a = none) :
    codeAny (model P w) callerA (.call (.ref fa) ⟨[.ref a], []⟩)
      (fun r s' => r = .ok (.ret (.bool true)) ∧ OldK s.heap s'.heap ∧ s'.os = s.os ∧ AllBare s'.gens) s := by
  have isA : ∀ {b : Addr} {u : HO}, H b = some u → b = a := fun {b u} q => hA b (by rw [q]; simp)
  have keepD : ∀ {b : Addr} {m : Str → Option Value}, s.heap.Ns b m → (hidT s.heap H).Ns b m := by
    rintro b m ⟨o, es, ep, e, d, r⟩
    refine ⟨o, es, ep, hidT_get e ?_, d, r⟩
    cases q : H b with
    | none => rfl
    | some u =>
      cases isA q
      rw [ha] at e
      cases e
      exact nomatch (show Data.seq vs.toArray _ = Data.dict es ep from d)
  have hKb : K.In (hidT s.heap H) := by
    intro b o e
    refine hidT_get (KX b o e) ?_
    cases q : H b with
    | none => rfl
    | some u =>
      cases isA q
      rw [hK (by rw [q]; simp)] at e
      cases e
  have hM : Mod K mg (hidT s.heap H) := by
    obtain ⟨mc, h1, h2⟩ := hlim
    exact ⟨hKb, keepD hns, ⟨mb, keepD hb, hbb⟩, ⟨mc, keepD h1, h2⟩⟩
  have e0 : Env0 P w K mg (hidT s.heap H) callerA [] s H := by
    refine ⟨rfl, hM, fun b o e => of_hidT e, Nat.le_of_eq (hidT_size _ _), trivial, fun b hb => ?_, hok, .of_eq hg⟩
    exact absurd (show b ∈ ([] : List Addr) from hb) (by simp)
  obtain ⟨f, fd, kp, m, bd, FN⟩ := F _ hKb (keepD hns)
  cases hfa.symm.trans m
  have bb := bd s [.ref a] KX rfl
  have hsp : spLaw K [.ref a] H (fun v _ => v = .bl true) (fun _ _ _ => False) := ⟨a, ns, rfl, hS, hl, fun _ => rfl⟩
  refine codeAny_mono (FN.run callerA [] s H ⟨[.ref a], []⟩ [.ref a] [.ref a] _ _ hr e0 bb (.cons rfl .nil) hsp) ?_
  intro r s' h
  match r, h with
  | .ok (.ret u), h =>
    obtain ⟨v, H', os, bare, un, hok', r', q⟩ := h
    cases (show v = .bl true from q)
    cases (show u = Value.bool true from r')
    refine ⟨rfl, OldK.of_keep fun b o e => ?_, os, bare⟩
    cases q : H b with
    | none => exact un.keep b o e q (fun z => absurd (show b ∈ ([] : List Addr) from z) (by simp)) (by simp)
    | some u =>
      rcases hO b with z | ⟨ob, xs, z⟩
      · rw [q] at z
        cases z
      · have e1 := (hok b _ z).1
        rw [e] at e1
        cases e1
        exact (hok' b _ (un.frzs b _ _ z)).1

theorem lawG {P : Program} {w : World} {K : PySem.W.Frag} {mg mb : Str → Option Value} {k : Nat} {fa a : Addr}
    {x : Str} {s : Shared} {vs : List Value} {ns : List Int} (KX : K.In s.heap) (hns : s.heap.Ns mainGlobals mg)
    (hb : s.heap.Ns builtinsNs mb) (hbb : ∀ x : Str, x ≠ "__name__" → mb x = bootBuiltins x)
    (hlim : s.heap.NoLimit) (hg : s.gens = #[])
    (ha : s.heap.get? a = some { cls := .type "list", data := .seq vs.toArray }) (hi : IntsAre vs ns)
    (hl : ns.length ≤ 63) (hr : RoomG k callerA) (hfa : mg "law" = some (.ref fa))
    (F : ∀ base : Heap, K.In base → base.Ns mainGlobals mg → Has P w K mg base CX0 "law" [x] k (spLaw K)) :
    codeAny (model P w) callerA (.call (.ref fa) ⟨[.ref a], []⟩)
      (fun r s' => r = .ok (.ret (.bool true)) ∧ OldK s.heap s'.heap ∧ s'.os = s.os ∧ AllBare s'.gens) s := by
  have rv := vals_ints hi
  have h63 : (63 : Nat) ≤ sizeLine := by decide
  have lenV := hi.length
  have core := lawG_core KX hns hb hbb hlim hg ha hl hr hfa F
  cases hk : K.lookup a with
  | some o =>
    have e := KX a o hk
    rw [ha] at e
    cases e
    refine core (fun _ => none) (fun _ => .inl rfl) (.inr ⟨_, vs.toArray, _, hk, rfl, rfl, rfl, ?_, by simpa using rv⟩)
      (fun b u z => nomatch (show (none : Option HO) = some u from z)) (fun b z => absurd rfl z) fun z => absurd rfl z
    rw [List.size_toArray, lenV]
    exact Nat.le_trans hl h63
  | none =>
    refine core (upd (fun _ => none) a (.frz { cls := .type "list", data := .seq vs.toArray } (.lst (ns.map V.int))))
      (fun b => ?_) (.inl (.inr ⟨_, upd_same⟩)) (fun b u z => ?_) (fun b z => ?_) fun _ => hk
    · by_cases hb : b = a
      · subst hb
        exact .inr ⟨_, _, upd_same⟩
      · exact .inl (upd_ne hb)
    · by_cases hb : b = a
      · subst hb
        rw [upd_same] at z
        cases z
        exact ⟨ha, by rw [List.length_map]; exact Nat.le_trans hl h63, vs, _, rv, ha⟩
      · rw [upd_ne hb] at z
        cases z
    · exact Classical.byContradiction fun hb => z (upd_ne hb)

theorem walkG {l : PySem.W.OpenLaw} {k : Nat} {q : Program} {loose : List Str}
    {XP : (Str → Option Value) → Heap → Prop} {YP : World → Heap → Prop} {d : DefRec} {K : Params → PySem.W.Frag}
    {x : Str} (hn : l.most = some 63) (hdf : d.params.defaults = []) (hnm : d.name = "law") (hr : RoomG k callerA)
    (hY : ∀ (w : World) (h : Heap), YP w h → (K w.params).In h)
    (F : ∀ (w : World) (mg : Str → Option Value) (h : Heap), (K w.params).In h → h.Ns mainGlobals mg →
      ∀ base : Heap, (K w.params).In base → base.Ns mainGlobals mg →
        Has l.prog w (K w.params) mg base CX0 "law" [x] k (spLaw (K w.params))) :
    PySem.W.WalkO q loose XP YP l.row.toRowW d [] (fun f vs => PySem.call f vs) := by
  refine Att.attach_call hn hdf fun w s₀ s₁ mg mb fa o pm cd doc a vs ns G Y ho hd hcd hmg hobj hints hlen hg => ?_
  have KX := hY w _ Y
  rw [hnm] at hmg
  exact lawG KX G.T.g G.T.b G.T.builtins G.T.nolimit hg hobj hints hlen hr hmg (F w mg _ KX G.T.g)
theorem df_mk {K : PySem.W.Frag} {h : Heap} {mg : Str → Option Value} {x : Str} {st : Stmt} {ps : List Str} {f : Addr}
    {oc kV doc pm cdv ct : Value} {od an : Option Addr} {osl : Array (Option Value)} (X : K.In h) (G : h.Ns mainGlobals mg)
    (a : PySem.W.nsIn K mainGlobals x = some (some (.ref f)))
    (l : K.lookup f = some ⟨oc, od, .func (PySem.W.fnOf x x (defArgs st) (defBody st) (defScope st) .none kV doc pm an cdv ct), osl⟩)
    (c : PySem.W.codeIn K cdv x = true) (k : PySem.W.keepIn K (.ref f) = true)
    (b : ∀ (kV doc pm : Value) (an : Option Addr) (cdv ct : Value) (us : List Value), us.length = ps.length →
      bindArgs (PySem.W.fnOf x x (defArgs st) (defBody st) (defScope st) .none kV doc pm an cdv ct) ⟨us, []⟩ = pure (ps.zip us)) :
    Df K mg x st ps := by
  have F := fun_mk (st := st) l c k
  exact ⟨f, _, F, PySem.W.mg_of X G a, F.binds b⟩
theorem gstr_mk {K : PySem.W.Frag} {h : Heap} {mg : Str → Option Value} {x z : Str} {t : Tok} (X : K.In h) (G : h.Ns mainGlobals mg)
    (a : PySem.W.nsIn K mainGlobals x = some (some (.str z t))) : ∃ t, mg x = some (.str z t) := ⟨t, PySem.W.mg_of X G a⟩
theorem gint_mk {K : PySem.W.Frag} {h : Heap} {mg : Str → Option Value} {x : Str} {z : Int} {t : Tok} (X : K.In h) (G : h.Ns mainGlobals mg)
    (a : PySem.W.nsIn K mainGlobals x = some (some (.int z t))) : ∃ t, mg x = some (.int z t) := ⟨t, PySem.W.mg_of X G a⟩
end Aw

/-! heaps: what is kept; data of tuples; the deck of a law; built-in names -/
namespace Aw
open PySem PySem.Spec L2

/-- names of built-ins that the top leaves alone -/
structure Blt (mg : Str → Option Value) : Prop where
  len : mg "len" = none
  int : mg "int" = none
  abs : mg "abs" = none
  str : mg "str" = none
  bool : mg "bool" = none
  range : mg "range" = none
  isinstance : mg "isinstance" = none
  tuple : mg "tuple" = none
  list : mg "list" = none
  repr : mg "repr" = none
  zip : mg "zip" = none
  enumerate : mg "enumerate" = none
  sum : mg "sum" = none
  min : mg "min" = none
  max : mg "max" = none
  all : mg "all" = none
  any : mg "any" = none
  sorted : mg "sorted" = none
  dict : mg "dict" = none

/-- all but the lists at M is kept -/
def Kp (M : List Addr) (H H' : Hp) : Prop :=
  ∀ b o, H b = some o → (b ∈ M → ∃ xs, o = .lst xs) ∧ (b ∉ M → H' b = some o)
/-- lists stand at M -/
def Ls (M : List Addr) (H : Hp) : Prop := ∀ b ∈ M, ∃ xs, H b = some (.lst xs)
theorem Kp.refl {M : List Addr} {H : Hp} (h : Ls M H) : Kp M H H := fun b o e => ⟨fun m => by
  obtain ⟨xs, q⟩ := h b m
  rw [e] at q
  exact ⟨xs, Option.some.inj q⟩, fun _ => e⟩
theorem Kp.nil {H : Hp} : Kp [] H H := fun b o e => ⟨fun m => (by cases m), fun _ => e⟩
theorem Kp.trans {M : List Addr} {H H1 H2 : Hp} (a : Kp M H H1) (b : Kp M H1 H2) : Kp M H H2 := fun c o e =>
  ⟨(a c o e).1, fun n => (b c o ((a c o e).2 n)).2 n⟩
theorem Kp.sub {M M' : List Addr} {H H1 : Hp} (a : Kp M H H1) (h : Ls M' H) (s : ∀ b ∈ M, b ∈ M') : Kp M' H H1 := fun c o e =>
  ⟨fun m => by
    obtain ⟨xs, q⟩ := h c m
    rw [e] at q
    exact ⟨xs, Option.some.inj q⟩, fun n => (a c o e).2 fun m => n (s c m)⟩
theorem Kp.same {H H1 : Hp} (a : Kp [] H H1) : Same H H1 := fun b o e => (a b o e).2 (by simp)
theorem Kp.of {H H1 : Hp} (a : Same H H1) : Kp [] H H1 := fun b o e => ⟨fun m => (by cases m), fun _ => a b o e⟩
theorem Kp.get {M : List Addr} {H H1 : Hp} {b : Addr} {o : HO} (a : Kp M H H1) (e : H b = some o) (n : b ∉ M) : H1 b = some o := (a b o e).2 n
theorem Kp.tup {M : List Addr} {H H1 : Hp} {b : Addr} {xs : List V} (a : Kp M H H1) (e : H b = some (.tup xs)) : H1 b = some (.tup xs) :=
  (a b _ e).2 fun m => by
    obtain ⟨ys, q⟩ := (a b _ e).1 m
    cases q
/-- a new object -/
theorem Kp.new {M : List Addr} {H H1 : Hp} {p : Addr} {o : HO} (a : Kp M H H1) (n : H1 p = none) : Kp M H (upd H1 p o) := fun b u e =>
  ⟨(a b u e).1, fun m => by
    have q := (a b u e).2 m
    rw [upd_ne (ne_of_none q n)]
    exact q⟩
theorem same_new {H : Hp} {p : Addr} {o : HO} (n : H p = none) : Same H (upd H p o) := fun b u e => by
  rw [upd_ne (ne_of_none e n)]
  exact e
/-- a write at M -/
theorem Kp.write {M : List Addr} {H H1 : Hp} {p : Addr} {o : HO} (a : Kp M H H1) (m : p ∈ M) : Kp M H (upd H1 p o) := fun b u e =>
  ⟨(a b u e).1, fun n => by
    have q := (a b u e).2 n
    rw [upd_ne (fun z : b = p => n (by rw [z]; exact m))]
    exact q⟩
/-- what was not there ahead may be written -/
theorem Kp.own {M : List Addr} {H H1 : Hp} {p : Addr} {o : HO} (a : Kp M H H1) (n : H p = none) : Kp M H (upd H1 p o) := fun b u e =>
  ⟨(a b u e).1, fun m => by
    rw [upd_ne (ne_of_none e n)]
    exact (a b u e).2 m⟩
theorem Kp.free {M : List Addr} {H H1 : Hp} {p : Addr} (a : Kp M H H1) (l : Ls M H1) (n : H1 p = none) : H p = none := by
  cases q : H p with
  | none => rfl
  | some o =>
    by_cases m : p ∈ M
    · obtain ⟨xs, z⟩ := l p m
      rw [n] at z
      cases z
    · rw [(a p o q).2 m] at n
      cases n

theorem sqT_kp {K : PySem.W.Frag} {M : List Addr} {H H1 : Hp} {b : Addr} {xs : List V} (a : Kp M H H1) (h : SqT K H b xs) : SqT K H1 b xs := by
  rcases h with (h | ⟨o, h⟩) | h
  · exact .inl (.inl (a.tup h))
  · refine .inl (.inr ⟨o, (a b _ h).2 fun m => ?_⟩)
    obtain ⟨ys, q⟩ := (a b _ h).1 m
    cases q
  · exact .inr h

theorem sqL_kp {K : PySem.W.Frag} {M : List Addr} {H H1 : Hp} {b : Addr} {xs : List V} (a : Kp M H H1) (n : b ∉ M) (h : SqL K H b xs) : SqL K H1 b xs := by
  rcases h with (h | ⟨o, h⟩) | h
  · exact .inl (.inl (a.get h n))
  · exact .inl (.inr ⟨o, a.get h n⟩)
  · exact .inr h

/-- data without lists -/
inductive Dt (K : PySem.W.Frag) (H : Hp) : V → PyData → Prop
  | non : Dt K H .non .none
  | bl (b : Bool) : Dt K H (.bl b) (.bool b)
  | int (i : Int) : Dt K H (.int i) (.int i)
  | str (x : Str) : Dt K H (.str x) (.str x)
  | tup {a : Addr} {xs : List V} {ds : List PyData} : SqT K H a xs → xs.length = ds.length →
      (∀ (i : Nat) (v : V) (d : PyData), xs[i]? = some v → ds[i]? = some d → Dt K H v d) → Dt K H (.ref a) (.tuple ds)
theorem Dt.kp {K : PySem.W.Frag} {M : List Addr} {H H1 : Hp} {v : V} {d : PyData} (a : Kp M H H1) (h : Dt K H v d) : Dt K H1 v d := by
  induction h with
  | non => exact .non
  | bl b => exact .bl b
  | int i => exact .int i
  | str x => exact .str x
  | tup s l _ ih => exact .tup (sqT_kp a s) l ih
theorem Dt.dp {K : PySem.W.Frag} {H : Hp} {v : V} {d : PyData} (h : Dt K H v d) : Dp K H v d := by
  induction h with
  | non => exact .non
  | bl b => exact .bl b
  | int i => exact .int i
  | str x => exact .str x
  | @tup a xs ds s l _ ih =>
    refine .tup s ?_
    clear s
    induction xs generalizing ds with
    | nil =>
      cases ds with
      | nil => exact .nil
      | cons d ds => cases l
    | cons x xs ihx =>
      cases ds with
      | nil => cases l
      | cons d ds =>
        refine .cons (ih 0 x d rfl rfl) (ihx (by simpa using l) (fun i => ?_) fun i => ?_)
        · rename_i q
          exact q (i + 1)
        · exact ih (i + 1)

/-! ### the deck of a law -/
structure Deck (H : Hp) (d c : Addr) (n : Int) : Prop where
  hd : H d = some (.lst [.ref c, .int n])
  hc : ∃ cs : List Int, H c = some (.lst (cs.map V.int)) ∧ (∀ x ∈ cs, 0 ≤ x) ∧ cs.length ≤ 63
  ne : d ≠ c
  n0 : 0 ≤ n
theorem Deck.ls {H : Hp} {d c : Addr} {n : Int} (D : Deck H d c n) : Ls [d, c] H := by
  intro b m
  rcases List.mem_cons.mp m with rfl | m
  · exact ⟨_, D.hd⟩
  · obtain ⟨cs, h, _⟩ := D.hc
    rw [List.mem_singleton.mp m]
    exact ⟨_, h⟩
theorem Deck.ls3 {H : Hp} {d c l : Addr} {n : Int} {xs : List V} (D : Deck H d c n) (h : H l = some (.lst xs)) : Ls [d, c, l] H := by
  intro b m
  rcases List.mem_cons.mp m with rfl | m
  · exact ⟨_, D.hd⟩
  rcases List.mem_cons.mp m with rfl | m
  · obtain ⟨cs, h, _⟩ := D.hc
    exact ⟨_, h⟩
  · rw [List.mem_singleton.mp m]
    exact ⟨_, h⟩
theorem Deck.fresh {H : Hp} {d c p : Addr} {n : Int} (D : Deck H d c n) (h : H p = none) : p ≠ d ∧ p ≠ c := by
  obtain ⟨cs, hc, _⟩ := D.hc
  exact ⟨Ne.symm (ne_of_none D.hd h), Ne.symm (ne_of_none hc h)⟩
theorem Deck.kp {M : List Addr} {H H1 : Hp} {d c : Addr} {n : Int} (D : Deck H d c n) (k : Kp M H H1) (hd : d ∉ M) (hc : c ∉ M) : Deck H1 d c n := by
  obtain ⟨cs, h, a, b⟩ := D.hc
  exact ⟨k.get D.hd hd, ⟨cs, k.get h hc, a, b⟩, D.ne, D.n0⟩

/-- a draw -/
def spDraw : Sp := fun vs H Q _ => ∃ (d c : Addr) (n m : Int), vs = [.ref d, .int m] ∧ Deck H d c n ∧ n < 10 ^ 12 ∧ 1 ≤ m ∧ m < 2 ^ 30 ∧
  ∀ (H' : Hp) (r : Int), 0 ≤ r → r < m → Deck H' d c (n + 1) → Kp [d, c] H H' → Q (.int r) H'
theorem spDraw.use {H : Hp} {Q : VK} {E : XK} {d c : Addr} {n m : Int} (D : Deck H d c n) (hn : n < 10 ^ 12) (h1 : 1 ≤ m) (h2 : m < 2 ^ 30)
    (k : ∀ (H' : Hp) (r : Int), 0 ≤ r → r < m → Deck H' d c (n + 1) → Kp [d, c] H H' → Q (.int r) H') : spDraw [.ref d, .int m] H Q E :=
  ⟨d, c, n, m, rfl, D, hn, h1, h2, k⟩
/-- the deck is made -/
def spDeck (K : PySem.W.Frag) : Sp := fun vs H Q _ => ∃ (a : Addr) (ns : List Int), vs = [.ref a] ∧ SqL K H a (ns.map V.int) ∧ ns.length ≤ 63 ∧
  ∀ (H' : Hp) (d c : Addr), H d = none → H c = none → Deck H' d c 0 → Kp [] H H' → Q (.ref d) H'
/-- one of the items of a list, of a text -/
def spOneL (K : PySem.W.Frag) : Sp := fun vs H Q _ => ∃ (d c a : Addr) (n : Int) (xs : List V), vs = [.ref d, .ref a] ∧ Deck H d c n ∧ n < 10 ^ 12 ∧ SqL K H a xs ∧ a ≠ d ∧ a ≠ c ∧
  1 ≤ xs.length ∧ xs.length < 2 ^ 30 ∧ ∀ (H' : Hp) (i : Nat) (x : V), xs[i]? = some x → Deck H' d c (n + 1) → Kp [d, c] H H' → Q x H'
def spOneS : Sp := fun vs H Q _ => ∃ (d c : Addr) (n : Int) (z : Str), vs = [.ref d, .str z] ∧ Deck H d c n ∧ n < 10 ^ 12 ∧
  1 ≤ z.length ∧ z.length ≤ 1000 ∧ ∀ (H' : Hp) (k : Nat), k ∈ z.cps.toList → Deck H' d c (n + 1) → Kp [d, c] H H' → Q (.str ⟨#[k]⟩) H'
def spOne (K : PySem.W.Frag) : Sp := fun vs H Q E => spOneL K vs H Q E ∨ spOneS vs H Q E
theorem spOne.list {K : PySem.W.Frag} {H : Hp} {Q : VK} {E : XK} {d c a : Addr} {n : Int} {xs : List V} (D : Deck H d c n) (hn : n < 10 ^ 12) (s : SqL K H a xs) (h1 : a ≠ d) (h2 : a ≠ c)
    (h3 : 1 ≤ xs.length) (h4 : xs.length < 2 ^ 30) (k : ∀ (H' : Hp) (i : Nat) (x : V), xs[i]? = some x → Deck H' d c (n + 1) → Kp [d, c] H H' → Q x H') : spOne K [.ref d, .ref a] H Q E :=
  .inl ⟨d, c, a, n, xs, rfl, D, hn, s, h1, h2, h3, h4, k⟩
theorem spOne.text {K : PySem.W.Frag} {H : Hp} {Q : VK} {E : XK} {d c : Addr} {n : Int} {z : Str} (D : Deck H d c n) (hn : n < 10 ^ 12) (h3 : 1 ≤ z.length) (h4 : z.length ≤ 1000)
    (k : ∀ (H' : Hp) (i : Nat), i ∈ z.cps.toList → Deck H' d c (n + 1) → Kp [d, c] H H' → Q (.str ⟨#[i]⟩) H') : spOne K [.ref d, .str z] H Q E :=
  .inr ⟨d, c, n, z, rfl, D, hn, h3, h4, k⟩
end Aw

/-! readings, one step each; named readings of calls -/
namespace Aw
open PySem PySem.Spec L2

section
variable {σ : L2.St} {H : Hp} {D : Ends} {Q : VK} {v x y : V} {i j : Nat} {t u : TS} {te ta tb tc : TE} {tt tu : TT} {ts : TA} {g : TG} {gs : TGs}

/-! ### statements -/
theorem r_seq (h : t { D with nx := u D } σ H) : tSeq t u D σ H := h
theorem r_next (h : D.nx σ H) : tNext D σ H := h
theorem r_asg (h : te σ H fun x H1 => g x σ H1 D.nx) : tAsg te g D σ H := h
theorem r_name {R : L2.St → Hp → Prop} (h : R (σ.set i (some v)) H) : gName i v σ H R := h
theorem r_sub {to ti : TE} {w : TSet} {R : L2.St → Hp → Prop} (h : to σ H fun o H1 => ti σ H1 fun i H2 => w o i v H2 fun H3 => R σ H3) : gSub to ti w v σ H R := h
theorem r_gtup {K : PySem.W.Frag} {n : Nat} {a : Addr} {xs : List V} {R : L2.St → Hp → Prop} (h : SqT K H a xs) (l : xs.length = n) (q : gs xs σ H R) : gTup K n gs (.ref a) σ H R := ⟨a, xs, rfl, h, l, q⟩
theorem r_gcons {R : L2.St → Hp → Prop} {xs : List V} (h : g x σ H fun σ' H' => gs xs σ' H' R) : gCons g gs (x :: xs) σ H R := ⟨x, xs, rfl, h⟩
theorem r_gnil {R : L2.St → Hp → Prop} (h : R σ H) : gNil [] σ H R := ⟨rfl, h⟩
theorem r_ifS (h : tt σ H fun b H1 => if b = true then t D σ H1 else u D σ H1) : tIfS tt t u D σ H := h
theorem r_ret (h : te σ H D.rt) : tRet te D σ H := h
theorem r_retN (h : D.rt .non H) : tRetN D σ H := h
theorem r_drop (h : te σ H fun _ H1 => D.nx σ H1) : tDrop te D σ H := h
theorem r_par (h : ts σ H fun vs H1 => ∃ v w, vs = [v, w] ∧ D.nx ((σ.set i (some v)).set j (some w)) H1) : tPar i j ts D σ H := h
theorem r_two {R : V → V → Prop} (h : R x y) : ∃ v w, [x, y] = [v, w] ∧ R v w := ⟨x, y, rfl, h⟩
theorem r_par3 {l : Nat} (h : ts σ H fun vs H1 => ∃ u v w, vs = [u, v, w] ∧ D.nx (((σ.set i (some u)).set j (some v)).set l (some w)) H1) : tPar3 i j l ts D σ H := h
theorem r_three {R : V → V → V → Prop} {z : V} (h : R x y z) : ∃ u v w, [x, y, z] = [u, v, w] ∧ R u v w := ⟨x, y, z, rfl, h⟩
theorem r_aug {ti : TIp} (e : σ[i]? = some (some x)) (h : te σ H fun y H1 => ti x y H1 fun z H2 => D.nx (σ.set i (some z)) H2) : tAug i te ti D σ H := ⟨x, e, h⟩
theorem r_ipI {f : Int → Int → Int} {a b : Int} (h : Q (.int (f a b)) H) : ipI f (.int a) (.int b) H Q := ⟨a, b, rfl, rfl, h⟩

/-! ### expressions -/
theorem r_var (e : σ[i]? = some (some v)) (h : Q v H) : tVar i σ H Q := ⟨v, e, h⟩
theorem r_C (h : Q v H) : tC v σ H Q := h
theorem r_op {r : R2} (h : ta σ H fun x H1 => tb σ H1 fun y H2 => r x y H2 Q) : tOp r ta tb σ H Q := h
theorem r_un {r : V → Hp → VK → Prop} (h : ta σ H fun x H1 => r x H1 Q) : tUn r ta σ H Q := h
theorem r_I0 {f : Int → Int → V} {a b : Int} (h : Q (f a b) H) : rI0 f (.int a) (.int b) H Q := ⟨a, b, rfl, rfl, h⟩
theorem r_I {C : Int → Int → Prop} {f : Int → Int → V} {a b : Int} (h : Q (f a b) H) (c : C a b) : rI C f (.int a) (.int b) H Q := ⟨a, b, rfl, rfl, c, h⟩
theorem r_U {f : Int → V} {a : Int} (h : Q (f a) H) : rU f (.int a) H Q := ⟨a, rfl, h⟩
theorem r_tup (h : ts σ H fun xs H1 => xs.length ≤ sizeLine ∧ ∀ p, H1 p = none → Q (.ref p) (upd H1 p (.tup xs))) : tTup ts σ H Q := h
theorem r_lst (h : ts σ H fun xs H1 => xs.length ≤ sizeLine ∧ ∀ p, H1 p = none → Q (.ref p) (upd H1 p (.lst xs))) : tLst ts σ H Q := h
theorem r_nil {R : List V → Hp → Prop} (h : R [] H) : tNil σ H R := h
theorem r_cons {R : List V → Hp → Prop} (h : te σ H fun x H1 => ts σ H1 fun xs H2 => R (x :: xs) H2) : tCons te ts σ H R := h
theorem r_call {sp : Sp} {E : XK} (h : ts σ H fun vs H1 => sp (vs ++ []) H1 Q E) : tCall sp [] E ts σ H Q := h
theorem r_CB {r : List V → Hp → VK → Prop} (h : ts σ H fun vs H1 => r vs H1 Q) : tCB r ts σ H Q := h
theorem r_BM {K : PySem.W.Frag} {T : String} {r : V → List V → Hp → VK → Prop} {to : TE} (h : to σ H fun x H1 => tyV K T x H1 ∧ ts σ H1 fun xs H2 => r x xs H2 Q) : tBM K T r to ts σ H Q := h
theorem r_BM0 {K : PySem.W.Frag} {T : String} {r : V → List V → Hp → VK → Prop} {to : TE} (h : to σ H fun x H1 => tyV K T x H1 ∧ r x [] H1 Q) : tBM0 K T r to σ H Q := h
theorem r_tyL {K : PySem.W.Frag} {a : Addr} {xs : List V} {R : Prop} (h : H a = some (.lst xs)) (q : R) : tyV K "list" (.ref a) H ∧ R := ⟨.inl ⟨rfl, _, SqL.of h⟩, q⟩
theorem r_M1 {r : V → List V → Hp → VK → Prop} {to : TE} (h : to σ H fun x H1 => (∃ a, x = .str a) ∧ te σ H1 fun y H2 => r x [y] H2 Q) : tM1 r to te σ H Q := h
theorem r_isS {z : Str} {R : Prop} (h : R) : (∃ a, V.str z = .str a) ∧ R := ⟨⟨z, rfl⟩, h⟩
theorem r_if (h : tt σ H fun c H1 => if c = true then ta σ H1 Q else tb σ H1 Q) : tIf tt ta tb σ H Q := h

/-- both ways of a conditional expression meet -/
theorem r_ifJ (R : V → Hp → Prop) (h : ∀ Q' : VK, (∀ x H', R x H' → Q' x H') → tIf tt ta tb σ H Q') (k : ∀ x H', R x H' → Q x H') : tIf tt ta tb σ H Q := h Q k
/-- the ways of a statement meet -/
theorem r_seqJ (R : L2.St → Hp → Prop) (h : ∀ nx' : L2.St → Hp → Prop, (∀ σ' H', R σ' H' → nx' σ' H') → t { D with nx := nx' } σ H) (k : ∀ σ' H', R σ' H' → u D σ' H') : tSeq t u D σ H := h (u D) k

/-! ### tests -/
def Bl (R : Bool → Hp → Prop) : V → Hp → Prop := fun x H => ∃ k, x = .bl k ∧ R k H
theorem r_bl {R : Bool → Hp → Prop} {b : Bool} (h : R b H) : Bl R (.bl b) H := ⟨b, rfl, h⟩
theorem r_test {R : Bool → Hp → Prop} (h : te σ H (Bl R)) : tTest te σ H R := h
theorem r_B {R : Bool → Hp → Prop} (h : te σ H (Bl R)) : tB te σ H R := h
theorem r_and {R : Bool → Hp → Prop} (h : tt σ H fun c H1 => if c = true then tu σ H1 R else R false H1) : tAnd tt tu σ H R := h
theorem r_or {R : Bool → Hp → Prop} (h : tt σ H fun c H1 => if c = true then R true H1 else tu σ H1 R) : tOr tt tu σ H R := h
theorem r_orP {R : Bool → Hp → Prop} {p q : Bool} (h1 : ∀ R' : Bool → Hp → Prop, R' p H → tt σ H R') (h2 : ∀ R' : Bool → Hp → Prop, R' q H → tu σ H R') (h : R (p || q) H) : tOr tt tu σ H R := by
  refine h1 _ ?_
  cases p with
  | true => exact iteT h
  | false => exact iteF (h2 _ h)
theorem r_andP {R : Bool → Hp → Prop} {p q : Bool} (h1 : ∀ R' : Bool → Hp → Prop, R' p H → tt σ H R') (h2 : ∀ R' : Bool → Hp → Prop, R' q H → tu σ H R') (h : R (p && q) H) : tAnd tt tu σ H R := by
  refine h1 _ ?_
  cases p with
  | true => exact iteT (h2 _ h)
  | false => exact iteF h
theorem r_not {R : Bool → Hp → Prop} (h : tt σ H fun c H1 => R (!c) H1) : tNot tt σ H R := h
theorem r_andV (h : ta σ H (Bl fun c H1 => if c = true then tb σ H1 Q else Q (.bl false) H1)) : tAndV ta tb σ H Q := h
theorem r_orV (h : ta σ H (Bl fun c H1 => if c = true then Q (.bl true) H1 else tb σ H1 Q)) : tOrV ta tb σ H Q := h
theorem r_notV (h : ta σ H (Bl fun c H1 => Q (.bl (!c)) H1)) : tNotV ta σ H Q := h
theorem r_chain {r r' : R2} (h : ta σ H fun x H1 => tb σ H1 fun y H2 => r x y H2 (Bl fun k H3 => if k = true then tc σ H3 fun w' H4 => r' y w' H4 Q else Q (.bl false) H3)) : tChain r r' ta tb tc σ H Q := h
theorem r_eq (s : scal x y = true) (h : Q (.bl (decide (x = y))) H) : rEq x y H Q := ⟨s, h⟩
theorem r_ne (s : scal x y = true) (h : Q (.bl (!decide (x = y))) H) : rNe x y H Q := ⟨s, h⟩
theorem r_eqT (e : x = y) (s : scal x y = true) (h : Q (.bl true) H) : rEq x y H Q := ⟨s, by rw [decide_eq_true e]; exact h⟩
theorem r_eqF (e : x ≠ y) (s : scal x y = true) (h : Q (.bl false) H) : rEq x y H Q := ⟨s, by rw [decide_eq_false e]; exact h⟩
theorem r_neT (e : x ≠ y) (s : scal x y = true) (h : Q (.bl true) H) : rNe x y H Q := ⟨s, by rw [decide_eq_false e]; exact h⟩
theorem r_neF (e : x = y) (s : scal x y = true) (h : Q (.bl false) H) : rNe x y H Q := ⟨s, by rw [decide_eq_true e]; exact h⟩
theorem ifd {p A B : Prop} [Decidable p] (h1 : p → A) (h2 : ¬ p → B) : if decide p = true then A else B :=
  ite2 (fun c => h1 (of_decide_eq_true c)) fun c => h2 fun q => c (decide_eq_true q)
theorem ifn {p A B : Prop} [Decidable p] (h1 : ¬ p → A) (h2 : p → B) : if (!decide p) = true then A else B := by
  by_cases h : p
  · rw [decide_eq_true h]
    exact iteF (h2 h)
  · rw [decide_eq_false h]
    exact iteT (h1 h)
theorem ifT {A B : Prop} (h : A) : if true = true then A else B := iteT h
theorem ifF {A B : Prop} (h : B) : if false = true then A else B := iteF h
theorem ifnT {A B : Prop} (h : B) : if (!true) = true then A else B := iteF h
theorem ifnF {A B : Prop} (h : A) : if (!false) = true then A else B := iteT h

theorem c_pow {i j : Int} (h : i.natAbs < 2 ^ 64) (h1 : 0 ≤ j) (h2 : j ≤ 1000000) : CPow i j := ⟨h1, h2, h⟩
theorem c_div {i j : Int} (h : 0 < j) (h1 : j < 1073741824) : CDiv i j := ⟨h, h1⟩
theorem c_mulL {i j : Int} (h : -(2 ^ 64) < i) (h1 : i < 2 ^ 64) : CMul i j := .inl ⟨h, h1⟩
theorem c_mulR {i j : Int} (h : -(2 ^ 64) < j) (h1 : j < 2 ^ 64) : CMul i j := .inr ⟨h, h1⟩

def rAddS : R2 := fun x y H Q => ∃ i j, x = .str i ∧ y = .str j ∧ i.length + j.length ≤ sizeLine ∧ Q (.str (i ++ j)) H
theorem op_addS {X : Cx} : OpR X (binaryOp .Add) rAddS := op_add_str
theorem r_addS {a b : Str} (h : Q (.str (a ++ b)) H) (l : a.length + b.length ≤ sizeLine) : rAddS (.str a) (.str b) H Q := ⟨a, b, rfl, rfl, l, h⟩

/-! ### subscripts -/
theorem r_ixL {K : PySem.W.Frag} {a : Addr} {xs : List V} {k : Int} (h : SqL K H a xs) (e : atI xs k = some v) (q : Q v H) : rIxL K (.ref a) (.int k) H Q := ⟨a, xs, k, v, rfl, rfl, h, e, q⟩
theorem r_ixT {K : PySem.W.Frag} {a : Addr} {xs : List V} {k : Int} (h : SqT K H a xs) (e : atI xs k = some v) (q : Q v H) : rIxT K (.ref a) (.int k) H Q := ⟨a, xs, k, v, rfl, rfl, h, e, q⟩
theorem r_ixS {z : Str} {k : Int} {c : Nat} (l : z.length ≤ sizeLine) (e : atI z.cps.toList k = some c) (q : Q (.str ⟨#[c]⟩) H) : rIxS (.str z) (.int k) H Q := ⟨z, k, c, rfl, rfl, l, e, q⟩
theorem r_ixD {K : PySem.W.Frag} {w : World} {a : Addr} {z : Str} (h : KDct K w a z v) (q : Q v H) : rIxD K w (.ref a) (.str z) H Q := ⟨a, z, v, rfl, rfl, h, q⟩
theorem r_setL {R : Hp → Prop} {a : Addr} {xs : List V} {k : Int} {m : Nat} (h : H a = some (.lst xs)) (e : ixN xs.length k = some m) (q : R (upd H a (.lst (xs.set m v)))) : rSetL (.ref a) (.int k) v H R := ⟨a, xs, k, m, rfl, rfl, h, e, q⟩
theorem r_append {a : Addr} {xs : List V} (h : H a = some (.lst xs)) (q : Q .non (upd H a (.lst (xs ++ [x])))) (l : xs.length < sizeLine) : rAppend (.ref a) [x] H Q := ⟨a, xs, x, rfl, rfl, h, l, q⟩
theorem r_extend {a b : Addr} {xs zs : List V} (h : H a = some (.lst xs)) (h2 : H b = some (.lst zs)) (q : Q .non (upd H a (.lst (xs ++ zs)))) (l : xs.length + zs.length ≤ sizeLine) : rExtend (.ref a) [.ref b] H Q := ⟨a, b, xs, zs, rfl, rfl, h, h2, l, q⟩
theorem r_cat {a b : Addr} {xs zs : List V} (h : H a = some (.lst xs)) (h2 : H b = some (.lst zs)) (l : xs.length + zs.length ≤ sizeLine) (q : ∀ p, H p = none → Q (.ref p) (upd H p (.lst (xs ++ zs)))) : rCat (.ref a) (.ref b) H Q := ⟨a, b, xs, zs, rfl, rfl, h, h2, l, q⟩
theorem r_eqD {K : PySem.W.Frag} {d e : PyData} (h1 : Dp K H x d) (h2 : Dp K H y e) (s1 : SeqAt.shaped d = true) (s2 : SeqAt.shaped e = true) (q : Q (.bl (PyData.eqv d e)) H) : rEqD K x y H Q := ⟨d, e, h1, h2, s1, s2, q⟩
theorem r_neD {K : PySem.W.Frag} {d e : PyData} (h1 : Dp K H x d) (h2 : Dp K H y e) (s1 : SeqAt.shaped d = true) (s2 : SeqAt.shaped e = true) (q : Q (.bl (!PyData.eqv d e)) H) : rNeD K x y H Q := ⟨d, e, h1, h2, s1, s2, q⟩

theorem at_nn {α : Type} {xs : List α} {r : Int} {v : α} (h0 : 0 ≤ r) (h : xs[r.toNat]? = some v) : atI xs r = some v := by
  have q := atI_nat h
  rw [Int.toNat_of_nonneg h0] at q
  exact q
theorem ix_nn {n : Nat} {r : Int} (h0 : 0 ≤ r) (h : r < n) : ixN n r = some r.toNat := by
  unfold ixN
  rw [if_pos h0, if_pos h]

/-! ### slices -/
theorem r_sl {r : V → Option Int → Option Int → Hp → VK → Prop} {tl th : TO} (h : te σ H fun x H1 => tl σ H1 fun l H2 => th σ H2 fun u H3 => r x l u H3 Q) : tSl r te tl th σ H Q := h
theorem r_noPart {R : Option Int → Hp → Prop} (h : R none H) : tNoPart σ H R := h
def PartI (R : Option Int → Hp → Prop) : V → Hp → Prop := fun x H1 => ∃ i, x = .int i ∧ R (some i) H1
theorem r_part {R : Option Int → Hp → Prop} (h : te σ H (PartI R)) : tPart te σ H R := h
theorem r_partI {R : Option Int → Hp → Prop} {k : Int} (h : R (some k) H) : PartI R (.int k) H := ⟨k, rfl, h⟩
theorem r_slL {K : PySem.W.Frag} {a : Addr} {xs : List V} {lo hi : Option Int} (s : SqL K H a xs) (h : ∀ p, H p = none → Q (.ref p) (upd H p (.lst (cutV xs lo hi)))) : rSlL K (.ref a) lo hi H Q := ⟨a, xs, rfl, s, h⟩
theorem r_slS {z : Str} {lo hi : Option Int} (h : Q (.str (cutS z lo hi)) H) (l : z.length ≤ sizeLine) : rSlS (.str z) lo hi H Q := ⟨z, rfl, l, h⟩
theorem cutV_map {α : Type} (f : α → V) (xs : List α) (lo hi : Option Int) : ∃ ys : List α, cutV (xs.map f) lo hi = ys.map f ∧ ys.length ≤ xs.length ∧ ∀ y ∈ ys, y ∈ xs := by
  unfold cutV
  rw [List.length_map, ← List.map_drop, ← List.map_take]
  refine ⟨_, rfl, ?_, fun y hy => List.mem_of_mem_drop (List.mem_of_mem_take hy)⟩
  rw [List.length_take, List.length_drop]
  omega

/-! ### dicts -/
theorem r_pnil {R : List (V × V) → Hp → Prop} (h : R [] H) : tPairs [] σ H R := h
theorem r_pcons {R : List (V × V) → Hp → Prop} {tk tv : TE} {r : List (TE × TE)} (h : tk σ H fun x H1 => tv σ H1 fun y H2 => tPairs r σ H2 fun ps H3 => R ((x, y) :: ps) H3) : tPairs ((tk, tv) :: r) σ H R := h
def DG (Q : VK) : V → V → Hp → Prop := fun x y H2 => ∃ a v, x = .ref a ∧ DGet H2 a y (some v) ∧ Q v H2
theorem r_dget {td ty : TE} (h : td σ H fun x H1 => ty σ H1 fun y H2 => DG Q x y H2) : tDGet td ty σ H Q := h
theorem r_DG {a : Addr} (h : DGet H a y (some v)) (q : Q v H) : DG Q (.ref a) y H := ⟨a, v, rfl, h, q⟩
theorem dget_k {a : Addr} {kvs : List (Key × V)} {z : Str} (e : H a = some (.dK kvs)) (q : valV kvs (Sum.inr z) = some v) : DGet H a (.str z) (some v) := by
  have h := DGet.k (k := Sum.inr z) e
  rw [q] at h
  exact h
theorem dget_i {a : Addr} {kvs : List (Key × V)} {z : Int} (e : H a = some (.dK kvs)) (q : valV kvs (Sum.inl z) = some v) : DGet H a (.int z) (some v) := by
  have h := DGet.k (k := Sum.inl z) e
  rw [q] at h
  exact h

/-! ### loops -/
/-- the turns of a walk -/
def Turns (J : It) (g : TG) (tb : TS) (D : Ends) (σ : L2.St) (H1 : Hp) : Prop := ∃ W : Nat → Nat → L2.St → Hp → Prop, (∃ m, W 0 m σ H1) ∧ ∀ i m σ H, W i m σ H →
  (J.stop i H ∧ D.nx σ H) ∨ (J.go i H ∧ ∃ N : L2.St → Hp → Prop, (∀ σ' H', N σ' H' → ∃ m', m' < m ∧ W (i + 1) m' σ' H') ∧ ∀ x H', J.yld i H x H' → g x σ H' fun σ2 H2 => tb { D with nx := N, ct := N, bk := D.nx } σ2 H2)
def ForT (K : PySem.W.Frag) (g : TG) (tb : TS) (D : Ends) (σ : L2.St) : V → Hp → Prop := fun x H1 => ∃ a, x = .ref a ∧ (∃ xs, SqT K H1 a xs) ∧ Turns (Itt K a) g tb D σ H1
def ForL (K : PySem.W.Frag) (g : TG) (tb : TS) (D : Ends) (σ : L2.St) : V → Hp → Prop := fun x H1 => ∃ a, x = .ref a ∧ (∃ xs, SqL K H1 a xs) ∧ Turns (Itl K a) g tb D σ H1
def ForR (g : TG) (tb : TS) (D : Ends) (σ : L2.St) : List V → Hp → Prop := fun vs H1 => ∃ j : Int, vs = [.int j] ∧ -(2 ^ 62) ≤ j ∧ j < 2 ^ 62 ∧ Turns (Itr 0 j.toNat) g tb D σ H1
def ForR2 (g : TG) (tb : TS) (D : Ends) (σ : L2.St) : List V → Hp → Prop := fun vs H1 => ∃ i j : Int, vs = [.int i, .int j] ∧ (-(2 ^ 62) ≤ i ∧ i < 2 ^ 62 ∧ -(2 ^ 62) ≤ j ∧ j < 2 ^ 62) ∧ Turns (Itr i (j - i).toNat) g tb D σ H1
section
variable {K : PySem.W.Frag} {tb : TS}
theorem r_forT (h : te σ H (ForT K g tb D σ)) : tFor (iTup K te) g tb D σ H := h
theorem r_forL (h : te σ H (ForL K g tb D σ)) : tFor (iList K te) g tb D σ H := h
theorem r_forR (h : ts σ H (ForR g tb D σ)) : tFor (iRng1 ts) g tb D σ H := h
theorem r_forR2 (h : ts σ H (ForR2 g tb D σ)) : tFor (iRng2 ts) g tb D σ H := h
theorem r_ForT {a : Addr} {xs : List V} (s : SqT K H a xs) (R : Nat → L2.St → Hp → Prop) (h0 : R 0 σ H) (hl : ∀ i σ H, R i σ H → SqT K H a xs)
    (hs : ∀ (i : Nat) x σ H, xs[i]? = some x → R i σ H → g x σ H fun σ2 H2 => tb { D with nx := R (i + 1), ct := R (i + 1), bk := D.nx } σ2 H2) (hd : ∀ σ H, R xs.length σ H → D.nx σ H) :
    ForT K g tb D σ (.ref a) H := ⟨a, rfl, ⟨xs, s⟩, for_tup R h0 (fun i σ H _ => hl i σ H) hs hd⟩
theorem r_ForL {a : Addr} {xs : List V} (s : SqL K H a xs) (R : Nat → L2.St → Hp → Prop) (h0 : R 0 σ H) (hl : ∀ i σ H, R i σ H → SqL K H a xs)
    (hs : ∀ (i : Nat) x σ H, xs[i]? = some x → R i σ H → g x σ H fun σ2 H2 => tb { D with nx := R (i + 1), ct := R (i + 1), bk := D.nx } σ2 H2) (hd : ∀ σ H, R xs.length σ H → D.nx σ H) :
    ForL K g tb D σ (.ref a) H := ⟨a, rfl, ⟨xs, s⟩, for_list R h0 (fun i σ H _ => hl i σ H) hs hd⟩
theorem r_ForR {n : Int} (R : Nat → L2.St → Hp → Prop) (h1 : -(2 ^ 62) ≤ n) (h2 : n < 2 ^ 62) (h0 : R 0 σ H)
    (hs : ∀ (i : Nat) σ H, i < n.toNat → R i σ H → g (.int (i : Int)) σ H fun σ2 H2 => tb { D with nx := R (i + 1), ct := R (i + 1), bk := D.nx } σ2 H2) (hd : ∀ σ H, R n.toNat σ H → D.nx σ H) :
    ForR g tb D σ [.int n] H := by
  refine ⟨n, rfl, h1, h2, for_range (lo := 0) (n := n.toNat) R h0 (fun i σ H hi p => ?_) hd⟩
  have z := hs i σ H hi p
  rw [← Int.zero_add (i : Int)] at z
  exact z
theorem r_ForR2 {lo hi : Int} (R : Nat → L2.St → Hp → Prop) (h1 : -(2 ^ 62) ≤ lo ∧ lo < 2 ^ 62 ∧ -(2 ^ 62) ≤ hi ∧ hi < 2 ^ 62) (h0 : R 0 σ H)
    (hs : ∀ (i : Nat) σ H, i < (hi - lo).toNat → R i σ H → g (.int (lo + i)) σ H fun σ2 H2 => tb { D with nx := R (i + 1), ct := R (i + 1), bk := D.nx } σ2 H2) (hd : ∀ σ H, R (hi - lo).toNat σ H → D.nx σ H) :
    ForR2 g tb D σ [.int lo, .int hi] H := ⟨lo, hi, rfl, h1, for_range (lo := lo) (n := (hi - lo).toNat) R h0 hs hd⟩
end

/-! ### comprehensions -/
def LcTurns (J : It) (g : TG) (tt : TT) (te : TE) (vs : List Nat) (σ : L2.St) (Q : VK) (H1 : Hp) : Prop := ∀ D, H1 D = none → ∃ W : Nat → Nat → Hp → Prop, (∃ m, W 0 m (upd H1 D (.lst []))) ∧ ∀ i m H, W i m H →
  (J.stop i H ∧ Q (.ref D) H) ∨ (J.go i H ∧ ∃ Nx : Hp → Prop, (∀ H', Nx H' → ∃ m', m' < m ∧ W (i + 1) m' H') ∧ ∀ x H', J.yld i H x H' → g x (wipe σ vs) H' fun σ2 H2 => wipe σ2 vs = wipe σ vs ∧ tt σ2 H2 fun b H3 =>
    if b = true then te σ2 H3 fun y H4 => ∃ acc, H4 D = some (.lst acc) ∧ acc.length < sizeLine ∧ Nx (upd H4 D (.lst (acc ++ [y]))) else Nx H3)
def LcT (K : PySem.W.Frag) (g : TG) (tt : TT) (te : TE) (vs : List Nat) (σ : L2.St) (Q : VK) : V → Hp → Prop := fun x H1 => ∃ a, x = .ref a ∧ (∃ xs, SqT K H1 a xs) ∧ LcTurns (Itt K a) g tt te vs σ Q H1
def LcL (K : PySem.W.Frag) (g : TG) (tt : TT) (te : TE) (vs : List Nat) (σ : L2.St) (Q : VK) : V → Hp → Prop := fun x H1 => ∃ a, x = .ref a ∧ (∃ xs, SqL K H1 a xs) ∧ LcTurns (Itl K a) g tt te vs σ Q H1
def LcR (g : TG) (tt : TT) (te : TE) (vs : List Nat) (σ : L2.St) (Q : VK) : List V → Hp → Prop := fun us H1 => ∃ j : Int, us = [.int j] ∧ -(2 ^ 62) ≤ j ∧ j < 2 ^ 62 ∧ LcTurns (Itr 0 j.toNat) g tt te vs σ Q H1
section
variable {K : PySem.W.Frag} {tt : TT} {vs : List Nat} {ti : TE}
theorem r_lcT (h : ti σ H (LcT K g tt te vs σ Q)) : tLc (iTup K ti) g tt te vs σ H Q := h
theorem r_lcL (h : ti σ H (LcL K g tt te vs σ Q)) : tLc (iList K ti) g tt te vs σ H Q := h
theorem r_lcR (h : ts σ H (LcR g tt te vs σ Q)) : tLc (iRng1 ts) g tt te vs σ H Q := h
/-- the end of a turn of a comprehension: the element y is taken -/
def LcEnd (D : Addr) (N : Hp → Prop) : VK := fun y H4 => ∃ acc, H4 D = some (.lst acc) ∧ acc.length < sizeLine ∧ N (upd H4 D (.lst (acc ++ [y])))
theorem r_LcEnd {D : Addr} {N : Hp → Prop} {acc : List V} (h : H D = some (.lst acc)) (l : acc.length < sizeLine) (q : N (upd H D (.lst (acc ++ [y])))) : LcEnd D N y H := ⟨acc, h, l, q⟩
def LcTurn (tt : TT) (te : TE) (vs : List Nat) (σ : L2.St) (D : Addr) (N : Hp → Prop) : L2.St → Hp → Prop := fun σ2 H2 => wipe σ2 vs = wipe σ vs ∧ tt σ2 H2 fun b H3 => if b = true then te σ2 H3 (LcEnd D N) else N H3
theorem r_LcL {a : Addr} {xs : List V} (s : SqL K H a xs) (h : ∀ p, H p = none → ∃ R : Nat → Hp → Prop, R 0 (upd H p (.lst [])) ∧ (∀ i H, R i H → SqL K H a xs) ∧
    (∀ (i : Nat) x H, xs[i]? = some x → R i H → g x (wipe σ vs) H (LcTurn tt te vs σ p (R (i + 1)))) ∧ ∀ H, R xs.length H → Q (.ref p) H) : LcL K g tt te vs σ Q (.ref a) H := by
  refine ⟨a, rfl, ⟨xs, s⟩, fun p hp => ?_⟩
  obtain ⟨R, h0, hl, hs, hd⟩ := h p hp
  exact lc_list R h0 (fun i H _ => hl i H) hs hd
theorem r_LcT {a : Addr} {xs : List V} (s : SqT K H a xs) (h : ∀ p, H p = none → ∃ R : Nat → Hp → Prop, R 0 (upd H p (.lst [])) ∧ (∀ i H, R i H → SqT K H a xs) ∧
    (∀ (i : Nat) x H, xs[i]? = some x → R i H → g x (wipe σ vs) H (LcTurn tt te vs σ p (R (i + 1)))) ∧ ∀ H, R xs.length H → Q (.ref p) H) : LcT K g tt te vs σ Q (.ref a) H := by
  refine ⟨a, rfl, ⟨xs, s⟩, fun p hp => ?_⟩
  obtain ⟨R, h0, hl, hs, hd⟩ := h p hp
  exact lc_tup R h0 (fun i H _ => hl i H) hs hd
theorem r_LcR {n : Int} (h1 : -(2 ^ 62) ≤ n) (h2 : n < 2 ^ 62) (h : ∀ p, H p = none → ∃ R : Nat → Hp → Prop, R 0 (upd H p (.lst [])) ∧
    (∀ (i : Nat) H, i < n.toNat → R i H → g (.int (i : Int)) (wipe σ vs) H (LcTurn tt te vs σ p (R (i + 1)))) ∧ ∀ H, R n.toNat H → Q (.ref p) H) : LcR g tt te vs σ Q [.int n] H := by
  refine ⟨n, rfl, h1, h2, fun p hp => ?_⟩
  obtain ⟨R, h0, hs, hd⟩ := h p hp
  refine lc_range (lo := 0) (n := n.toNat) R h0 (fun i H hi q => ?_) hd
  have z := hs i H hi q
  rw [← Int.zero_add (i : Int)] at z
  exact z
theorem r_LcTurn {D : Addr} {N : Hp → Prop} {σ2 : L2.St} (e : wipe σ2 vs = wipe σ vs) (h : tt σ2 H fun b H3 => if b = true then te σ2 H3 (LcEnd D N) else N H3) : LcTurn tt te vs σ D N σ2 H := ⟨e, h⟩
theorem r_yes {R : Bool → Hp → Prop} (h : R true H) : tYes σ H R := h
end

/-! ### in -/
theorem r_in {K : PySem.W.Frag} {a : Addr} {xs : List V} (h : SqL K H a xs ∨ SqT K H a xs) (f1 : flatV x = true) (f2 : xs.all flatV = true) (q : Q (.bl (inV x xs)) H) : rIn K false x (.ref a) H Q :=
  ⟨a, xs, rfl, h, f1, f2, by rw [if_neg Bool.false_ne_true]; exact q⟩
theorem r_inT {K : PySem.W.Frag} {a : Addr} {xs : List V} (h : SqL K H a xs ∨ SqT K H a xs) (f1 : flatV x = true) (f2 : xs.all flatV = true) (e : inV x xs = true) (q : Q (.bl true) H) : rIn K false x (.ref a) H Q :=
  ⟨a, xs, rfl, h, f1, f2, by rw [if_neg Bool.false_ne_true, e]; exact q⟩
theorem r_inF {K : PySem.W.Frag} {a : Addr} {xs : List V} (h : SqL K H a xs ∨ SqT K H a xs) (f1 : flatV x = true) (f2 : xs.all flatV = true) (e : inV x xs = false) (q : Q (.bl false) H) : rIn K false x (.ref a) H Q :=
  ⟨a, xs, rfl, h, f1, f2, by rw [if_neg Bool.false_ne_true, e]; exact q⟩
theorem kpW {a : Addr} {xs : List V} {o : HO} (h : H a = some (.lst xs)) : Kp [a] H (upd H a o) :=
  (Kp.refl (M := [a]) fun b m => ⟨xs, by rw [List.mem_singleton.mp m]; exact h⟩).write (by simp)
end

/-! ### calls by name of what they ask -/
section
variable {X : Cx} {H : Hp} {Q : VK}
def qAbs : List V → Hp → VK → Prop := fun xs H Q => ∃ i, xs = [.int i] ∧ Q (.int (if i < 0 then -i else i)) H
theorem c_abs : CallR X (.builtin "abs") qAbs := call_abs
theorem r_abs {i : Int} (h : Q (.int (if i < 0 then -i else i)) H) : qAbs [.int i] H Q := ⟨i, rfl, h⟩
def qInt : List V → Hp → VK → Prop := fun xs H Q => (∃ i, xs = [.int i] ∧ Q (.int i) H) ∨ ∃ k, xs = [.bl k] ∧ Q (.int (if k then 1 else 0)) H
theorem c_int : CallR X (.type "int") qInt := call_int1
theorem r_int {i : Int} (h : Q (.int i) H) : qInt [.int i] H Q := .inl ⟨i, rfl, h⟩
theorem r_intB {b : Bool} (h : Q (.int (if b then 1 else 0)) H) : qInt [.bl b] H Q := .inr ⟨b, rfl, h⟩
def qLen (K : PySem.W.Frag) : List V → Hp → VK → Prop := fun xs H Q => ∃ x n, xs = [x] ∧ LenV K x H n ∧ Q (.int n) H
theorem c_len : CallR X (.builtin "len") (qLen X.K) := call_len
theorem r_lenL {K : PySem.W.Frag} {a : Addr} {xs : List V} (h : SqL K H a xs) (q : Q (.int (xs.length : Nat)) H) : qLen K [.ref a] H Q := ⟨_, _, rfl, .inl ⟨_, h, rfl⟩, q⟩
theorem r_lenT {K : PySem.W.Frag} {a : Addr} {xs : List V} (h : SqT K H a xs) (q : Q (.int (xs.length : Nat)) H) : qLen K [.ref a] H Q := ⟨_, _, rfl, .inr ⟨_, h, rfl⟩, q⟩
theorem r_lenS {K : PySem.W.Frag} {z : Str} (q : Q (.int (z.length : Nat)) H) (h : z.length ≤ sizeLine) : qLen K [.str z] H Q := ⟨_, _, rfl, ⟨h, rfl⟩, q⟩
def qStr : List V → Hp → VK → Prop := fun xs H Q => (∃ i, xs = [.int i] ∧ i.natAbs.log2 < 1920 ∧ Q (.str (toString i)) H) ∨ ∃ a, xs = [.str a] ∧ Q (.str a) H
theorem c_str : CallR X (.type "str") qStr := call_str_int.or SkE.call_str_str
theorem r_strI {i : Int} (h : Q (.str (toString i)) H) (l : i.natAbs.log2 < 1920) : qStr [.int i] H Q := .inl ⟨i, rfl, l, h⟩
theorem r_strS {z : Str} (h : Q (.str z) H) : qStr [.str z] H Q := .inr ⟨z, rfl, h⟩
def qTup (K : PySem.W.Frag) : List V → Hp → VK → Prop := fun xs H Q => ∃ p ys, xs = [.ref p] ∧ ((SqL K H p ys ∧ ∀ l, H l = none → Q (.ref l) (upd H l (.tup ys))) ∨ (SqT K H p ys ∧ Q (.ref p) H))
theorem c_tup : CallR X (.type "tuple") (qTup X.K) := call_tuple_of
theorem r_tupL {K : PySem.W.Frag} {a : Addr} {xs : List V} (s : SqL K H a xs) (h : ∀ l, H l = none → Q (.ref l) (upd H l (.tup xs))) : qTup K [.ref a] H Q := ⟨a, xs, rfl, .inl ⟨s, h⟩⟩
theorem r_tupT {K : PySem.W.Frag} {a : Addr} {xs : List V} (s : SqT K H a xs) (h : Q (.ref a) H) : qTup K [.ref a] H Q := ⟨a, xs, rfl, .inr ⟨s, h⟩⟩
def qLst (K : PySem.W.Frag) : List V → Hp → VK → Prop := fun xs H Q => ∃ p ys, xs = [.ref p] ∧ (SqL K H p ys ∨ SqT K H p ys) ∧ ∀ l, H l = none → Q (.ref l) (upd H l (.lst ys))
theorem c_lst : CallR X (.type "list") (qLst X.K) := call_list_of
theorem r_lstL {K : PySem.W.Frag} {a : Addr} {xs : List V} (s : SqL K H a xs) (h : ∀ l, H l = none → Q (.ref l) (upd H l (.lst xs))) : qLst K [.ref a] H Q := ⟨a, xs, rfl, .inl s, h⟩
theorem r_lstT {K : PySem.W.Frag} {a : Addr} {xs : List V} (s : SqT K H a xs) (h : ∀ l, H l = none → Q (.ref l) (upd H l (.lst xs))) : qLst K [.ref a] H Q := ⟨a, xs, rfl, .inr s, h⟩
def qRepr (K : PySem.W.Frag) : List V → Hp → VK → Prop := fun xs H Q => ∃ a d, xs = [.ref a] ∧
    Dp K H (.ref a) d ∧ d.showable = true ∧ d.hasDict = false ∧ d.depth ≤ 100 ∧ d.shown.length ≤ sizeLine ∧ Q (.str d.shown) H
theorem c_repr {k : Nat} (hr : RoomG k X.A) : CallR X (.builtin "repr") (qRepr X.K) := call_reprD hr
end

/-! ### names of the top -/
section
variable {X : Cx} {x : Str} {pos : Pos}
theorem pe_ty {T : String} (hg : Gl X x) (hm : X.mg x = none) (hv : bootBuiltins x = some (.type T)) (hn : x ≠ "__name__" := by decide) (hd : (x == ("__debug__" : Str)) = false := by decide) : PE X (.Name x pos) (tC (.ty T)) := pe_bltn hg hm hv rfl hn hd
theorem pe_gref {a : Addr} (hg : Gl X x) (hm : X.mg x = some (.ref a)) (hd : (x == ("__debug__" : Str)) = false := by decide) : PE X (.Name x pos) (tC (.ref a)) := pe_glob hg hm rfl hd
theorem pe_gint {i : Int} {t : Tok} (hg : Gl X x) (hm : X.mg x = some (.int i t)) (hd : (x == ("__debug__" : Str)) = false := by decide) : PE X (.Name x pos) (tC (.int i)) := pe_glob hg hm ⟨t, rfl⟩ hd
theorem pe_gstr {z : Str} {t : Tok} (hg : Gl X x) (hm : X.mg x = some (.str z t)) (hd : (x == ("__debug__" : Str)) = false := by decide) : PE X (.Name x pos) (tC (.str z)) := pe_glob hg hm ⟨t, rfl⟩ hd
end

/-! ### isinstance of data -/
def tyD : PyData → String
  | .none => "NoneType"
  | .bool _ => "bool"
  | .int _ => "int"
  | .str _ => "str"
  | .list _ => "list"
  | .tuple _ => "tuple"
  | .dict _ => "dict"
def isaD (d : PyData) (n : String) : Bool := tyD d == n || (tyD d == "bool" && n == "int")
def qIs (K : PySem.W.Frag) : List V → Hp → VK → Prop := fun xs H Q => ∃ (x : V) (d : PyData) (n : String), xs = [x, .ty n] ∧ Dp K H x d ∧
  n ∈ ["int", "bool", "str", "tuple", "list", "dict"] ∧ Q (.bl (isaD d n)) H
theorem tyX_L {K : PySem.W.Frag} {H : Hp} {a : Addr} {xs : List V} (h : SqL K H a xs) : TyX K H (.ref a) (.type "list") := by
  rcases h with (h | ⟨o, h⟩) | ⟨o, its, n, h, c, _⟩
  · exact .base (.lst h)
  · exact .base (.frz h)
  · exact .kList h c
theorem tyX_T {K : PySem.W.Frag} {H : Hp} {a : Addr} {xs : List V} (h : SqT K H a xs) : TyX K H (.ref a) (.type "tuple") := by
  rcases h with (h | ⟨o, h⟩) | ⟨o, its, n, h, c, _⟩
  · exact .base (.tup h)
  · exact .fTuple h
  · exact .kTuple h c
section
variable {X : Cx} {H : Hp} {Q : VK}
def types : List String := ["int", "bool", "str", "tuple", "list", "dict"]
theorem kitAll : ∀ t ∈ "NoneType" :: types, ∀ n ∈ types, kitB t n = some (t == n || (t == "bool" && n == "int")) := by decide +kernel
theorem kitD (K : PySem.W.Frag) (d : PyData) (n : String) (h : n ∈ types) : PySem.W.kitOne K (.type (tyD d)) (.type n) = some (isaD d n) := by
  refine kit_ty (kitAll _ ?_ n h)
  cases d <;> simp [tyD, types]
theorem tyX_D {K : PySem.W.Frag} {x : V} {d : PyData} (h : Dp K H x d) : TyX K H x (.type (tyD d)) := by
  cases h with
  | non => exact .base .non
  | bl b => exact .base (.bl b)
  | int i => exact .base (.int i)
  | str z => exact .base (.str z)
  | lst s _ => exact tyX_L s
  | tup s _ => exact tyX_T s
theorem c_is : CallR X (.builtin "isinstance") (qIs X.K) := by
  intro pins s σ H xs us Q I r h
  obtain ⟨x, d, n, rfl, hd, hn, q⟩ := h
  exact call_isi pins s σ H _ us Q I r ⟨x, _, _, _, _, rfl, .ty n, tyX_D hd, kitD X.K d n hn, q⟩
theorem r_isT {K : PySem.W.Frag} {x : V} {d : PyData} {n : String} (h : Dp K H x d) (e : isaD d n = true) (hn : n ∈ types) (q : Q (.bl true) H) : qIs K [x, .ty n] H Q := ⟨x, d, n, rfl, h, hn, by rw [e]; exact q⟩
theorem r_isF {K : PySem.W.Frag} {x : V} {d : PyData} {n : String} (h : Dp K H x d) (e : isaD d n = false) (hn : n ∈ types) (q : Q (.bl false) H) : qIs K [x, .ty n] H Q := ⟨x, d, n, rfl, h, hn, by rw [e]; exact q⟩
end
end Aw

/-! texts with a bound; data that may be shown -/
namespace Aw
open PySem PySem.Spec L2

/-- a text of at most n signs -/
structure Sok (x : Str) (n : Nat) : Prop where
  ok : PyData.strOk x = true
  len : x.length ≤ n
theorem Sok.app {x y : Str} {m n : Nat} (a : Sok x m) (b : Sok y n) : Sok (x ++ y) (m + n) := by
  refine ⟨?_, ?_⟩
  · have h1 := a.ok
    have h2 := b.ok
    unfold PyData.strOk at *
    rw [Str.cps_append, Array.all_append, h1, h2]
    rfl
  · rw [Str.length_append]
    have := a.len
    have := b.len
    omega
theorem Sok.mono {x : Str} {m n : Nat} (a : Sok x m) (h : m ≤ n) : Sok x n := ⟨a.ok, Nat.le_trans a.len h⟩
theorem Sok.line {x : Str} {m : Nat} (a : Sok x m) (h : m ≤ 16777216) : x.length ≤ sizeLine := by
  rw [sizeLine_eq]
  exact Nat.le_trans a.len h
theorem Sok.lit {x : Str} {n : Nat} (h : (PyData.strOk x && decide (x.length ≤ n)) = true) : Sok x n := by
  rw [Bool.and_eq_true, decide_eq_true_eq] at h
  exact ⟨h.1, h.2⟩
theorem Sok.repr {x : Str} {n : Nat} (a : Sok x n) : (reprText x).length ≤ 10 * n + 2 := by
  have h := PySem.StrLaws.reprText_len x (fun c hc => by
    have q := a.ok
    unfold PyData.strOk at q
    rw [Array.all_eq_true_iff_forall_mem] at q
    have := of_decide_eq_true (q c (Array.mem_def.mpr hc))
    omega)
  have := a.len
  omega
/-- small ints as texts -/
theorem Sok.num : ∀ i : Int, -99 ≤ i → i ≤ 99 → Sok (Str.ofString (toString i)) 3 := by
  have h : ∀ n : Fin 199, (PyData.strOk (Str.ofString (toString ((n.val : Int) - 99))) && decide ((Str.ofString (toString ((n.val : Int) - 99))).length ≤ 3)) = true := by
    decide +kernel
  intro i h1 h2
  have q := h ⟨(i + 99).toNat, by omega⟩
  have e : (((i + 99).toNat : Nat) : Int) - 99 = i := by omega
  simp only [e] at q
  exact Sok.lit q

theorem log2_small {i : Int} (h1 : -(2 ^ 64) < i) (h2 : i < 2 ^ 64) : i.natAbs.log2 < 1920 := by
  by_cases h : i.natAbs = 0
  · rw [h]
    decide
  · exact Nat.lt_of_lt_of_le ((Nat.log2_lt h).mpr (show i.natAbs < 2 ^ 64 by omega)) (by decide)
/-! ### data that is shown -/
structure Shw (d : PyData) (k n : Nat) : Prop where
  sh : d.showable = true
  nd : d.hasDict = false
  dep : d.depth ≤ k
  len : d.shown.length ≤ n
theorem Shw.mono {d : PyData} {k n k' n' : Nat} (h : Shw d k n) (hk : k ≤ k') (hn : n ≤ n') : Shw d k' n' := ⟨h.sh, h.nd, Nat.le_trans h.dep hk, Nat.le_trans h.len hn⟩
theorem Shw.str {x : Str} {m k : Nat} (h : Sok x m) : Shw (.str x) k (10 * m + 2) :=
  ⟨by rw [PyData.showable], by rw [PyData.hasDict], by rw [PyData.depth]; exact Nat.zero_le _, by rw [PyData.shown]; exact h.repr⟩
theorem Shw.non {k : Nat} : Shw .none k 4 :=
  ⟨by rw [PyData.showable], by rw [PyData.hasDict], by rw [PyData.depth]; exact Nat.zero_le _, by rw [PyData.shown]; decide +kernel⟩
theorem Shw.bool {b : Bool} {k : Nat} : Shw (.bool b) k 5 :=
  ⟨by rw [PyData.showable], by rw [PyData.hasDict], by rw [PyData.depth]; exact Nat.zero_le _, by rw [PyData.shown]; cases b <;> decide +kernel⟩
theorem shownAll_len {ds : List PyData} {k n : Nat} (h : ∀ d ∈ ds, Shw d k n) : PyData.showableAll ds = true ∧ PyData.hasDictAll ds = false ∧ PyData.depthAll ds ≤ k ∧ (PyData.shownAll ds).length = ds.length ∧
    ((PyData.shownAll ds).map (·.length)).sum ≤ ds.length * n := by
  induction ds with
  | nil => exact ⟨by rw [PyData.showableAll], by rw [PyData.hasDictAll], by rw [PyData.depthAll]; exact Nat.zero_le _, by rw [PyData.shownAll]; rfl, by rw [PyData.shownAll]; exact Nat.zero_le _⟩
  | cons d r ih =>
    obtain ⟨a1, a2, a3, a4, a5⟩ := ih fun d hd => h d (List.mem_cons_of_mem _ hd)
    have q := h d (List.mem_cons_self ..)
    refine ⟨by rw [PyData.showableAll, q.sh, a1]; rfl, by rw [PyData.hasDictAll, q.nd, a2]; rfl, by rw [PyData.depthAll]; exact Nat.max_le.mpr ⟨q.dep, a3⟩, by rw [PyData.shownAll, List.length_cons, List.length_cons, a4], ?_⟩
    have := q.len
    rw [PyData.shownAll, List.map_cons, List.sum_cons, List.length_cons, Nat.add_mul, Nat.one_mul]
    omega
theorem Shw.list {ds : List PyData} {k n : Nat} (h : ∀ d ∈ ds, Shw d k n) : Shw (.list ds) (k + 1) (ds.length * (n + 2) + 3) := by
  obtain ⟨a1, a2, a3, a4, a5⟩ := shownAll_len h
  refine ⟨by rw [PyData.showable]; exact a1, by rw [PyData.hasDict]; exact a2, by rw [PyData.depth]; omega, ?_⟩
  rw [PyData.shown]
  have q := listText_len_le (PyData.shownAll ds)
  rw [a4] at q
  rw [Nat.mul_add]
  omega
theorem Shw.tup {ds : List PyData} {k n : Nat} (h : ∀ d ∈ ds, Shw d k n) : Shw (.tuple ds) (k + 1) (ds.length * (n + 2) + 3) := by
  obtain ⟨a1, a2, a3, a4, a5⟩ := shownAll_len h
  refine ⟨by rw [PyData.showable]; exact a1, by rw [PyData.hasDict]; exact a2, by rw [PyData.depth]; omega, ?_⟩
  rw [PyData.shown]
  have q := tupleText_len_le (PyData.shownAll ds)
  rw [a4] at q
  rw [Nat.mul_add]
  omega
theorem r_repr {K : PySem.W.Frag} {H : Hp} {Q : VK} {a : Addr} {d : PyData} {k n : Nat} (h : Dp K H (.ref a) d) (s : Shw d k n) (hk : k ≤ 100) (hn : n ≤ 16777216) (q : Q (.str d.shown) H) : qRepr K [.ref a] H Q :=
  ⟨a, d, rfl, h, s.sh, s.nd, Nat.le_trans s.dep hk, by rw [sizeLine_eq]; exact Nat.le_trans s.len hn, q⟩

/-! ### rows of data -/
structure DtL (K : PySem.W.Frag) (H : Hp) (vs : List V) (ds : List PyData) : Prop where
  len : vs.length = ds.length
  all : ∀ (i : Nat) (v : V) (d : PyData), vs[i]? = some v → ds[i]? = some d → Dt K H v d
theorem DtL.nil {K : PySem.W.Frag} {H : Hp} : DtL K H [] [] := ⟨rfl, fun i v d e => by simp at e⟩
theorem DtL.kp {K : PySem.W.Frag} {M : List Addr} {H H1 : Hp} {vs : List V} {ds : List PyData} (h : DtL K H vs ds) (a : Kp M H H1) : DtL K H1 vs ds := ⟨h.len, fun i v d e e' => (h.all i v d e e').kp a⟩
theorem DtL.snoc {K : PySem.W.Frag} {H : Hp} {vs : List V} {ds : List PyData} {v : V} {d : PyData} (h : DtL K H vs ds) (hv : Dt K H v d) : DtL K H (vs ++ [v]) (ds ++ [d]) := by
  refine ⟨by rw [List.length_append, List.length_append, h.len]; rfl, fun i u e q q' => ?_⟩
  by_cases hi : i < vs.length
  · rw [List.getElem?_append_left hi] at q
    rw [List.getElem?_append_left (by rw [← h.len]; exact hi)] at q'
    exact h.all i u e q q'
  · rw [List.getElem?_append_right (by omega)] at q
    rw [List.getElem?_append_right (by rw [← h.len]; omega), ← h.len] at q'
    have hlt := (List.getElem?_eq_some_iff.mp q).1
    rw [List.length_singleton] at hlt
    obtain h0 : i - vs.length = 0 := by omega
    rw [h0] at q q'
    cases q
    cases q'
    exact hv
theorem DtL.cons {K : PySem.W.Frag} {H : Hp} {vs : List V} {ds : List PyData} {v : V} {d : PyData} (hv : Dt K H v d) (h : DtL K H vs ds) : DtL K H (v :: vs) (d :: ds) := by
  refine ⟨by rw [List.length_cons, List.length_cons, h.len], fun i u e q q' => ?_⟩
  cases i with
  | zero =>
    cases q
    cases q'
    exact hv
  | succ i => exact h.all i u e (by simpa using q) (by simpa using q')
theorem DtL.tup {K : PySem.W.Frag} {H : Hp} {vs : List V} {ds : List PyData} {a : Addr} (h : DtL K H vs ds) (e : H a = some (.tup vs)) : Dt K H (.ref a) (.tuple ds) := .tup (SqT.of e) h.len h.all

/-! ### data taken apart and put together -/
section
variable {K : PySem.W.Frag} {H : Hp} {v : V}
theorem Dt.isInt {i : Int} (h : Dt K H v (.int i)) : v = .int i := by cases h; rfl
theorem Dt.isStr {x : Str} (h : Dt K H v (.str x)) : v = .str x := by cases h; rfl
theorem Dt.isNone (h : Dt K H v .none) : v = .non := by cases h; rfl
theorem Dt.isTup {ds : List PyData} (h : Dt K H v (.tuple ds)) : ∃ (a : Addr) (xs : List V), v = .ref a ∧ SqT K H a xs ∧ xs.length = ds.length ∧
    ∀ (i : Nat) (v : V) (d : PyData), xs[i]? = some v → ds[i]? = some d → Dt K H v d := by
  cases h with
  | tup s l q => exact ⟨_, _, rfl, s, l, q⟩
theorem Dt.is0 (h : Dt K H v (.tuple [])) : ∃ a : Addr, v = .ref a ∧ SqT K H a [] := by
  obtain ⟨a, xs, rfl, s, l, q⟩ := h.isTup
  obtain rfl : xs = [] := List.length_eq_zero_iff.mp l
  exact ⟨a, rfl, s⟩
theorem Dt.is1 {d : PyData} (h : Dt K H v (.tuple [d])) : ∃ (a : Addr) (x : V), v = .ref a ∧ SqT K H a [x] ∧ Dt K H x d := by
  obtain ⟨a, xs, rfl, s, l, q⟩ := h.isTup
  match xs, l, s, q with
  | [x], _, s, q => exact ⟨a, x, rfl, s, q 0 x d rfl rfl⟩
theorem Dt.is2 {d e : PyData} (h : Dt K H v (.tuple [d, e])) : ∃ (a : Addr) (x y : V), v = .ref a ∧ SqT K H a [x, y] ∧ Dt K H x d ∧ Dt K H y e := by
  obtain ⟨a, xs, rfl, s, l, q⟩ := h.isTup
  match xs, l, s, q with
  | [x, y], _, s, q => exact ⟨a, x, y, rfl, s, q 0 x d rfl rfl, q 1 y e rfl rfl⟩
theorem Dt.is3 {d e f : PyData} (h : Dt K H v (.tuple [d, e, f])) : ∃ (a : Addr) (x y z : V), v = .ref a ∧ SqT K H a [x, y, z] ∧ Dt K H x d ∧ Dt K H y e ∧ Dt K H z f := by
  obtain ⟨a, xs, rfl, s, l, q⟩ := h.isTup
  match xs, l, s, q with
  | [x, y, z], _, s, q => exact ⟨a, x, y, z, rfl, s, q 0 x d rfl rfl, q 1 y e rfl rfl, q 2 z f rfl rfl⟩
theorem Dt.is4 {d e f g : PyData} (h : Dt K H v (.tuple [d, e, f, g])) : ∃ (a : Addr) (x y z u : V), v = .ref a ∧ SqT K H a [x, y, z, u] ∧ Dt K H x d ∧ Dt K H y e ∧ Dt K H z f ∧ Dt K H u g := by
  obtain ⟨a, xs, rfl, s, l, q⟩ := h.isTup
  match xs, l, s, q with
  | [x, y, z, u], _, s, q => exact ⟨a, x, y, z, u, rfl, s, q 0 x d rfl rfl, q 1 y e rfl rfl, q 2 z f rfl rfl, q 3 u g rfl rfl⟩
theorem Dt.mk0 {a : Addr} (h : H a = some (.tup [])) : Dt K H (.ref a) (.tuple []) := .tup (SqT.of h) rfl fun i v d e => by simp at e
theorem Dt.mk1 {a : Addr} {x : V} {d : PyData} (h : H a = some (.tup [x])) (h0 : Dt K H x d) : Dt K H (.ref a) (.tuple [d]) :=
  .tup (SqT.of h) rfl fun i v d' e e' => by
    match i, e, e' with
    | 0, e, e' => cases e; cases e'; exact h0
theorem Dt.mk2 {a : Addr} {x y : V} {d e : PyData} (h : H a = some (.tup [x, y])) (h0 : Dt K H x d) (h1 : Dt K H y e) : Dt K H (.ref a) (.tuple [d, e]) :=
  .tup (SqT.of h) rfl fun i v d' e e' => by
    match i, e, e' with
    | 0, e, e' => cases e; cases e'; exact h0
    | 1, e, e' => cases e; cases e'; exact h1
theorem Dt.mk3 {a : Addr} {x y z : V} {d e f : PyData} (h : H a = some (.tup [x, y, z])) (h0 : Dt K H x d) (h1 : Dt K H y e) (h2 : Dt K H z f) : Dt K H (.ref a) (.tuple [d, e, f]) :=
  .tup (SqT.of h) rfl fun i v d' e e' => by
    match i, e, e' with
    | 0, e, e' => cases e; cases e'; exact h0
    | 1, e, e' => cases e; cases e'; exact h1
    | 2, e, e' => cases e; cases e'; exact h2
theorem Dt.mk4 {a : Addr} {x y z u : V} {d e f g : PyData} (h : H a = some (.tup [x, y, z, u])) (h0 : Dt K H x d) (h1 : Dt K H y e) (h2 : Dt K H z f) (h3 : Dt K H u g) : Dt K H (.ref a) (.tuple [d, e, f, g]) :=
  .tup (SqT.of h) rfl fun i v d' e e' => by
    match i, e, e' with
    | 0, e, e' => cases e; cases e'; exact h0
    | 1, e, e' => cases e; cases e'; exact h1
    | 2, e, e' => cases e; cases e'; exact h2
    | 3, e, e' => cases e; cases e'; exact h3
end
end Aw

/-! k01: programs as trees, their texts, the promises -/
namespace Aw
open PySem PySem.Spec L2

/-! ### expressions -/
inductive Ex where
  | int (i : Int)
  | name (x : Str)
  | bin (o : Str) (a b : Ex)
def opSign (o : Str) : Str := if o = "plus" then " + " else if o = "minus" then " - " else " * "
def Ex.d : Ex → PyData
  | .int i => .int i
  | .name x => .str x
  | .bin o a b => .tuple [.str o, a.d, b.d]
def Ex.text : Ex → Str
  | .int i => Str.ofString (toString i)
  | .name x => x
  | .bin o a b => "(" ++ a.text ++ opSign o ++ b.text ++ ")"
def IsOp (o : Str) : Prop := o = "plus" ∨ o = "minus" ∨ o = "times"
def Ex.ok : Nat → Ex → Prop
  | 0, _ => False
  | _ + 1, .int i => -99 ≤ i ∧ i ≤ 99
  | _ + 1, .name x => Sok x 8
  | n + 1, .bin o a b => IsOp o ∧ a.ok n ∧ b.ok n
theorem Ex.ok.succ : ∀ {n : Nat} {e : Ex}, e.ok n → e.ok (n + 1)
  | 0, _, h => h.elim
  | _ + 1, .int _, h => h
  | _ + 1, .name _, h => h
  | _ + 1, .bin _ _ _, h => ⟨h.1, h.2.1.succ, h.2.2.succ⟩
theorem Ex.ok.mono {m n : Nat} {e : Ex} (h : e.ok m) (q : m ≤ n) : e.ok n := by
  induction q with
  | refl => exact h
  | step _ ih => exact ih.succ
theorem opSign_ok {o : Str} (h : IsOp o) : Sok (opSign o) 3 := by
  rcases h with rfl | rfl | rfl <;> exact Sok.lit (by decide +kernel)
theorem IsOp.sok {o : Str} (h : IsOp o) : Sok o 5 := by
  rcases h with rfl | rfl | rfl <;> exact Sok.lit (by decide +kernel)
def eLen : Nat → Nat
  | 0 => 0
  | n + 1 => 2 * eLen n + 8
theorem Ex.ok.sok : ∀ {n : Nat} {e : Ex}, e.ok n → Sok e.text (eLen n)
  | 0, _, h => h.elim
  | n + 1, .int i, h => (Sok.num i h.1 h.2).mono (by unfold eLen; omega)
  | n + 1, .name x, h => Sok.mono h (by unfold eLen; omega)
  | n + 1, .bin o a b, h => by
    have h1 := h.2.1.sok
    have h2 := h.2.2.sok
    have l : Sok ("(" : Str) 1 := Sok.lit (by decide +kernel)
    have r : Sok (")" : Str) 1 := Sok.lit (by decide +kernel)
    exact ((((l.app h1).app (opSign_ok h.1)).app h2).app r).mono (by show 1 + eLen n + 3 + eLen n + 1 ≤ 2 * eLen n + 8; omega)

/-! ### tests -/
inductive Ts where
  | not (t : Ts)
  | given (x : Str)
  | rest (e : Ex) (b r : Int)
  | less (a b : Ex)
def Ts.d : Ts → PyData
  | .not t => .tuple [.str "not", t.d]
  | .given x => .tuple [.str "given", .str x]
  | .rest e b r => .tuple [.str "rest", e.d, .int b, .int r]
  | .less a b => .tuple [.str "less", a.d, b.d]
def numT (i : Int) : Str := Str.ofString (toString i)
def Ts.text : Ts → Str
  | .not t => "not " ++ t.text
  | .given x => "set " ++ x
  | .rest e b r => "rest " ++ numT r ++ " of " ++ numT b ++ " " ++ e.text
  | .less a b => a.text ++ " < " ++ b.text
def Ts.ok : Nat → Ts → Prop
  | 0, .not _ => False
  | n + 1, .not t => t.ok n
  | _, .given x => Sok x 8
  | _, .rest e b r => e.ok 3 ∧ 0 ≤ b ∧ b ≤ 99 ∧ 0 ≤ r ∧ r ≤ 99
  | _, .less a b => a.ok 3 ∧ b.ok 3
theorem Ts.ok.sok : ∀ {n : Nat} {t : Ts}, t.ok n → Sok t.text (4 * n + 200)
  | n + 1, .not t, h => by
    have q := Ts.ok.sok (n := n) (t := t) h
    have l : Sok ("not " : Str) 4 := Sok.lit (by decide +kernel)
    exact (l.app q).mono (by omega)
  | n, .given x, h => by
    have q : Sok x 8 := by cases n <;> exact h
    have l : Sok ("set " : Str) 4 := Sok.lit (by decide +kernel)
    exact (l.app q).mono (by omega)
  | n, .rest e b r, h => by
    have q : e.ok 3 ∧ 0 ≤ b ∧ b ≤ 99 ∧ 0 ≤ r ∧ r ≤ 99 := by cases n <;> exact h
    obtain ⟨q, b0, b1, r0, r1⟩ := q
    have l : Sok ("rest " : Str) 5 := Sok.lit (by decide +kernel)
    have m : Sok (" of " : Str) 4 := Sok.lit (by decide +kernel)
    have s : Sok (" " : Str) 1 := Sok.lit (by decide +kernel)
    exact (((((l.app (Sok.num r (by omega) r1)).app m).app (Sok.num b (by omega) b1)).app s).app q.sok).mono (by show 5 + 3 + 4 + 3 + 1 + 56 ≤ _; omega)
  | n, .less a b, h => by
    have q : a.ok 3 ∧ b.ok 3 := by cases n <;> exact h
    have m : Sok (" < " : Str) 3 := Sok.lit (by decide +kernel)
    exact ((q.1.sok.app m).app q.2.sok).mono (by show 56 + 3 + 56 ≤ _; omega)

/-! ### statements -/
inductive Pl where
  | set (x : Str) (e : Ex)
  | unset (x : Str)
  | tell (e : Ex)
  | say (w : Str)
  | stop (w : Str)
def Pl.d : Pl → PyData
  | .set x e => .tuple [.str "set", .str x, e.d]
  | .unset x => .tuple [.str "unset", .str x]
  | .tell e => .tuple [.str "tell", e.d]
  | .say w => .tuple [.str "say", .str w]
  | .stop w => .tuple [.str "stop", .str w]
def Pl.text : Pl → Str
  | .set x e => "set " ++ x ++ " " ++ e.text
  | .unset x => "unset" ++ " " ++ x
  | .tell e => "tell " ++ e.text
  | .say w => "say" ++ " " ++ w
  | .stop w => "stop" ++ " " ++ w
def Pl.ok : Pl → Prop
  | .set x e => Sok x 8 ∧ e.ok 3
  | .unset x => Sok x 8
  | .tell e => e.ok 3
  | .say w => Sok w 8
  | .stop w => Sok w 8
theorem Pl.ok.sok {s : Pl} (h : s.ok) : Sok s.text 100 := by
  have sp : Sok (" " : Str) 1 := Sok.lit (by decide +kernel)
  cases s with
  | set x e =>
    have l : Sok ("set " : Str) 4 := Sok.lit (by decide +kernel)
    exact (((l.app h.1).app sp).app h.2.sok).mono (by show 4 + 8 + 1 + 56 ≤ _; omega)
  | unset x =>
    have l : Sok ("unset" : Str) 5 := Sok.lit (by decide +kernel)
    exact ((l.app sp).app h).mono (by omega)
  | tell e =>
    have l : Sok ("tell " : Str) 5 := Sok.lit (by decide +kernel)
    exact (l.app (Ex.ok.sok h)).mono (by show 5 + 56 ≤ _; omega)
  | say w =>
    have l : Sok ("say" : Str) 3 := Sok.lit (by decide +kernel)
    exact ((l.app sp).app h).mono (by omega)
  | stop w =>
    have l : Sok ("stop" : Str) 4 := Sok.lit (by decide +kernel)
    exact ((l.app sp).app h).mono (by omega)

inductive Sm where
  | pl (s : Pl)
  | ifs (t : Ts) (y n : List Sm)
  | rep (k : Int) (b : List Sm)
mutual
def Sm.d : Sm → PyData
  | .pl s => s.d
  | .ifs t y n => .tuple [.str "if", t.d, .tuple (Sm.ds y), .tuple (Sm.ds n)]
  | .rep k b => .tuple [.str "repeat", .int k, .tuple (Sm.ds b)]
def Sm.ds : List Sm → List PyData
  | [] => []
  | s :: r => s.d :: Sm.ds r
end
theorem Sm.ds_map : ∀ b : List Sm, Sm.ds b = b.map Sm.d
  | [] => rfl
  | s :: r => by rw [Sm.ds, Sm.ds_map r, List.map_cons]
def Sm.line : Sm → Str
  | .pl s => s.text
  | .ifs t _ _ => "if " ++ t.text
  | .rep k _ => "repeat" ++ " " ++ numT k
mutual
def Sm.lines (ah : Str) : Sm → List Str
  | .pl s => [ah ++ s.text]
  | .ifs t y n => (ah ++ ("if " ++ t.text)) :: ((if y.isEmpty then [ah ++ "  " ++ "pass"] else Sm.all (ah ++ "  ") y) ++
      (if n.isEmpty then [] else (ah ++ "else") :: Sm.all (ah ++ "  ") n))
  | .rep k b => (ah ++ ("repeat" ++ " " ++ numT k)) :: (if b.isEmpty then [ah ++ "  " ++ "pass"] else Sm.all (ah ++ "  ") b)
def Sm.all (ah : Str) : List Sm → List Str
  | [] => []
  | s :: r => Sm.lines ah s ++ Sm.all ah r
end
theorem Sm.all_flat (ah : Str) : ∀ b : List Sm, Sm.all ah b = b.flatMap (Sm.lines ah)
  | [] => by rw [Sm.all, List.flatMap_nil]
  | s :: r => by rw [Sm.all, Sm.all_flat ah r, List.flatMap_cons]
def Sm.part (ah : Str) (b : List Sm) : List Str := if b.isEmpty then [ah ++ "pass"] else Sm.all ah b
mutual
def Sm.size : Sm → Nat
  | .pl _ => 1
  | .ifs _ y n => 1 + Sm.sizes y + Sm.sizes n
  | .rep _ b => 1 + Sm.sizes b
def Sm.sizes : List Sm → Nat
  | [] => 0
  | s :: r => Sm.size s + Sm.sizes r
end
theorem Sm.sizes_app : ∀ a b : List Sm, Sm.sizes (a ++ b) = Sm.sizes a + Sm.sizes b
  | [], b => by rw [List.nil_append, Sm.sizes, Nat.zero_add]
  | s :: r, b => by rw [List.cons_append, Sm.sizes, Sm.sizes, Sm.sizes_app r b, Nat.add_assoc]
theorem Sm.size_pos (s : Sm) : 1 ≤ s.size := by cases s <;> (rw [Sm.size]; omega)
theorem Sm.sizes_mem {s : Sm} : ∀ {b : List Sm}, s ∈ b → s.size ≤ Sm.sizes b
  | _ :: r, .head _ => by rw [Sm.sizes]; omega
  | _ :: r, .tail _ h => by have := Sm.sizes_mem h; rw [Sm.sizes]; omega
def Sm.ok : Nat → Sm → Prop
  | _, .pl s => s.ok
  | 0, .ifs _ _ _ => False
  | 0, .rep _ _ => False
  | n + 1, .ifs t y z => t.ok 2 ∧ (∀ s ∈ y, Sm.ok n s) ∧ (∀ s ∈ z, Sm.ok n s)
  | n + 1, .rep k b => 0 ≤ k ∧ k ≤ 8 ∧ ∀ s ∈ b, Sm.ok n s
theorem Sm.ok.line {n : Nat} {s : Sm} (h : s.ok n) : Sok s.line 300 := by
  have sp : Sok (" " : Str) 1 := Sok.lit (by decide +kernel)
  cases s with
  | pl s =>
    have q : s.ok := by cases n <;> exact h
    exact q.sok.mono (by omega)
  | ifs t y z =>
    cases n with
    | zero => exact h.elim
    | succ n =>
      have l : Sok ("if " : Str) 3 := Sok.lit (by decide +kernel)
      exact (l.app h.1.sok).mono (by omega)
  | rep k b =>
    cases n with
    | zero => exact h.elim
    | succ n =>
      have l : Sok ("repeat" : Str) 6 := Sok.lit (by decide +kernel)
      exact ((l.app sp).app (Sok.num k (by have := h.1; omega) (by have := h.2.1; omega))).mono (by omega)

/-- the lines of a block: how many, how long -/
theorem Sm.lines_ok : ∀ (n : Nat) (s : Sm) (ah : Str) (m : Nat), s.ok n → Sok ah m →
    (Sm.lines ah s).length ≤ 3 * s.size ∧ ∀ z ∈ Sm.lines ah s, Sok z (m + 2 * n + 310) := by
  intro n
  induction n with
  | zero =>
    intro s ah m h ha
    cases s with
    | pl s =>
      rw [Sm.lines]
      refine ⟨by simp [Sm.size], fun z hz => ?_⟩
      rw [List.mem_singleton.mp hz]
      exact (ha.app (Sm.ok.line (n := 0) (s := .pl s) h)).mono (by omega)
    | ifs t y z => exact h.elim
    | rep k b => exact h.elim
  | succ n ih =>
    intro s ah m h ha
    have two : Sok ("  " : Str) 2 := Sok.lit (by decide +kernel)
    have ps : Sok ("pass" : Str) 4 := Sok.lit (by decide +kernel)
    have el : Sok ("else" : Str) 4 := Sok.lit (by decide +kernel)
    have hl := Sm.ok.line h
    have alls : ∀ b : List Sm, (∀ s ∈ b, Sm.ok n s) → (Sm.all (ah ++ "  ") b).length ≤ 3 * Sm.sizes b ∧
        ∀ z ∈ Sm.all (ah ++ "  ") b, Sok z (m + 2 * (n + 1) + 310) := by
      intro b
      induction b with
      | nil =>
        intro _
        rw [Sm.all]
        exact ⟨Nat.zero_le _, fun z hz => nomatch hz⟩
      | cons s r ihr =>
        intro hb
        obtain ⟨h1, h2⟩ := ih s (ah ++ "  ") (m + 2) (hb s (List.mem_cons_self ..)) (ha.app two)
        obtain ⟨h3, h4⟩ := ihr fun s hs => hb s (List.mem_cons_of_mem _ hs)
        rw [Sm.all, Sm.sizes, List.length_append]
        refine ⟨by omega, fun z hz => ?_⟩
        rcases List.mem_append.mp hz with hz | hz
        · exact (h2 z hz).mono (by omega)
        · exact h4 z hz
    have part : ∀ b : List Sm, (∀ s ∈ b, Sm.ok n s) → (if b.isEmpty then [ah ++ "  " ++ "pass"] else Sm.all (ah ++ "  ") b).length ≤ 3 * Sm.sizes b + 1 ∧
        ∀ z ∈ (if b.isEmpty then [ah ++ "  " ++ "pass"] else Sm.all (ah ++ "  ") b), Sok z (m + 2 * (n + 1) + 310) := by
      intro b hb
      cases b with
      | nil =>
        refine ⟨by simp, fun z hz => ?_⟩
        rw [List.mem_singleton.mp hz]
        exact ((ha.app two).app ps).mono (by omega)
      | cons s r =>
        obtain ⟨h1, h2⟩ := alls _ hb
        exact ⟨Nat.le_succ_of_le h1, h2⟩
    cases s with
    | pl s =>
      rw [Sm.lines]
      refine ⟨by simp [Sm.size], fun z hz => ?_⟩
      rw [List.mem_singleton.mp hz]
      exact (ha.app hl).mono (by omega)
    | ifs t y z =>
      obtain ⟨p1, p2⟩ := part y h.2.1
      obtain ⟨q1, q2⟩ := alls z h.2.2
      have e2 : (if z.isEmpty then [] else (ah ++ "else") :: Sm.all (ah ++ "  ") z).length ≤ 3 * Sm.sizes z + 1 := by
        split
        · exact Nat.zero_le _
        · rw [List.length_cons]
          omega
      rw [Sm.lines, Sm.size, List.length_cons, List.length_append]
      refine ⟨by omega, fun u hu => ?_⟩
      rcases List.mem_cons.mp hu with rfl | hu
      · exact (ha.app hl).mono (by omega)
      rcases List.mem_append.mp hu with hu | hu
      · exact p2 u hu
      · split at hu
        · cases hu
        · rcases List.mem_cons.mp hu with rfl | hu
          · exact (ha.app el).mono (by omega)
          · exact q2 u hu
    | rep k b =>
      obtain ⟨p1, p2⟩ := part b h.2.2
      rw [Sm.lines, Sm.size, List.length_cons]
      refine ⟨by omega, fun u hu => ?_⟩
      rcases List.mem_cons.mp hu with rfl | hu
      · exact (ha.app hl).mono (by omega)
      · exact p2 u hu
theorem Sm.all_ok (n : Nat) (ah : Str) (m : Nat) (ha : Sok ah m) : ∀ b : List Sm, (∀ s ∈ b, Sm.ok n s) →
    (Sm.all ah b).length ≤ 3 * Sm.sizes b ∧ ∀ z ∈ Sm.all ah b, Sok z (m + 2 * n + 310)
  | [], _ => by
    rw [Sm.all]
    exact ⟨Nat.zero_le _, fun z hz => nomatch hz⟩
  | s :: r, hb => by
    obtain ⟨h1, h2⟩ := Sm.lines_ok n s ah m (hb s (List.mem_cons_self ..)) ha
    obtain ⟨h3, h4⟩ := Sm.all_ok n ah m ha r fun s hs => hb s (List.mem_cons_of_mem _ hs)
    rw [Sm.all, Sm.sizes, List.length_append]
    refine ⟨by omega, fun z hz => ?_⟩
    rcases List.mem_append.mp hz with hz | hz
    · exact h2 z hz
    · exact h4 z hz
/-! ### what may be compared: data of bounded depth -/
theorem depth_tup {ds : List PyData} {n : Nat} (h : ∀ d ∈ ds, d.depth ≤ n) : (PyData.tuple ds).depth ≤ n + 1 := by
  have q : PyData.depthAll ds ≤ n := by
    induction ds with
    | nil => exact Nat.zero_le _
    | cons d r ih =>
      rw [PyData.depthAll]
      exact Nat.max_le.mpr ⟨h d (List.mem_cons_self ..), ih fun d hd => h d (List.mem_cons_of_mem _ hd)⟩
  rw [PyData.depth]
  omega
theorem lay_tup {ds : List PyData} (h : ∀ d ∈ ds, d.canLay0 = true) : (PyData.tuple ds).canLay0 = true := by
  rw [PyData.canLay0]
  induction ds with
  | nil => rfl
  | cons d r ih =>
    rw [PyData.canLayAll0, h d (List.mem_cons_self ..), ih fun d hd => h d (List.mem_cons_of_mem _ hd)]
    rfl
/-- data that may be compared -/
structure Cmp (d : PyData) (n : Nat) : Prop where
  lay : d.canLay0 = true
  dep : d.depth ≤ n
theorem Cmp.tup {ds : List PyData} {n : Nat} (h : ∀ d ∈ ds, Cmp d n) : Cmp (.tuple ds) (n + 1) :=
  ⟨lay_tup fun d hd => (h d hd).lay, depth_tup fun d hd => (h d hd).dep⟩
theorem Cmp.mono {d : PyData} {m n : Nat} (h : Cmp d m) (q : m ≤ n) : Cmp d n := ⟨h.lay, Nat.le_trans h.dep q⟩
theorem Cmp.str {x : Str} {k n : Nat} (h : Sok x k) : Cmp (.str x) n := ⟨by rw [PyData.canLay0]; exact h.ok, by rw [PyData.depth]; exact Nat.zero_le _⟩
theorem Cmp.int {i : Int} {n : Nat} : Cmp (.int i) n := ⟨by rw [PyData.canLay0], by rw [PyData.depth]; exact Nat.zero_le _⟩
theorem Cmp.shaped {d : PyData} {n : Nat} (h : Cmp d n) (q : n ≤ 64) : SeqAt.shaped d = true := by
  unfold SeqAt.shaped
  rw [h.lay, decide_eq_true (Nat.le_trans h.dep q)]
  rfl
theorem Cmp.nil {n : Nat} : Cmp (.tuple []) (n + 1) := Cmp.tup fun _ h => nomatch h
theorem Ex.ok.cmp : ∀ {n : Nat} {e : Ex}, e.ok n → Cmp e.d n
  | 0, _, h => h.elim
  | _ + 1, .int i, h => Cmp.int
  | _ + 1, .name x, h => Cmp.str h
  | n + 1, .bin o a b, h => by
    rw [Ex.d]
    refine Cmp.tup fun d hd => ?_
    simp only [List.mem_cons, List.not_mem_nil, or_false] at hd
    rcases hd with rfl | rfl | rfl
    · exact Cmp.str h.1.sok
    · exact h.2.1.cmp
    · exact h.2.2.cmp
theorem Ts.ok.cmp : ∀ {n : Nat} {t : Ts}, t.ok n → Cmp t.d (n + 4)
  | n + 1, .not t, h => by
    have q := Ts.ok.cmp (n := n) (t := t) h
    rw [Ts.d]
    refine Cmp.mono (m := n + 4 + 1) (Cmp.tup fun d hd => ?_) (by omega)
    simp only [List.mem_cons, List.not_mem_nil, or_false] at hd
    rcases hd with rfl | rfl
    · exact Cmp.str (k := 3) (Sok.lit (by decide +kernel))
    · exact q
  | n, .given x, h => by
    have q : Sok x 8 := by cases n <;> exact h
    rw [Ts.d]
    refine Cmp.mono (m := 0 + 1) (Cmp.tup fun d hd => ?_) (by omega)
    simp only [List.mem_cons, List.not_mem_nil, or_false] at hd
    rcases hd with rfl | rfl
    · exact Cmp.str (k := 5) (Sok.lit (by decide +kernel))
    · exact Cmp.str q
  | n, .rest e b r, h => by
    have q : e.ok 3 ∧ 0 ≤ b ∧ b ≤ 99 ∧ 0 ≤ r ∧ r ≤ 99 := by cases n <;> exact h
    rw [Ts.d]
    refine Cmp.mono (m := 3 + 1) (Cmp.tup fun d hd => ?_) (by omega)
    simp only [List.mem_cons, List.not_mem_nil, or_false] at hd
    rcases hd with rfl | rfl | rfl | rfl
    · exact Cmp.str (k := 4) (Sok.lit (by decide +kernel))
    · exact q.1.cmp
    · exact Cmp.int
    · exact Cmp.int
  | n, .less a b, h => by
    have q : a.ok 3 ∧ b.ok 3 := by cases n <;> exact h
    rw [Ts.d]
    refine Cmp.mono (m := 3 + 1) (Cmp.tup fun d hd => ?_) (by omega)
    simp only [List.mem_cons, List.not_mem_nil, or_false] at hd
    rcases hd with rfl | rfl | rfl
    · exact Cmp.str (k := 4) (Sok.lit (by decide +kernel))
    · exact q.1.cmp
    · exact q.2.cmp
theorem Pl.ok.cmp {s : Pl} (h : s.ok) : Cmp s.d 4 := by
  cases s <;> rw [Pl.d] <;> refine Cmp.tup fun d hd => ?_ <;> simp only [List.mem_cons, List.not_mem_nil, or_false] at hd
  · rcases hd with rfl | rfl | rfl
    · exact Cmp.str (k := 3) (Sok.lit (by decide +kernel))
    · exact Cmp.str h.1
    · exact h.2.cmp
  · rcases hd with rfl | rfl
    · exact Cmp.str (k := 5) (Sok.lit (by decide +kernel))
    · exact Cmp.str h
  · rcases hd with rfl | rfl
    · exact Cmp.str (k := 4) (Sok.lit (by decide +kernel))
    · exact Ex.ok.cmp h
  · rcases hd with rfl | rfl
    · exact Cmp.str (k := 3) (Sok.lit (by decide +kernel))
    · exact Cmp.str h
  · rcases hd with rfl | rfl
    · exact Cmp.str (k := 4) (Sok.lit (by decide +kernel))
    · exact Cmp.str h
theorem Sm.ok.cmp : ∀ (n : Nat) (s : Sm), s.ok n → Cmp s.d (2 * n + 8) := by
  intro n
  induction n with
  | zero =>
    intro s h
    cases s with
    | pl s =>
      rw [Sm.d]
      exact (Pl.ok.cmp h).mono (by omega)
    | ifs t y z => exact h.elim
    | rep k b => exact h.elim
  | succ n ih =>
    intro s h
    have all : ∀ b : List Sm, (∀ s ∈ b, Sm.ok n s) → Cmp (.tuple (Sm.ds b)) (2 * n + 9) := by
      intro b hb
      refine Cmp.tup fun d hd => ?_
      rw [Sm.ds_map] at hd
      obtain ⟨s, hs, rfl⟩ := List.mem_map.mp hd
      exact ih s (hb s hs)
    cases s with
    | pl s =>
      rw [Sm.d]
      exact (Pl.ok.cmp h).mono (by omega)
    | ifs t y z =>
      rw [Sm.d]
      refine Cmp.mono (m := 2 * n + 9 + 1) (Cmp.tup fun d hd => ?_) (by omega)
      simp only [List.mem_cons, List.not_mem_nil, or_false] at hd
      rcases hd with rfl | rfl | rfl | rfl
      · exact Cmp.str (k := 2) (Sok.lit (by decide +kernel))
      · exact h.1.cmp.mono (by omega)
      · exact all y h.2.1
      · exact all z h.2.2
    | rep k b =>
      rw [Sm.d]
      refine Cmp.mono (m := 2 * n + 9 + 1) (Cmp.tup fun d hd => ?_) (by omega)
      simp only [List.mem_cons, List.not_mem_nil, or_false] at hd
      rcases hd with rfl | rfl | rfl
      · exact Cmp.str (k := 6) (Sok.lit (by decide +kernel))
      · exact Cmp.int
      · exact all b h.2.2
theorem Sm.block_cmp {n : Nat} {b : List Sm} (h : ∀ s ∈ b, Sm.ok n s) : Cmp (.tuple (Sm.ds b)) (2 * n + 9) := by
  refine Cmp.tup fun d hd => ?_
  rw [Sm.ds_map] at hd
  obtain ⟨s, hs, rfl⟩ := List.mem_map.mp hd
  exact Sm.ok.cmp n s (h s hs)
theorem eqv_nil (ds : List PyData) : PyData.eqv (.tuple ds) (.tuple []) = ds.isEmpty := by
  cases ds with
  | nil => rfl
  | cons d r => rfl

def signK : List (Key × V) := [(.inr "plus", .str " + "), (.inr "minus", .str " - "), (.inr "times", .str " * ")]
theorem signK_get {o : Str} (h : IsOp o) : valV (mergeK [] signK) (Sum.inr o) = some (.str (opSign o)) := by
  rcases h with rfl | rfl | rfl <;> decide +kernel

def Pl.word : Pl → Str
  | .set _ _ => "set"
  | .unset _ => "unset"
  | .tell _ => "tell"
  | .say _ => "say"
  | .stop _ => "stop"
theorem Pl.head {K : PySem.W.Frag} {H : Hp} {v : V} {s : Pl} (h : Dt K H v s.d) : ∃ (p : Addr) (ys : List V), v = .ref p ∧ SqT K H p ys ∧ atI ys 0 = some (.str s.word) := by
  cases s with
  | set x e =>
    obtain ⟨p, a, b, c, rfl, hT, h1, _, _⟩ := Dt.is3 h
    obtain rfl := Dt.isStr h1
    exact ⟨p, _, rfl, hT, rfl⟩
  | unset x =>
    obtain ⟨p, a, b, rfl, hT, h1, _⟩ := Dt.is2 h
    obtain rfl := Dt.isStr h1
    exact ⟨p, _, rfl, hT, rfl⟩
  | tell e =>
    obtain ⟨p, a, b, rfl, hT, h1, _⟩ := Dt.is2 h
    obtain rfl := Dt.isStr h1
    exact ⟨p, _, rfl, hT, rfl⟩
  | say x =>
    obtain ⟨p, a, b, rfl, hT, h1, _⟩ := Dt.is2 h
    obtain rfl := Dt.isStr h1
    exact ⟨p, _, rfl, hT, rfl⟩
  | stop x =>
    obtain ⟨p, a, b, rfl, hT, h1, _⟩ := Dt.is2 h
    obtain rfl := Dt.isStr h1
    exact ⟨p, _, rfl, hT, rfl⟩
theorem Pl.word_in (s : Pl) : inV (.str s.word) [.str "if", .str "repeat"] = false := by
  cases s <;> simp only [Pl.word] <;> decide +kernel
theorem Pl.word_ne (s : Pl) : V.str s.word ≠ V.str "if" := by
  cases s <;> simp only [Pl.word] <;> decide +kernel

/-! ### the promises -/
/-- the text of an expression -/
def spExT (K : PySem.W.Frag) (n : Nat) : Sp := fun vs H Q _ => ∃ (v : V) (e : Ex), vs = [v] ∧ Dt K H v e.d ∧ e.ok n ∧
  ∀ H', Kp [] H H' → Q (.str e.text) H'
/-- the text of a test -/
def spTsT (K : PySem.W.Frag) (n : Nat) : Sp := fun vs H Q _ => ∃ (v : V) (t : Ts), vs = [v] ∧ Dt K H v t.d ∧ t.ok n ∧
  ∀ H', Kp [] H H' → Q (.str t.text) H'
/-- the line of a statement -/
def spLine (K : PySem.W.Frag) : Sp := fun vs H Q _ => ∃ (v : V) (s : Sm) (n : Nat), vs = [v] ∧ Dt K H v s.d ∧ s.ok n ∧
  ∀ H', Kp [] H H' → Q (.str s.line) H'
/-- the lines of a block -/
def spLines (K : PySem.W.Frag) (n : Nat) : Sp := fun vs H Q _ => ∃ (v : V) (b : List Sm) (ah : Str), vs = [v, .str ah] ∧ Dt K H v (.tuple (Sm.ds b)) ∧
  (∀ s ∈ b, Sm.ok n s) ∧ Sm.sizes b ≤ 100 ∧ Sok ah (20 - 2 * n) ∧ n ≤ 4 ∧
  ∀ H' p, Kp [] H H' → H p = none → H' p = some (.lst ((Sm.all ah b).map V.str)) → Q (.ref p) H'
def spPart (K : PySem.W.Frag) (n : Nat) : Sp := fun vs H Q _ => ∃ (v : V) (b : List Sm) (ah : Str), vs = [v, .str ah] ∧ Dt K H v (.tuple (Sm.ds b)) ∧
  (∀ s ∈ b, Sm.ok n s) ∧ Sm.sizes b ≤ 100 ∧ Sok ah (20 - 2 * n) ∧ n ≤ 4 ∧
  ∀ H' p, Kp [] H H' → H p = none → H' p = some (.lst ((Sm.part ah b).map V.str)) → Q (.ref p) H'
/-- the text of a program -/
def progT (b : List Sm) : Str := Txt.join "\n" ("program" :: Sm.all "" b)
def spProgT (K : PySem.W.Frag) : Sp := fun vs H Q _ => ∃ (v : V) (b : List Sm), vs = [v] ∧ Dt K H v (.tuple (Sm.ds b)) ∧
  (∀ s ∈ b, Sm.ok 4 s) ∧ Sm.sizes b ≤ 100 ∧ ∀ H', Kp [] H H' → Q (.str (progT b)) H'
theorem signs_mk {K : PySem.W.Frag} {w : World} {h : Heap} {mg : Str → Option Value} {dS : Addr} {es : Array DictEntry} {n : Nat} {t1 t2 t3 : Tok} (X : K.In h) (G : h.Ns mainGlobals mg)
    (z1 : PySem.W.nsIn K mainGlobals "SIGNS" = some (some (.ref dS))) (z2 : K.lookup dS = some ⟨.type "dict", none, .dict es n, #[]⟩)
    (z4 : PySem.W.nsIn K dS "plus" = some (some (.str " + " t1))) (z5 : PySem.W.nsIn K dS "minus" = some (some (.str " - " t2))) (z6 : PySem.W.nsIn K dS "times" = some (some (.str " * " t3)))
    (z3 : PySem.W.KeysLit w.params es.toList) : ∃ dS, mg "SIGNS" = some (.ref dS) ∧ ∀ o, IsOp o → KDct K w dS o (.str (opSign o)) := by
  refine ⟨dS, PySem.W.mg_of X G z1, fun o ho => ?_⟩
  rcases ho with rfl | rfl | rfl
  · exact ⟨es, n, _, z2, z3, z4, ⟨t1, rfl⟩⟩
  · exact ⟨es, n, _, z2, z3, z5, ⟨t2, rfl⟩⟩
  · exact ⟨es, n, _, z2, z3, z6, ⟨t3, rfl⟩⟩
end Aw

/-! the makers of programs: promises -/
namespace Aw
open PySem PySem.Spec L2

structure Nms (H : Hp) (a : Addr) (xs : List Str) : Prop where
  h : H a = some (.lst (xs.map V.str))
  ne : 1 ≤ xs.length
  ok : ∀ x ∈ xs, Sok x 8
  len : xs.length ≤ 100
theorem Nms.kp {M : List Addr} {H H1 : Hp} {a : Addr} {xs : List Str} (h : Nms H a xs) (k : Kp M H H1) (n : a ∉ M) : Nms H1 a xs := ⟨k.get h.h n, h.ne, h.ok, h.len⟩
theorem Nms.item {H : Hp} {a : Addr} {xs : List Str} (h : Nms H a xs) {i : Nat} {x : V} (e : (xs.map V.str)[i]? = some x) : ∃ z : Str, x = .str z ∧ Sok z 8 := by
  rw [List.getElem?_map] at e
  obtain ⟨z, hz, rfl⟩ := Option.map_eq_some_iff.mp e
  exact ⟨z, rfl, h.ok z (List.mem_of_getElem? hz)⟩

def eDraws : Nat → Nat
  | 0 => 0
  | n + 1 => 3 + 2 * eDraws n
theorem eDraws_le : ∀ {m : Nat}, m ≤ 3 → eDraws m ≤ 21
  | 0, _ => by decide
  | 1, _ => by decide
  | 2, _ => by decide
  | 3, _ => by decide
theorem Ex.ok_int {m : Nat} {i : Int} (h : 1 ≤ m) (h1 : -99 ≤ i) (h2 : i ≤ 99) : (Ex.int i).ok m := by
  cases m with
  | zero => omega
  | succ m => exact ⟨h1, h2⟩
theorem Ex.ok_name {m : Nat} {x : Str} (h : 1 ≤ m) (h1 : Sok x 8) : (Ex.name x).ok m := by
  cases m with
  | zero => omega
  | succ m => exact h1
/-- an expression is made -/
def spExpr (K : PySem.W.Frag) (m : Nat) : Sp := fun vs H Q _ => ∃ (d c nm : Addr) (n : Int) (xs : List Str), vs = [.ref d, .ref nm, .int m] ∧ Deck H d c n ∧ n + eDraws m < 10 ^ 12 ∧ Nms H nm xs ∧ nm ≠ d ∧ nm ≠ c ∧
  ∀ (H' : Hp) (v : V) (e : Ex) (n' : Int), Deck H' d c n' → n ≤ n' → n' ≤ n + eDraws m → Kp [d, c] H H' → Dt K H' v e.d → e.ok m → Q v H'
def spExprA (K : PySem.W.Frag) : Sp := fun vs H Q E => ∃ i : { m : Nat // 1 ≤ m ∧ m ≤ 3 }, spExpr K i.1 vs H Q E
theorem spExprA.use {K : PySem.W.Frag} {H : Hp} {Q : VK} {E : XK} {d c nm : Addr} {n m : Int} {xs : List Str} (D : Deck H d c n) (hn : n + 21 < 10 ^ 12) (N : Nms H nm xs) (n1 : nm ≠ d) (n2 : nm ≠ c) (m1 : 1 ≤ m) (m2 : m ≤ 3)
    (k : ∀ (H' : Hp) (v : V) (e : Ex) (n' : Int), Deck H' d c n' → n ≤ n' → n' ≤ n + 21 → Kp [d, c] H H' → Dt K H' v e.d → e.ok 3 → Q v H') : spExprA K [.ref d, .ref nm, .int m] H Q E := by
  have e : ((m.toNat : Nat) : Int) = m := Int.toNat_of_nonneg (by omega)
  have hE : eDraws m.toNat ≤ 21 := eDraws_le (by omega)
  refine ⟨⟨m.toNat, by omega⟩, d, c, nm, n, xs, by rw [e], D, by show n + ((eDraws m.toNat : Nat) : Int) < _; omega, N, n1, n2, fun H' v e n' D' q1 q2 k' hv he => ?_⟩
  have q2 : n' ≤ n + ((eDraws m.toNat : Nat) : Int) := q2
  exact k H' v e n' D' q1 (by omega) k' hv (Ex.ok.mono (m := m.toNat) he (by omega))
theorem Ts.ok.succ : ∀ {n : Nat} {t : Ts}, t.ok n → t.ok (n + 1)
  | n + 1, .not t, h => Ts.ok.succ (n := n) (t := t) h
  | n, .given x, h => by cases n <;> exact h
  | n, .rest e b r, h => by cases n <;> exact h
  | n, .less a b, h => by cases n <;> exact h
theorem Ts.ok.mono {m n : Nat} {t : Ts} (h : t.ok m) (q : m ≤ n) : t.ok n := by
  induction q with
  | refl => exact h
  | step _ ih => exact ih.succ
/-- a test is made -/
def spTest (K : PySem.W.Frag) : Sp := fun vs H Q _ => ∃ (d c nm : Addr) (n so : Int) (xs : List Str), vs = [.ref d, .ref nm, .int so] ∧ Deck H d c n ∧ n + 80 < 10 ^ 12 ∧ Nms H nm xs ∧ nm ≠ d ∧ nm ≠ c ∧
  ∀ (H' : Hp) (v : V) (t : Ts) (n' : Int), Deck H' d c n' → n ≤ n' → n' ≤ n + 80 → Kp [d, c] H H' → Dt K H' v t.d → t.ok 2 → Q v H'
/-- what is left: places, weight, rests, comparings -/
def Lft (H : Hp) (l : Addr) (a b r s : Int) : Prop := H l = some (.lst [.int a, .int b, .int r, .int s])
/-- a block is made, at e more blocks in one another -/
def spBlock (K : PySem.W.Frag) (e : Nat) : Sp := fun vs H Q _ => ∃ (d c nm l : Addr) (n dep ti a b r s : Int) (xs : List Str), vs = [.ref d, .ref nm, .int dep, .int ti, .ref l] ∧
  Deck H d c n ∧ n + 1 + 150 * a < 10 ^ 12 ∧ Nms H nm xs ∧ nm ≠ d ∧ nm ≠ c ∧ nm ≠ l ∧ l ≠ d ∧ l ≠ c ∧ Lft H l a b r s ∧ 0 ≤ a ∧ a ≤ 1000 ∧ dep + e = 3 ∧
  ∀ (H' : Hp) (v : V) (x : List Sm) (n' a' b' r' s' : Int), Deck H' d c n' → n ≤ n' → n' ≤ n + 1 + 150 * (a - a') → Lft H' l a' b' r' s' → 0 ≤ a' → (Sm.sizes x : Int) ≤ a - a' → Kp [d, c, l] H H' →
    Dt K H' v (.tuple (Sm.ds x)) → (∀ s ∈ x, Sm.ok e s) → Q v H'
def spIf (K : PySem.W.Frag) (e : Nat) : Sp := fun vs H Q _ => ∃ (d c nm l : Addr) (n dep ti a b r s at_ : Int) (xs : List Str), vs = [.ref d, .ref nm, .int dep, .int ti, .ref l, .int at_] ∧
  Deck H d c n ∧ n + 90 + 150 * a < 10 ^ 12 ∧ Nms H nm xs ∧ nm ≠ d ∧ nm ≠ c ∧ nm ≠ l ∧ l ≠ d ∧ l ≠ c ∧ Lft H l a b r s ∧ 0 ≤ a ∧ a ≤ 1000 ∧ dep + 1 + e = 3 ∧ 2 ≤ at_ ∧ at_ ≤ 4 ∧
  ∀ (H' : Hp) (v : V) (x : Sm) (n' a' b' r' s' : Int), Deck H' d c n' → n ≤ n' → n' ≤ n + 90 + 150 * (a - a') → Lft H' l a' b' r' s' → 0 ≤ a' → (x.size : Int) ≤ a - a' + 1 → Kp [d, c, l] H H' →
    Dt K H' v x.d → x.ok (e + 1) → Q v H'
def spStmt (K : PySem.W.Frag) (e : Nat) : Sp := fun vs H Q _ => ∃ (d c nm l : Addr) (n dep ti a b r s : Int) (xs : List Str), vs = [.ref d, .ref nm, .int dep, .int ti, .ref l] ∧
  Deck H d c n ∧ n + 150 * a < 10 ^ 12 ∧ Nms H nm xs ∧ nm ≠ d ∧ nm ≠ c ∧ nm ≠ l ∧ l ≠ d ∧ l ≠ c ∧ Lft H l a b r s ∧ 1 ≤ a ∧ a ≤ 1000 ∧ dep + e = 3 ∧
  ∀ (H' : Hp) (v : V) (x : Sm) (n' a' b' r' s' : Int), Deck H' d c n' → n ≤ n' → n' ≤ n + 150 * (a - a') → Lft H' l a' b' r' s' → 0 ≤ a' → (x.size : Int) ≤ a - a' → Kp [d, c, l] H H' →
    Dt K H' v x.d → x.ok e → Q v H'
def spProg (K : PySem.W.Frag) : Sp := fun vs H Q _ => ∃ (d c nm : Addr) (n mo : Int) (xs : List Str), vs = [.ref d, .ref nm, .int mo] ∧ Deck H d c n ∧ n + 4000 < 10 ^ 12 ∧ Nms H nm xs ∧ nm ≠ d ∧ nm ≠ c ∧
  0 ≤ mo ∧ mo ≤ 24 ∧ ∀ (H' : Hp) (v : V) (x : List Sm) (n' : Int), Deck H' d c n' → n ≤ n' → n' ≤ n + 4000 → (Sm.sizes x : Int) ≤ mo → Kp [d, c] H H' →
    Dt K H' v (.tuple (Sm.ds x)) → (∀ s ∈ x, Sm.ok 3 s) → Q v H'
def spNames : Sp := fun vs H Q _ => ∃ (d c : Addr) (n m : Int), vs = [.ref d, .int m] ∧ Deck H d c n ∧ n + 30 < 10 ^ 12 ∧ 1 ≤ m ∧ m ≤ 5 ∧
  ∀ (H' : Hp) (p : Addr) (xs : List Str) (n' : Int), H p = none → Deck H' d c n' → n ≤ n' → n' ≤ n + 30 → Kp [d, c] H H' → Nms H' p xs → Q (.ref p) H'

theorem Sm.ok.succ : ∀ (n : Nat) (s : Sm), s.ok n → s.ok (n + 1) := by
  intro n
  induction n with
  | zero =>
    intro s h
    cases s with
    | pl s => exact h
    | ifs t y z => exact h.elim
    | rep k b => exact h.elim
  | succ n ih =>
    intro s h
    cases s with
    | pl s => exact h
    | ifs t y z => exact ⟨h.1, fun s hs => ih s (h.2.1 s hs), fun s hs => ih s (h.2.2 s hs)⟩
    | rep k b => exact ⟨h.1, h.2.1, fun s hs => ih s (h.2.2 s hs)⟩
theorem Sm.ok.mono {m n : Nat} {s : Sm} (h : s.ok m) (q : m ≤ n) : s.ok n := by
  induction q with
  | refl => exact h
  | step _ ih => exact Sm.ok.succ _ _ ih
theorem Sm.ds_snoc (b : List Sm) (s : Sm) : Sm.ds (b ++ [s]) = Sm.ds b ++ [s.d] := by rw [Sm.ds_map, Sm.ds_map, List.map_append]; rfl
theorem Sm.sizes_snoc (b : List Sm) (s : Sm) : Sm.sizes (b ++ [s]) = Sm.sizes b + s.size := by rw [Sm.sizes_app, Sm.sizes, Sm.sizes, Nat.add_zero]

/-! ### replace -/
theorem replL_ok {y z : List Nat} (hy : y ≠ []) (hz : z.length ≤ y.length) (h1 : ∀ c ∈ z, c < 1114112) : ∀ (n : Nat) (l : List Nat), l.length ≤ n → (∀ c ∈ l, c < 1114112) →
    (StrLaws.replL y z l).length ≤ l.length ∧ ∀ c ∈ StrLaws.replL y z l, c < 1114112 := by
  intro n
  induction n with
  | zero =>
    intro l hl hc
    obtain rfl : l = [] := List.length_eq_zero_iff.mp (by omega)
    rw [StrLaws.replL_nil]
    exact ⟨Nat.le_refl _, hc⟩
  | succ n ih =>
    intro l hl hc
    cases l with
    | nil =>
      rw [StrLaws.replL_nil]
      exact ⟨Nat.le_refl _, hc⟩
    | cons c r =>
      have y1 : 1 ≤ y.length := by
        cases y with
        | nil => exact absurd rfl hy
        | cons _ _ => simp
      by_cases h : (c :: r).take y.length = y
      · rw [StrLaws.replL_hit hy h]
        have ylen : y.length ≤ (c :: r).length := by
          have q := congrArg List.length h
          rw [List.length_take] at q
          omega
        have hlt : ((c :: r).drop y.length).length ≤ n := by
          rw [List.length_drop]
          rw [List.length_cons] at hl ylen ⊢
          omega
        obtain ⟨q1, q2⟩ := ih _ hlt fun c' hc' => hc c' (List.mem_of_mem_drop hc')
        refine ⟨?_, fun c' hc' => ?_⟩
        · rw [List.length_append]
          rw [List.length_drop] at q1
          omega
        · rcases List.mem_append.mp hc' with m | m
          · exact h1 c' m
          · exact q2 c' m
      · rw [StrLaws.replL_miss h]
        obtain ⟨q1, q2⟩ := ih r (by rw [List.length_cons] at hl; omega) fun c' hc' => hc c' (List.mem_cons_of_mem _ hc')
        refine ⟨by rw [List.length_cons, List.length_cons]; omega, fun c' hc' => ?_⟩
        rcases List.mem_cons.mp hc' with rfl | m
        · exact hc _ (List.mem_cons_self ..)
        · exact q2 c' m
theorem Sok.iff {x : Str} {n : Nat} : Sok x n ↔ (∀ c ∈ x.cps.toList, c < 1114112) ∧ x.cps.toList.length ≤ n := by
  constructor
  · intro h
    have q := h.ok
    unfold PyData.strOk at q
    rw [Array.all_eq_true_iff_forall_mem] at q
    exact ⟨fun c hc => of_decide_eq_true (q c (Array.mem_def.mpr hc)), by rw [Array.length_toList]; exact h.len⟩
  · intro h
    refine ⟨?_, ?_⟩
    · unfold PyData.strOk
      rw [Array.all_eq_true_iff_forall_mem]
      exact fun c hc => decide_eq_true (h.1 c (Array.mem_def.mp hc))
    · have q := h.2
      rw [Array.length_toList] at q
      exact q
theorem joinL_ok {S : List Nat} {m s : Nat} (hS : S.length ≤ s) (h1 : ∀ c ∈ S, c < 1114112) : ∀ ps : List (List Nat), (∀ p ∈ ps, p.length ≤ m ∧ ∀ c ∈ p, c < 1114112) →
    (TL.joinL S ps).length ≤ ps.length * (m + s) ∧ ∀ c ∈ TL.joinL S ps, c < 1114112
  | [], _ => ⟨Nat.zero_le _, fun c h => (nomatch h)⟩
  | [p], h => by
    obtain ⟨a, b⟩ := h p (List.mem_cons_self ..)
    rw [TL.joinL]
    exact ⟨by rw [List.length_singleton, Nat.one_mul]; omega, b⟩
  | p :: q :: r, h => by
    obtain ⟨a, b⟩ := h p (List.mem_cons_self ..)
    obtain ⟨a2, b2⟩ := joinL_ok hS h1 (q :: r) fun p' hp' => h p' (List.mem_cons_of_mem _ hp')
    rw [TL.joinL]
    refine ⟨?_, fun c hc => ?_⟩
    · rw [List.length_append, List.length_append, List.length_cons, Nat.add_mul, Nat.one_mul]
      omega
    · rcases List.mem_append.mp hc with hc | hc
      · exact b c hc
      · rcases List.mem_append.mp hc with hc | hc
        · exact h1 c hc
        · exact b2 c hc
theorem Sok.join {sep : Str} {ys : List Str} {m s : Nat} (hs : Sok sep s) (h : ∀ y ∈ ys, Sok y m) : Sok (Txt.join sep ys) (ys.length * (m + s)) := by
  rw [Sok.iff] at *
  rw [TL.join_eq]
  have e : (Str.join sep ys).cps.toList = TL.joinL sep.cps.toList (ys.map fun y => y.cps.toList) := TL.tl_join sep ys
  rw [e]
  obtain ⟨a, b⟩ := joinL_ok (m := m) hs.2 hs.1 (ys.map fun y => y.cps.toList) fun p hp => by
    obtain ⟨y, hy, rfl⟩ := List.mem_map.mp hp
    have q := Sok.iff.mp (h y hy)
    exact ⟨q.2, q.1⟩
  rw [List.length_map] at a
  exact ⟨b, a⟩
theorem Sok.sign {z : Str} {n k : Nat} (h : Sok z n) (hk : k ∈ z.cps.toList) : Sok ⟨#[k]⟩ 1 := by
  rw [Sok.iff] at *
  refine ⟨fun c hc => ?_, by simp⟩
  simp at hc
  rw [hc]
  exact h.1 k hk
theorem sum_len {ys : List Str} {m : Nat} (h : ∀ y ∈ ys, Sok y m) : (ys.map (·.length)).sum ≤ ys.length * m := by
  induction ys with
  | nil => exact Nat.zero_le _
  | cons y r ih =>
    have a := (h y (List.mem_cons_self ..)).len
    have b := ih fun z hz => h z (List.mem_cons_of_mem _ hz)
    rw [List.map_cons, List.sum_cons, List.length_cons, Nat.add_mul, Nat.one_mul]
    omega
theorem Sok.repl {x y z : Str} {n : Nat} (h : Sok x n) (hy : 1 ≤ y.length) (hz : z.length ≤ y.length) (h1 : Sok z z.length) : Sok (Txt.replace x y z) n := by
  rw [Sok.iff] at *
  rw [StrLaws.replace_list hy]
  have yl : y.cps.toList.length = y.length := by rw [Array.length_toList]; rfl
  have zl : z.cps.toList.length = z.length := by rw [Array.length_toList]; rfl
  obtain ⟨q1, q2⟩ := replL_ok (y := y.cps.toList) (z := z.cps.toList) (fun e => by rw [e] at yl; simp at yl; omega) (by omega) h1.1 _ _ (Nat.le_refl _) h.1
  exact ⟨q2, Nat.le_trans q1 h.2⟩
/-- the first of the written items makes a token -/
theorem pa_strT {X : Cx} {es : List Expr} {t : TA} {x : Str} {j : Nat} {pos : Pos} (h : PAT X es t)
    (hs : starEach (.Constant (.str x) j pos :: es) X.env = (false, eval (.Constant (.str x) j pos) X.env) :: starEach es X.env := by rfl) :
    PA X (.Constant (.str x) j pos :: es) (tCons (tC (.str x)) t) := by
  refine ⟨fun p pins s σ H Q I q => ?_⟩
  rw [hs]
  show wpAny _ _ (spliced ((false, eval (.Constant (.str x) j pos) X.env) :: backTo p (starEach es X.env))) _ _ s
  refine Calls.spliced_cons (Calls.Constant_str ?_)
  refine thn (h p pins _ σ H _ (Nat.le_add_left 1 _) (I.tok _) q) fun us s2 q2 => ?_
  obtain ⟨xs, H2, I2, r2, q2⟩ := q2
  exact ⟨.str x :: xs, H2, I2, .cons ⟨_, rfl⟩ r2, q2⟩
theorem r_repl {to : TE} {σ : L2.St} {H : Hp} {Q : VK} {y z : Str} (h : to σ H fun v H1 => ∃ x, v = .str x ∧ x.length + (x.length + 1) * z.length ≤ 16777216 ∧ Q (.str (Txt.replace x y z)) H1) : CwR.tReplC to y z σ H Q := h
end Aw

namespace Aw
open PySem L2
def topS (i : Nat) : Stmt := PySem.Challenge.pw_anewread_k01_texts_of_programs.main.body.getD i (.Pass ⟨0, 0, 0, 0⟩)
local macro_rules | `(tactic| walk_at "isa") => `(tactic| (focus (simp [isaD, tyD]; done)))
local macro_rules | `(tactic| walk_at "hd") => `(tactic| first
  | exact Dp.int _ | exact Dp.str _ | exact Dp.bl _ | exact Dp.non
  | exact Dt.dp (by assumption) | assumption)
local macro_rules | `(tactic| walk_at "ne") => `(tactic| first
  | assumption
  | exact Ne.symm (by assumption)
  | exact ne_of_none (by assumption) (by assumption)
  | exact Ne.symm (ne_of_none (by assumption) (by assumption)))
local macro_rules | `(tactic| walk_at "hp") => `(tactic| first
  | assumption
  | exact upd_same
  | ((refine Eq.trans (upd_ne ?_) ?_); (walk_at "ne"); (walk_at "hp")))
local macro_rules | `(tactic| walk_at "hs") => `(tactic| first
  | assumption
  | ((with_reducible apply SqL.of); (walk_at "hp"))
  | ((with_reducible apply SqT.of); (walk_at "hp")))
local macro_rules | `(tactic| walk_at "rd1") => `(tactic| first
  | with_reducible refine r_next ?_ | with_reducible refine r_asg ?_
  | with_reducible refine r_name ?_ | with_reducible refine r_sub ?_ | with_reducible refine r_ifS ?_
  | with_reducible refine r_ret ?_ | with_reducible refine r_retN ?_ | with_reducible refine r_drop ?_
  | (with_reducible refine r_par ?_) | (with_reducible refine r_two ?_) | (with_reducible refine r_par3 ?_) | (with_reducible refine r_three ?_)
  | ((with_reducible apply r_var); exact rfl)
  | ((with_reducible apply r_aug); exact rfl)
  | with_reducible refine r_addS ?_ ?_
  | with_reducible refine r_C ?_ | with_reducible refine r_op ?_ | with_reducible refine r_un ?_
  | with_reducible refine r_I0 ?_ | with_reducible refine r_I ?_ ?_ | with_reducible refine r_U ?_ | with_reducible refine r_ipI ?_
  | (with_reducible refine r_tup ?_) | (with_reducible refine r_lst ?_)
  | with_reducible refine r_nil ?_ | with_reducible refine r_cons ?_
  | with_reducible refine r_call ?_ | with_reducible refine r_CB ?_
  | with_reducible refine r_BM ?_ | with_reducible refine r_BM0 ?_ | with_reducible refine r_M1 ?_ | with_reducible refine r_isS ?_
  | with_reducible refine r_bl ?_ | with_reducible refine r_test ?_ | with_reducible refine r_B ?_
  | ((with_reducible apply r_orP); (focus (intro _ hR_; (walk_at "rd"); exact hR_)); (focus (intro _ hR_; (walk_at "rd"); exact hR_)))
  | ((with_reducible apply r_andP); (focus (intro _ hR_; (walk_at "rd"); exact hR_)); (focus (intro _ hR_; (walk_at "rd"); exact hR_)))
  | with_reducible refine r_and ?_ | with_reducible refine r_or ?_ | with_reducible refine r_not ?_
  | with_reducible refine r_andV ?_ | with_reducible refine r_orV ?_ | with_reducible refine r_notV ?_ | with_reducible refine r_chain ?_
  | ((with_reducible apply r_eqT); (with_reducible rfl); exact rfl) | ((with_reducible apply r_eqF); (decide +kernel); exact rfl)
  | ((with_reducible apply r_neF); (with_reducible rfl); exact rfl) | ((with_reducible apply r_neT); (decide +kernel); exact rfl)
  | ((with_reducible apply r_eq); exact rfl) | ((with_reducible apply r_ne); exact rfl)
  | with_reducible refine r_gcons ?_ | with_reducible refine r_gnil ?_
  | ((with_reducible apply r_gtup); (walk_at "hs"); exact rfl)
  | with_reducible refine r_abs ?_ | with_reducible refine r_int ?_ | with_reducible refine r_intB ?_
  | with_reducible refine r_strI ?_ ?_ | with_reducible refine r_strS ?_ | with_reducible refine r_lenS ?_ ?_
  | ((with_reducible apply r_lenL); (walk_at "hs")) | ((with_reducible apply r_lenT); (walk_at "hs"))
  | ((with_reducible apply r_ixL); (walk_at "hs"); (first | exact rfl | assumption))
  | ((with_reducible apply r_ixT); (walk_at "hs"); (first | exact rfl | assumption))
  | ((with_reducible apply r_ixD); assumption)
  | ((with_reducible apply r_isT); (walk_at "hd"); (walk_at "isa"); decide) | ((with_reducible apply r_isF); (walk_at "hd"); (walk_at "isa"); decide)
  | ((with_reducible apply r_setL); (walk_at "hp"); (first | exact rfl | assumption))
  | ((with_reducible apply r_tyL); (walk_at "hp"))
  | ((with_reducible apply r_append); (walk_at "hp"))
  | ((with_reducible apply r_extend); (walk_at "hp"); (walk_at "hp"))
  | with_reducible refine r_forT ?_ | with_reducible refine r_forL ?_ | with_reducible refine r_forR ?_ | with_reducible refine r_forR2 ?_
  | with_reducible refine r_lcT ?_ | with_reducible refine r_lcL ?_ | with_reducible refine r_lcR ?_ | with_reducible refine r_yes ?_
  | (with_reducible refine r_LcTurn rfl ?_)
  | with_reducible refine r_sl ?_ | with_reducible refine r_noPart ?_ | with_reducible refine r_part ?_ | with_reducible refine r_partI ?_
  | with_reducible refine r_pcons ?_ | with_reducible refine r_pnil ?_ | with_reducible refine r_dget ?_
  | with_reducible refine ifT ?_ | with_reducible refine ifF ?_ | with_reducible refine ifnT ?_ | with_reducible refine ifnF ?_)
local macro_rules | `(tactic| walk_at "rds") => `(tactic| repeat (walk_at "rd1"))
local macro_rules | `(tactic| walk_at "rdj") => `(tactic| repeat (first | with_reducible refine r_seq ?_ | walk_at "rd1"))
local macro_rules | `(tactic| walk_at "rd") => `(tactic| repeat (first | with_reducible refine r_seq ?_ | walk_at "rd1" | with_reducible refine r_if ?_))
local macro_rules | `(tactic| walk_at "sc") => `(tactic| first
  | omega | decide
  | exact c_pow (by first | decide | omega) (by decide) (by decide)
  | exact c_div (by omega) (by omega)
  | exact c_mulL (by first | decide | omega) (by first | decide | omega)
  | exact c_mulR (by first | decide | omega) (by first | decide | omega))
local macro_rules | `(tactic| walk_at "sl") => `(tactic| ((try simp only [Str.length_append]); rw [sizeLine_eq]; omega))
local macro_rules | `(tactic| walk_at "sz") => `(tactic| ((try simp only [sizeLine_eq, List.length_append, List.length_map, List.length_cons, List.length_nil, Str.length_append]); omega))
section
variable {P : Program} {w : World} {K : PySem.W.Frag} {mg : Str → Option Value} {base : Heap}
abbrev s_law_deck : Stmt := topS 11
abbrev N_law_deck : List Str := ["_law_script", "_law_cell"]
abbrev P_law_deck : List Str := ["_law_script"]
theorem sc_law_deck : FnScope N_law_deck P_law_deck (defScope s_law_deck) :=
  ⟨rfl, rfl, rfl, by decide +kernel, rfl, by decide +kernel, by decide +kernel⟩
theorem ok_law_deck (D : Df K mg "_law_deck" s_law_deck P_law_deck) (B : Blt mg) : Has P w K mg base CX0 "_law_deck" P_law_deck 1 (spDeck K) := by
  refine D.has sc_law_deck (fun vs H Q E h => ?_) (fun f cdv A outer s H vs Q E hr h => ?_)
  · obtain ⟨a, ns, rfl, _⟩ := h
    rfl
  obtain ⟨a, ns, rfl, hS, hl, k⟩ := h
  refine ⟨_, (pss_one (ps_ret (pe_lst (pa_cons (pe_lc (own := [("_law_cell", 1)]) (g := gName 1) (by rfl) sc_law_deck.nd (pi_list (pe_slice sl_list (pv 0) po_none (po_some pe_int))) (blkOk_by (own := [("_law_cell", 1)]) (N := N_law_deck) (sc := defScope s_law_deck) (by decide +kernel)) (fun _ _ _ _ _ => (pg_name (i := 1) sc_law_deck.nd rfl (Or.inl rfl))) (fun _ _ _ _ _ => pts_nil) (fun _ _ _ _ _ => (pe_callB c_abs (by rfl) B.abs (by decide +kernel) (pa_cons (pv 1) pa_nil)))) (pa_cons pe_int pa_nil))))), ?_⟩
  walk_at "rd"
  refine r_slL hS fun p hp => ?_
  obtain ⟨ms, e, hm, _⟩ := cutV_map V.int ns none (some 63)
  rw [e]
  have k1 : Kp [] H (upd H p (.lst (ms.map V.int))) := Kp.nil.new hp
  have h1 : upd H p (.lst (ms.map V.int)) p = some (.lst (ms.map V.int)) := upd_same
  generalize upd H p (.lst (ms.map V.int)) = H1 at k1 h1 ⊢
  refine r_LcL (SqL.of h1) fun c hc => ?_
  refine ⟨fun i H' => ∃ cs : List Int, H' c = some (.lst (cs.map V.int)) ∧ (∀ x ∈ cs, 0 ≤ x) ∧ cs.length = i ∧ Kp [] H1 H', ⟨[], upd_same, (fun _ h => (nomatch h)), rfl, Kp.nil.new hc⟩,
    fun i H' ⟨_, _, _, _, kk⟩ => SqL.of (kk.get h1 (by simp)), ?_, ?_⟩
  · rintro i x H2 hx ⟨cs, h2, h3, h4, k2⟩
    rw [List.getElem?_map] at hx
    obtain ⟨y, hy, rfl⟩ := Option.map_eq_some_iff.mp hx
    have hi : i < ms.length := (List.getElem?_eq_some_iff.mp hy).1
    walk_at "rd"
    refine r_LcEnd h2 (by walk_at "sz") ⟨cs ++ [if y < 0 then -y else y], ?_, ?_, ?_, k2.own hc⟩
    · rw [upd_same, List.map_append]
      rfl
    · intro z hz
      rcases List.mem_append.mp hz with hz | hz
      · exact h3 z hz
      · rw [List.mem_singleton.mp hz]
        split <;> omega
    · rw [List.length_append, h4]
      rfl
  · rintro H2 ⟨cs, h2, h3, h4, k2⟩
    rw [List.length_map] at h4
    walk_at "rd"
    refine ⟨by simp [sizeLine_eq], fun d hd => ?_⟩
    have hcd : d ≠ c := Ne.symm (ne_of_none h2 hd)
    refine k _ d c ((k1.trans k2).same.free hd) (k1.same.free hc) ⟨upd_same, ⟨cs, ?_, h3, by omega⟩, hcd, by omega⟩ ((k1.trans k2).new hd)
    rw [upd_ne hcd.symm]
    exact h2
abbrev s_law_draw : Stmt := topS 12
abbrev N_law_draw : List Str := ["_law_deck_here", "_law_many", "_law_cell", "_law_at", "_law_mixed"]
abbrev P_law_draw : List Str := ["_law_deck_here", "_law_many"]
theorem sc_law_draw : FnScope N_law_draw P_law_draw (defScope s_law_draw) :=
  ⟨rfl, rfl, rfl, by decide +kernel, rfl, by decide +kernel, by decide +kernel⟩
theorem ok_law_draw (D : Df K mg "_law_draw" s_law_draw P_law_draw) (B : Blt mg) : Has P w K mg base CX0 "_law_draw" P_law_draw 1 spDraw := by
  refine D.has sc_law_draw (fun vs H Q E h => ?_) (fun f cdv A outer s H vs Q E hr h => ?_)
  · obtain ⟨d, c, n, m, rfl, _⟩ := h
    rfl
  obtain ⟨d, c, n, m, rfl, Dk, hn, h1, h2, k⟩ := h
  refine ⟨_, (pss_cons (ps_asg (pe_op op_add (pe_ix ix_list (pv 0) pe_int (fun _ _ => rfl)) pe_int) (pg_sub (pv 0) pe_int set_list))
      (pss_cons (ps_asg (pe_tup (pa_cons pe_int (pa_cons (pe_un un_neg pe_int) pa_nil))) (pg_tup rfl (pgs_cons (pg_name (i := 2) sc_law_draw.nd rfl (Or.inl rfl)) (pgs_cons (pg_name (i := 3) sc_law_draw.nd rfl (Or.inl rfl)) pgs_nil))))
      (pss_cons (ps_if (pt_cmpR op_gt (pe_callB c_len (by rfl) B.len (by decide +kernel) (pa_cons (pe_ix ix_list (pv 0) pe_int (fun _ _ => rfl)) pa_nil)) pe_int (nomark _)) (pss_cons (ps_set (i := 3) sc_law_draw.nd rfl (Or.inl rfl) (pe_op op_mod (pe_callTy c_int (by rfl) B.int (by decide +kernel) (pa_cons (pe_ix ix_list (pv 0) pe_int (fun _ _ => rfl)) pa_nil)) (pe_callB c_len (by rfl) B.len (by decide +kernel) (pa_cons (pe_ix ix_list (pv 0) pe_int (fun _ _ => rfl)) pa_nil))))
      (pss_one (ps_set (i := 2) sc_law_draw.nd rfl (Or.inl rfl) (pe_ix ix_list (pe_ix ix_list (pv 0) pe_int (fun _ _ => rfl)) (pv 3) (fun _ _ => rfl)))))
        pss_nil)
      (pss_cons (ps_if (pt_cmpR op_ge (pv 2) (pe_op op_pow pe_int pe_int) (nomark _)) (pss_cons (ps_asg (pe_op op_fdiv (pe_callTy c_int (by rfl) B.int (by decide +kernel) (pa_cons (pv 2) pa_nil)) (pv 1)) (pg_sub (pe_ix ix_list (pv 0) pe_int (fun _ _ => rfl)) (pv 3) set_list))
      (pss_one (ps_ret (pe_op op_mod (pe_callTy c_int (by rfl) B.int (by decide +kernel) (pa_cons (pv 2) pa_nil)) (pv 1)))))
        pss_nil)
      (pss_cons (ps_set (i := 4) sc_law_draw.nd rfl (Or.inl rfl) (pe_op op_add (pe_op op_add (pe_op op_mod (pe_callTy c_int (by rfl) B.int (by decide +kernel) (pa_cons (pv 2) pa_nil)) pe_int) (pe_op op_mul pe_int (pe_ix ix_list (pv 0) pe_int (fun _ _ => rfl)))) pe_int))
      (pss_one (ps_ret (pe_op op_mod (pe_callTy c_int (by rfl) B.int (by decide +kernel) (pa_cons (pe_op op_mod (pe_callTy c_int (by rfl) B.int (by decide +kernel) (pa_cons (pe_op op_pow (pv 4) pe_int) pa_nil)) pe_int) pa_nil)) (pv 1))))))))), ?_⟩
  obtain ⟨hd, ⟨cs, hc, hp, hl⟩, ne, n0⟩ := Dk
  walk_at "rd"
  refine ⟨by decide, fun p hp' => ?_⟩
  have pd : p ≠ d := fun z => by
    rw [z, upd_same] at hp'
    cases hp'
  have pH : H p = none := by
    rw [upd_ne pd] at hp'
    exact hp'
  have pc : p ≠ c := Ne.symm (ne_of_none hc pH)
  generalize eH : upd (upd H d (HO.lst ([V.ref c, V.int n].set (Int.toNat 1) (V.int (n + 1))))) p (HO.tup [V.int 0, V.int (-1)]) = H1
  have hT : H1 p = some (.tup [V.int 0, V.int (-1)]) := by rw [← eH]; exact upd_same
  have hd1 : H1 d = some (.lst [V.ref c, V.int (n + 1)]) := by
    rw [← eH, upd_ne pd.symm]
    exact upd_same
  have hc1 : H1 c = some (.lst (cs.map V.int)) := by
    rw [← eH, upd_ne pc.symm, upd_ne ne.symm]
    exact hc
  have kp : Kp [d, c] H H1 := by
    rw [← eH]
    exact ((Kp.refl (Deck.ls ⟨hd, ⟨cs, hc, hp, hl⟩, ne, n0⟩)).write (by simp)).new hp'
  walk_at "rd"
  have last : ∀ (x : Int), 0 ≤ x → ∀ (y : Int), y = x % 2147483563 + 8117 * (n + 1) + 3 → y.natAbs < 2 ^ 64 := by
    intro x hx y e
    omega
  refine ifd (fun c1 => ?_) (fun c1 => ?_)
  · rw [List.length_map] at c1
    have hlt : ((n + 1) % (cs.length : Int)).toNat < cs.length := by
      have q1 := Int.emod_nonneg (n + 1) (show (cs.length : Int) ≠ 0 by omega)
      have q2 := Int.emod_lt_of_pos (n + 1) c1
      omega
    have h0 := Int.emod_nonneg (n + 1) (show (cs.length : Int) ≠ 0 by omega)
    have hlt2 := Int.emod_lt_of_pos (n + 1) c1
    have hat : atI (cs.map V.int) ((n + 1) % ((cs.map V.int).length : Nat)) = some (.int cs[((n + 1) % (cs.length : Int)).toNat]) := by
      rw [List.length_map]
      refine at_of (j := ((n + 1) % (cs.length : Int)).toNat) (by omega) ?_
      rw [List.getElem?_map, List.getElem?_eq_getElem hlt]
      rfl
    have hset : ixN (cs.map V.int).length ((n + 1) % ((cs.map V.int).length : Nat)) = some ((n + 1) % (cs.length : Int)).toNat := by
      unfold ixN
      rw [List.length_map, if_pos h0, if_pos hlt2]
    have hx := hp _ (List.getElem_mem hlt)
    generalize cs[((n + 1) % (cs.length : Int)).toNat] = x at hat hx
    walk_at "rd"
    refine ifd (fun c2 => ?_) (fun c2 => ?_)
    all_goals walk_at "rd"
    · refine k _ _ (Int.emod_nonneg _ (by omega)) (Int.emod_lt_of_pos _ (by omega)) ⟨?_, ⟨cs.set ((n + 1) % (cs.length : Int)).toNat (x / m), ?_, ?_, ?_⟩, ne, by omega⟩ (kp.write (by simp))
      · rw [upd_ne ne]
        exact hd1
      · rw [upd_same, List.map_set]
      · intro y hy
        rcases List.mem_or_eq_of_mem_set hy with hy | rfl
        · exact hp y hy
        · exact Int.ediv_nonneg hx (by omega)
      · rw [List.length_set]
        exact hl
    · walk_at "sc"
    · walk_at "sc"
    · exact k _ _ (Int.emod_nonneg _ (by omega)) (Int.emod_lt_of_pos _ (by omega)) ⟨hd1, ⟨cs, hc1, hp, hl⟩, ne, by omega⟩ kp
    · walk_at "sc"
    · walk_at "sc"
    · walk_at "sc"
    · walk_at "sc"
    · walk_at "sc"
    · walk_at "sc"
    · rw [List.length_map]
      exact c1
  · walk_at "rd"
    · refine ifd (fun c2 => ?_) (fun c2 => ?_)
      · exact absurd c2 (by decide)
      · walk_at "rd"
        · exact k _ _ (Int.emod_nonneg _ (by omega)) (Int.emod_lt_of_pos _ (by omega)) ⟨hd1, ⟨cs, hc1, hp, hl⟩, ne, by omega⟩ kp
        all_goals walk_at "sc"
    · walk_at "sc"
abbrev s_law_one : Stmt := topS 13
abbrev N_law_one : List Str := ["_law_deck_here", "_law_items"]
abbrev P_law_one : List Str := ["_law_deck_here", "_law_items"]
theorem sc_law_one : FnScope N_law_one P_law_one (defScope s_law_one) :=
  ⟨rfl, rfl, rfl, by decide +kernel, rfl, by decide +kernel, by decide +kernel⟩
theorem ok_law_one (D : Df K mg "_law_one" s_law_one P_law_one) (B : Blt mg)
    (G_law_draw : Has P w K mg base CX0 "_law_draw" ["_law_deck_here", "_law_many"] 1 spDraw) : Has P w K mg base CX0 "_law_one" P_law_one 2 (spOne K) := by
  refine D.has sc_law_one (fun vs H Q E h => ?_) (fun f cdv A outer s H vs Q E hr h => ?_)
  · rcases h with ⟨d, c, a, n, xs, rfl, _⟩ | ⟨d, c, n, z, rfl, _⟩ <;> rfl
  refine ⟨_, (pss_one (ps_ret (pe_ix ix_seq (pv 1) (pe_f G_law_draw (hr.mono (by omega)) (by rfl) pass0 (pa_cons (pv 0) (pa_cons (pe_callB c_len (by rfl) B.len (by decide +kernel) (pa_cons (pv 1) pa_nil)) pa_nil))) (fun _ _ => rfl)))), ?_⟩
  rcases h with ⟨d, c, a, n, xs, rfl, Dk, hn, hS, h1, h2, h3, h4, k⟩ | ⟨d, c, n, z, rfl, Dk, hn, h3, h4, k⟩
  · walk_at "rd"
    refine spDraw.use Dk hn (by omega) (by omega) fun H1 r r0 r1 D1 k1 => ?_
    have hlt : r.toNat < xs.length := by omega
    refine .inl (r_ixL (sqL_kp k1 (by simp [h1, h2]) hS) (at_of (j := r.toNat) (by omega) (List.getElem?_eq_getElem hlt)) ?_)
    exact k _ r.toNat _ (List.getElem?_eq_getElem hlt) D1 k1
  · have hz : z.length ≤ sizeLine := by rw [sizeLine_eq]; omega
    have hsz : z.cps.toList.length = z.length := by rw [Array.length_toList]; rfl
    walk_at "rd"
    · refine spDraw.use Dk hn (by omega) (by omega) fun H1 r r0 r1 D1 k1 => ?_
      have hlt : r.toNat < z.cps.toList.length := by omega
      refine .inr (.inr (r_ixS (c := z.cps.toList[r.toNat]) hz ?_ ?_))
      · exact at_nn r0 (List.getElem?_eq_getElem hlt)
      · exact k _ _ (List.getElem_mem hlt) D1 k1
    · exact hz
abbrev s_law_expr : Stmt := topS 14
abbrev N_law_expr : List Str := ["_law_deck_here", "_law_names_here", "_law_deep", "_law_way", "_law_numbers"]
abbrev P_law_expr : List Str := ["_law_deck_here", "_law_names_here", "_law_deep"]
theorem sc_law_expr : FnScope N_law_expr P_law_expr (defScope s_law_expr) :=
  ⟨rfl, rfl, rfl, by decide +kernel, rfl, by decide +kernel, by decide +kernel⟩
theorem ok_law_expr (D : Df K mg "_law_expr" s_law_expr P_law_expr) (B : Blt mg)
    (G_law_draw : Has P w K mg base CX0 "_law_draw" ["_law_deck_here", "_law_many"] 1 spDraw) (G_law_one : Has P w K mg base CX0 "_law_one" ["_law_deck_here", "_law_items"] 2 (spOne K)) :
    ∀ m, 1 ≤ m → m ≤ 3 → Has P w K mg base CX0 "_law_expr" P_law_expr (m + 2) (spExpr K m) := by
  intro m
  induction m with
  | zero => intro h; omega
  | succ m ih =>
    intro _ hm
    have Gx : ∃ sp, Has P w K mg base CX0 "_law_expr" P_law_expr (m + 2) sp ∧ (1 ≤ m → sp = spExpr K m) := by
      by_cases h : 1 ≤ m
      · exact ⟨_, ih h (by omega), fun _ => rfl⟩
      · exact ⟨fun _ _ _ _ => False, (D.void fun _ _ _ _ h => h).mono (by omega), fun q => absurd q h⟩
    obtain ⟨sp, G_law_expr, hsp⟩ := Gx
    refine D.has sc_law_expr (fun vs H Q E h => ?_) (fun f cdv A outer s H vs Q E hr h => ?_)
    · obtain ⟨d, c, nm, n, xs, rfl, _⟩ := h
      rfl
    obtain ⟨d, c, nm, n, xs, rfl, Dk, hn, N, n1, n2, k⟩ := h
    have eD : eDraws (m + 1) = 3 + 2 * eDraws m := rfl
    have hE : eDraws m ≤ 21 := eDraws_le (by omega)
    have n0 := Dk.n0
    refine ⟨_, (pss_cons (ps_set (i := 3) sc_law_expr.nd rfl (Or.inl rfl) (pe_f G_law_draw (hr.mono (by omega)) (by rfl) pass0 (pa_cons (pv 0) (pa_cons pe_int pa_nil))))
      (pss_cons (ps_if (PW.pt (pw_or (pt_cmpR op_eq (pv 2) pe_int (nomark _)) (pw_or1 (pt_cmpR op_lt (pv 3) pe_int (nomark _))))) (pss_cons (ps_set (i := 4) sc_law_expr.nd rfl (Or.inl rfl) (pe_lst (pa_cons pe_int (pa_cons pe_int (pa_cons (pe_un un_neg pe_int) (pa_cons pe_int (pa_cons pe_int (pa_cons (pe_un un_neg pe_int) (pa_cons (pe_op op_sub (pe_f G_law_draw (hr.mono (by omega)) (by rfl) pass0 (pa_cons (pv 0) (pa_cons pe_int pa_nil))) pe_int) pa_nil)))))))))
      (pss_one (ps_ret (pe_ifExp (pt_cmpR op_lt (pv 3) pe_int (nomark _)) (pe_f G_law_one (hr.mono (by omega)) (by rfl) pass0 (pa_cons (pv 0) (pa_cons (pv 1) pa_nil))) (pe_f G_law_one (hr.mono (by omega)) (by rfl) pass0 (pa_cons (pv 0) (pa_cons (pv 4) pa_nil)))))))
        pss_nil)
      (pss_cons (ps_if (pt_cmpR op_eq (pv 3) pe_int (nomark _)) (pss_one (ps_ret (pe_tup (pa_cons pe_str (pa_cons (pe_op op_sub (pe_f G_law_draw (hr.mono (by omega)) (by rfl) pass0 (pa_cons (pv 0) (pa_cons pe_int pa_nil))) pe_int) (pa_cons (pe_f G_law_expr (hr.mono (by omega)) (by rfl) pass0 (pa_cons (pv 0) (pa_cons (pv 1) (pa_cons (pe_op op_sub (pv 2) pe_int) pa_nil)))) pa_nil))))))
        pss_nil)
      (pss_one (ps_ret (pe_tup (pa_cons (pe_f G_law_one (hr.mono (by omega)) (by rfl) pass0 (pa_cons (pv 0) (pa_cons (pe_lst (pa_cons pe_str (pa_cons pe_str pa_nil))) pa_nil))) (pa_cons (pe_f G_law_expr (hr.mono (by omega)) (by rfl) pass0 (pa_cons (pv 0) (pa_cons (pv 1) (pa_cons (pe_op op_sub (pv 2) pe_int) pa_nil)))) (pa_cons (pe_f G_law_expr (hr.mono (by omega)) (by rfl) pass0 (pa_cons (pv 0) (pa_cons (pv 1) (pa_cons (pe_op op_sub (pv 2) pe_int) pa_nil)))) pa_nil))))))))), ?_⟩
    walk_at "rd"
    refine spDraw.use Dk (by omega) (by omega) (by omega) fun H1 r r0 r1 D1 k1 => ?_
    have N1 := N.kp k1 (by simp [n1, n2])
    walk_at "rd"
    refine ite2 (fun c1 => ?_) (fun c1 => ?_)
    all_goals simp only [Bool.or_eq_true, decide_eq_true_eq, V.int.injEq] at c1
    · walk_at "rd"
      refine spDraw.use D1 (by omega) (by omega) (by omega) fun H2 z z0 z1 D2 k2 => ?_
      walk_at "rd"
      refine ⟨by simp [sizeLine_eq], fun p hp => ?_⟩
      have k3 : Kp [d, c] H2 (upd H2 p (.lst [.int 0, .int 1, .int (-1), .int 2, .int 99, .int (-99), .int (z - 99)])) := (Kp.refl D2.ls).new hp
      have D3 := D2.kp (Kp.nil.new (o := .lst [.int 0, .int 1, .int (-1), .int 2, .int 99, .int (-99), .int (z - 99)]) hp) (by simp) (by simp)
      have h3 : upd H2 p (.lst [.int 0, .int 1, .int (-1), .int 2, .int 99, .int (-99), .int (z - 99)]) p = some (.lst [.int 0, .int 1, .int (-1), .int 2, .int 99, .int (-99), .int (z - 99)]) := upd_same
      have pd : p ≠ d := Ne.symm (ne_of_none D2.hd hp)
      have pc : p ≠ c := by
        obtain ⟨cs, hc, _⟩ := D2.hc
        exact Ne.symm (ne_of_none hc hp)
      generalize upd H2 p (.lst [.int 0, .int 1, .int (-1), .int 2, .int 99, .int (-99), .int (z - 99)]) = H3 at k3 D3 h3 ⊢
      have N3 := (N1.kp k2 (by simp [n1, n2])).kp k3 (by simp [n1, n2])
      walk_at "rd"
      refine ifd (fun c2 => ?_) (fun c2 => ?_)
      · walk_at "rd"
        refine spOne.list D3 (by omega) (SqL.of N3.h) n1 n2 (by rw [List.length_map]; exact N3.ne) (by rw [List.length_map]; have := N3.len; omega) fun H4 i x hx D4 k4 => ?_
        obtain ⟨y, rfl, hy⟩ := N3.item hx
        exact k H4 _ (.name y) _ D4 (by omega) (by omega) (((k1.trans k2).trans k3).trans k4) (.str y) hy
      · walk_at "rd"
        refine spOne.list D3 (by omega) (SqL.of h3) pd pc (by simp) (by simp) fun H4 i x hx D4 k4 => ?_
        have hx' : ∃ t : Int, x = .int t ∧ -99 ≤ t ∧ t ≤ 99 := by
          have hm := List.mem_of_getElem? hx
          simp only [List.mem_cons, List.not_mem_nil, or_false] at hm
          rcases hm with rfl | rfl | rfl | rfl | rfl | rfl | rfl <;> exact ⟨_, rfl, by omega, by omega⟩
        obtain ⟨t, rfl, t0, t1⟩ := hx'
        exact k H4 _ (.int t) _ D4 (by omega) (by omega) (((k1.trans k2).trans k3).trans k4) (.int t) ⟨t0, t1⟩
    · have m1 : 1 ≤ m := by omega
      obtain rfl := hsp m1
      have em : (((m + 1 : Nat) : Int) - 1) = (m : Int) := by omega
      walk_at "rd"
      refine ifd (fun c2 => ?_) (fun c2 => ?_)
      · walk_at "rd"
        refine spDraw.use D1 (by omega) (by omega) (by omega) fun H2 z z0 z1 D2 k2 => ?_
        have N2 := N1.kp k2 (by simp [n1, n2])
        walk_at "rd"
        rw [em]
        refine ⟨d, c, nm, _, xs, rfl, D2, by omega, N2, n1, n2, fun H3 v e n3 D3 q1 q2 k3 hv he => ?_⟩
        walk_at "rd"
        refine ⟨by simp [sizeLine_eq], fun p hp => ?_⟩
        have k4 : Kp [] H3 (upd H3 p (.tup [.str "times", .int (z - 9), v])) := Kp.nil.new hp
        refine k _ _ (.bin "times" (.int (z - 9)) e) n3 (D3.kp k4 (by simp) (by simp)) (by omega) (by omega) (((k1.trans k2).trans k3).new hp) (Dt.mk3 upd_same (.str _) (.int _) (hv.kp k4)) ⟨.inr (.inr rfl), Ex.ok_int m1 (by omega) (by omega), he⟩
      · walk_at "rd"
        refine ⟨by decide, fun p hp => ?_⟩
        have k2 : Kp [d, c] H1 (upd H1 p (.lst [.str "plus", .str "minus"])) := (Kp.refl D1.ls).new hp
        have D2 := D1.kp (Kp.nil.new (o := .lst [.str "plus", .str "minus"]) hp) (by simp) (by simp)
        have pd : p ≠ d := Ne.symm (ne_of_none D1.hd hp)
        have pc : p ≠ c := by
          obtain ⟨cs, hc, _⟩ := D1.hc
          exact Ne.symm (ne_of_none hc hp)
        have h2 : upd H1 p (.lst [.str "plus", .str "minus"]) p = some (.lst [.str "plus", .str "minus"]) := upd_same
        generalize upd H1 p (.lst [.str "plus", .str "minus"]) = H2 at k2 D2 h2 ⊢
        have N2 := N1.kp k2 (by simp [n1, n2])
        walk_at "rd"
        refine spOne.list D2 (by omega) (SqL.of h2) pd pc (by simp) (by simp) fun H3 i x hx D3 k3 => ?_
        have hx' : ∃ t : Str, x = .str t ∧ IsOp t := by
          have hm := List.mem_of_getElem? hx
          simp only [List.mem_cons, List.not_mem_nil, or_false] at hm
          rcases hm with rfl | rfl
          · exact ⟨_, rfl, .inl rfl⟩
          · exact ⟨_, rfl, .inr (.inl rfl)⟩
        obtain ⟨t, rfl, ht⟩ := hx'
        have N3 := N2.kp k3 (by simp [n1, n2])
        walk_at "rd"
        rw [em]
        refine ⟨d, c, nm, _, xs, rfl, D3, by omega, N3, n1, n2, fun H4 v e n4 D4 q1 q2 k4 hv he => ?_⟩
        have N4 := N3.kp k4 (by simp [n1, n2])
        walk_at "rd"
        rw [em]
        refine ⟨d, c, nm, _, xs, rfl, D4, by omega, N4, n1, n2, fun H5 v2 e2 n5 D5 q3 q4 k5 hv2 he2 => ?_⟩
        walk_at "rd"
        refine ⟨by simp [sizeLine_eq], fun p6 hp6 => ?_⟩
        have k6 : Kp [] H5 (upd H5 p6 (.tup [.str t, v, v2])) := Kp.nil.new hp6
        exact k _ _ (.bin t e e2) n5 (D5.kp k6 (by simp) (by simp)) (by omega) (by omega) (((((k1.trans k2).trans k3).trans k4).trans k5).new hp6) (Dt.mk3 upd_same (.str _) ((hv.kp k5).kp k6) (hv2.kp k6)) ⟨ht, he, he2⟩
abbrev s_law_test : Stmt := topS 15
abbrev N_law_test : List Str := ["_law_deck_here", "_law_names_here", "_law_sort", "_law_test_here", "_law_by", "_law_left", "_law_k"]
abbrev P_law_test : List Str := ["_law_deck_here", "_law_names_here", "_law_sort"]
theorem sc_law_test : FnScope N_law_test P_law_test (defScope s_law_test) :=
  ⟨rfl, rfl, rfl, by decide +kernel, rfl, by decide +kernel, by decide +kernel⟩
theorem ok_law_test (D : Df K mg "_law_test" s_law_test P_law_test) (B : Blt mg)
    (G_law_draw : Has P w K mg base CX0 "_law_draw" ["_law_deck_here", "_law_many"] 1 spDraw) (G_law_one : Has P w K mg base CX0 "_law_one" ["_law_deck_here", "_law_items"] 2 (spOne K))
    (G_law_expr : Has P w K mg base CX0 "_law_expr" ["_law_deck_here", "_law_names_here", "_law_deep"] 5 (spExprA K)) :
    Has P w K mg base CX0 "_law_test" P_law_test 6 (spTest K) := by
  refine D.has sc_law_test (fun vs H Q E h => ?_) (fun f cdv A outer s H vs Q E hr h => ?_)
  · obtain ⟨d, c, nm, n, so, xs, rfl, _⟩ := h
    rfl
  obtain ⟨d, c, nm, n, so, xs, rfl, Dk, hn, N, n1, n2, k⟩ := h
  have n0 := Dk.n0
  refine ⟨_, (pss_cons (ps_set (i := 3) sc_law_test.nd rfl (Or.inl rfl) (pe_tup (pa_cons pe_str (pa_cons (pe_f G_law_one (hr.mono (by omega)) (by rfl) pass0 (pa_cons (pv 0) (pa_cons (pe_op op_cat (pv 1) (pe_lst (pa_cons pe_str pa_nil))) pa_nil))) pa_nil))))
      (pss_cons (ps_if (pt_cmpR op_eq (pv 2) pe_int (nomark _)) (pss_cons (ps_set (i := 4) sc_law_test.nd rfl (Or.inl rfl) (pe_op op_add pe_int (pe_f G_law_draw (hr.mono (by omega)) (by rfl) pass0 (pa_cons (pv 0) (pa_cons pe_int pa_nil)))))
      (pss_one (ps_set (i := 3) sc_law_test.nd rfl (Or.inl rfl) (pe_tup (pa_cons pe_str (pa_cons (pe_f G_law_expr (hr.mono (by omega)) (by rfl) pass0 (pa_cons (pv 0) (pa_cons (pv 1) (pa_cons (pe_op op_add pe_int (pe_f G_law_draw (hr.mono (by omega)) (by rfl) pass0 (pa_cons (pv 0) (pa_cons pe_int pa_nil)))) pa_nil)))) (pa_cons (pv 4) (pa_cons (pe_f G_law_draw (hr.mono (by omega)) (by rfl) pass0 (pa_cons (pv 0) (pa_cons (pv 4) pa_nil))) pa_nil))))))))
        pss_nil)
      (pss_cons (ps_if (pt_cmpR op_eq (pv 2) pe_int (nomark _)) (pss_cons (ps_set (i := 5) sc_law_test.nd rfl (Or.inl rfl) (pe_f G_law_expr (hr.mono (by omega)) (by rfl) pass0 (pa_cons (pv 0) (pa_cons (pv 1) (pa_cons (pe_op op_add pe_int (pe_f G_law_draw (hr.mono (by omega)) (by rfl) pass0 (pa_cons (pv 0) (pa_cons pe_int pa_nil)))) pa_nil)))))
      (pss_one (ps_set (i := 3) sc_law_test.nd rfl (Or.inl rfl) (pe_tup (pa_cons pe_str (pa_cons (pv 5) (pa_cons (pe_f G_law_expr (hr.mono (by omega)) (by rfl) pass0 (pa_cons (pv 0) (pa_cons (pv 1) (pa_cons (pe_op op_add pe_int (pe_f G_law_draw (hr.mono (by omega)) (by rfl) pass0 (pa_cons (pv 0) (pa_cons pe_int pa_nil)))) pa_nil)))) pa_nil)))))))
        pss_nil)
      (pss_cons (ps_for PassesOwn.never rfl (pi_range1 (by rfl) B.range (pa_cons (pe_f G_law_one (hr.mono (by omega)) (by rfl) pass0 (pa_cons (pv 0) (pa_cons (pe_lst (pa_cons pe_int (pa_cons pe_int (pa_cons pe_int (pa_cons pe_int pa_nil))))) pa_nil))) pa_nil)) (pg_name (i := 6) sc_law_test.nd rfl (Or.inl rfl))
        (pss_one (ps_set (i := 3) sc_law_test.nd rfl (Or.inl rfl) (pe_tup (pa_cons pe_str (pa_cons (pv 3) pa_nil))))))
      (pss_one (ps_ret (pv 3))))))), ?_⟩
  walk_at "rd"
  refine ⟨by decide, fun p hp => ?_⟩
  have k1 : Kp [d, c] H (upd H p (.lst [.str "y"])) := (Kp.refl Dk.ls).new hp
  have D1 := Dk.kp (Kp.nil.new (o := .lst [.str "y"]) hp) (by simp) (by simp)
  have N1 := N.kp k1 (by simp [n1, n2])
  have h1 : upd H p (.lst [.str "y"]) p = some (.lst [.str "y"]) := upd_same
  generalize upd H p (.lst [.str "y"]) = H1 at k1 D1 h1 N1 ⊢
  refine r_cat N1.h h1 (by have := N1.len; walk_at "sz") fun p2 hp2 => ?_
  have k2 : Kp [d, c] H1 (upd H1 p2 (.lst (xs.map V.str ++ [.str "y"]))) := (Kp.refl D1.ls).new hp2
  have D2 := D1.kp (Kp.nil.new (o := .lst (xs.map V.str ++ [.str "y"])) hp2) (by simp) (by simp)
  have N2 := N1.kp k2 (by simp [n1, n2])
  have h2 : upd H1 p2 (.lst (xs.map V.str ++ [.str "y"])) p2 = some (.lst ((xs ++ [("y" : Str)]).map V.str)) := by rw [upd_same, List.map_append]; rfl
  have pd : p2 ≠ d := Ne.symm (ne_of_none D1.hd hp2)
  have pc : p2 ≠ c := by
    obtain ⟨cs, hc, _⟩ := D1.hc
    exact Ne.symm (ne_of_none hc hp2)
  generalize upd H1 p2 (.lst (xs.map V.str ++ [.str "y"])) = H2 at k2 D2 h2 N2 ⊢
  refine spOne.list D2 (by omega) (SqL.of h2) pd pc (by simp) (by have := N.len; simp; omega) fun H3 i x hx D3 k3 => ?_
  have hx' : ∃ z : Str, x = .str z ∧ Sok z 8 := by
    rw [List.getElem?_map] at hx
    obtain ⟨z, hz, rfl⟩ := Option.map_eq_some_iff.mp hx
    refine ⟨z, rfl, ?_⟩
    rcases List.mem_append.mp (List.mem_of_getElem? hz) with hm | hm
    · exact N.ok z hm
    · rw [List.mem_singleton.mp hm]
      exact Sok.lit (by decide +kernel)
  obtain ⟨z, rfl, hz⟩ := hx'
  walk_at "rd"
  refine ⟨by simp [sizeLine_eq], fun p4 hp4 => ?_⟩
  have k4 : Kp [] H3 (upd H3 p4 (.tup [.str "given", .str z])) := Kp.nil.new hp4
  have D4 := D3.kp k4 (by simp) (by simp)
  have kk : Kp [d, c] H (upd H3 p4 (.tup [.str "given", .str z])) := ((k1.trans k2).trans k3).new hp4
  have v4 : Dt K (upd H3 p4 (.tup [.str "given", .str z])) (.ref p4) (Ts.given z).d := Dt.mk2 upd_same (.str _) (.str _)
  have N4 := N.kp kk (by simp [n1, n2])
  generalize upd H3 p4 (.tup [.str "given", .str z]) = H4 at k4 D4 kk v4 N4 ⊢
  clear hp2 h2 N2 N1 h1 k1 k2 k3 k4 D1 D2 D3 hp hp4
  walk_at "rds"
  with_reducible refine r_seqJ (fun σ H' => ∃ (v : V) (t : Ts) (n' : Int) (b : Option V), σ = [some (.ref d), some (.ref nm), some (.int so), some v, b, none, none] ∧ Deck H' d c n' ∧ n ≤ n' ∧ n' ≤ n + 25 ∧ Kp [d, c] H H' ∧ Dt K H' v t.d ∧ t.ok 0) (fun nx' kn => ?_) ?_
  · walk_at "rd"
    refine ifd (fun c1 => ?_) (fun c1 => ?_)
    · walk_at "rd"
      refine spDraw.use D4 (by omega) (by omega) (by omega) fun H5 r r0 r1 D5 k5 => ?_
      have N5 := N4.kp k5 (by simp [n1, n2])
      walk_at "rd"
      refine spDraw.use D5 (by omega) (by omega) (by omega) fun H6 u u0 u1 D6 k6 => ?_
      have N6 := N5.kp k6 (by simp [n1, n2])
      walk_at "rd"
      refine spExprA.use D6 (by omega) N6 n1 n2 (by omega) (by omega) fun H7 v e n7 D7 q1 q2 k7 hv he => ?_
      walk_at "rd"
      refine spDraw.use D7 (by omega) (by omega) (by omega) fun H8 y y0 y1 D8 k8 => ?_
      walk_at "rd"
      refine ⟨by simp [sizeLine_eq], fun p9 hp9 => ?_⟩
      have k9 : Kp [] H8 (upd H8 p9 (.tup [.str "rest", v, .int (2 + r), .int y])) := Kp.nil.new hp9
      refine kn _ _ ⟨_, .rest e (2 + r) y, _, _, rfl, D8.kp k9 (by simp) (by simp), by omega, by omega, ((((kk.trans k5).trans k6).trans k7).trans k8).new hp9, ?_, ⟨he, by omega, by omega, by omega, by omega⟩⟩
      exact Dt.mk4 upd_same (.str _) ((hv.kp k8).kp k9) (.int _) (.int _)
    · walk_at "rd"
      exact kn _ _ ⟨_, .given z, _, _, rfl, D4, by omega, by omega, kk, v4, hz⟩
  rintro σ H5 ⟨v5, t5, n5, b5, rfl, D5, q1, q2, kk5, hv5, ht5⟩
  have N5 := N.kp kk5 (by simp [n1, n2])
  clear D4 kk v4 N4 Dk
  walk_at "rds"
  with_reducible refine r_seqJ (fun σ H' => ∃ (v : V) (t : Ts) (n' : Int) (b l : Option V), σ = [some (.ref d), some (.ref nm), some (.int so), some v, b, l, none] ∧ Deck H' d c n' ∧ n ≤ n' ∧ n' ≤ n + 75 ∧ Kp [d, c] H H' ∧ Dt K H' v t.d ∧ t.ok 0) (fun nx' kn => ?_) ?_
  · walk_at "rd"
    refine ifd (fun c1 => ?_) (fun c1 => ?_)
    · walk_at "rd"
      refine spDraw.use D5 (by omega) (by omega) (by omega) fun H6 u u0 u1 D6 k6 => ?_
      have N6 := N5.kp k6 (by simp [n1, n2])
      walk_at "rd"
      refine spExprA.use D6 (by omega) N6 n1 n2 (by omega) (by omega) fun H7 v e n7 D7 q3 q4 k7 hv he => ?_
      have N7 := N6.kp k7 (by simp [n1, n2])
      walk_at "rd"
      refine spDraw.use D7 (by omega) (by omega) (by omega) fun H8 y y0 y1 D8 k8 => ?_
      have N8 := N7.kp k8 (by simp [n1, n2])
      walk_at "rd"
      refine spExprA.use D8 (by omega) N8 n1 n2 (by omega) (by omega) fun H9 v9 e9 n9 D9 q5 q6 k9 hv9 he9 => ?_
      walk_at "rd"
      refine ⟨by simp [sizeLine_eq], fun pa hpa => ?_⟩
      have ka : Kp [] H9 (upd H9 pa (.tup [.str "less", v, v9])) := Kp.nil.new hpa
      refine kn _ _ ⟨_, .less e e9, _, _, _, rfl, D9.kp ka (by simp) (by simp), by omega, by omega, ((((kk5.trans k6).trans k7).trans k8).trans k9).new hpa, ?_, ⟨he, he9⟩⟩
      exact Dt.mk3 upd_same (.str _) (((hv.kp k8).kp k9).kp ka) (hv9.kp ka)
    · walk_at "rd"
      exact kn _ _ ⟨_, t5, _, _, _, rfl, D5, by omega, by omega, kk5, hv5, ht5⟩
  rintro σ H6 ⟨v6, t6, n6, b6, l6, rfl, D6, q3, q4, kk6, hv6, ht6⟩
  walk_at "rd"
  refine ⟨by decide, fun p7 hp7 => ?_⟩
  have k7 : Kp [d, c] H6 (upd H6 p7 (.lst [.int 0, .int 0, .int 1, .int 2])) := (Kp.refl D6.ls).new hp7
  have D7 := D6.kp (Kp.nil.new (o := .lst [.int 0, .int 0, .int 1, .int 2]) hp7) (by simp) (by simp)
  have h7 : upd H6 p7 (.lst [.int 0, .int 0, .int 1, .int 2]) p7 = some (.lst [.int 0, .int 0, .int 1, .int 2]) := upd_same
  have pd : p7 ≠ d := Ne.symm (ne_of_none D6.hd hp7)
  have pc : p7 ≠ c := by
    obtain ⟨cs, hc, _⟩ := D6.hc
    exact Ne.symm (ne_of_none hc hp7)
  generalize upd H6 p7 (.lst [.int 0, .int 0, .int 1, .int 2]) = H7 at k7 D7 h7 ⊢
  refine spOne.list D7 (by omega) (SqL.of h7) pd pc (by simp) (by simp) fun H8 i x hx D8 k8 => ?_
  have hx' : ∃ u : Int, x = .int u ∧ 0 ≤ u ∧ u ≤ 2 := by
    have hm := List.mem_of_getElem? hx
    simp only [List.mem_cons, List.not_mem_nil, or_false] at hm
    rcases hm with rfl | rfl | rfl | rfl <;> exact ⟨_, rfl, by omega, by omega⟩
  obtain ⟨u, rfl, u0, u1⟩ := hx'
  walk_at "rd"
  refine r_ForR (fun i σ H' => ∃ (v : V) (t : Ts) (b l kx : Option V), σ = [some (.ref d), some (.ref nm), some (.int so), some v, b, l, kx] ∧ Deck H' d c (n6 + 1) ∧ Kp [d, c] H H' ∧ Dt K H' v t.d ∧ t.ok i)
    (by omega) (by omega) ⟨_, t6, _, _, _, rfl, D8, (kk6.trans k7).trans k8, (hv6.kp k7).kp k8, ht6⟩ ?_ ?_
  · rintro i σ H9 hi ⟨v, t, b, l, kx, rfl, D9, k9, hv, ht⟩
    walk_at "rd"
    refine ⟨by simp [sizeLine_eq], fun pa hpa => ?_⟩
    have ka : Kp [] H9 (upd H9 pa (.tup [.str "not", v])) := Kp.nil.new hpa
    walk_at "rd"
    exact ⟨_, .not t, _, _, _, rfl, D9.kp ka (by simp) (by simp), k9.new hpa, Dt.mk2 upd_same (.str _) (hv.kp ka), ht⟩
  · rintro σ H9 ⟨v, t, b, l, kx, rfl, D9, k9, hv, ht⟩
    walk_at "rd"
    exact k _ _ t _ D9 (by omega) (by omega) k9 hv (ht.mono (by omega))
abbrev s_law_block : Stmt := topS 16
abbrev N_law_block : List Str := ["_law_deck_here", "_law_names_here", "_law_depth", "_law_times", "_law_left", "_law_found", "_law_k"]
abbrev P_law_block : List Str := ["_law_deck_here", "_law_names_here", "_law_depth", "_law_times", "_law_left"]
theorem sc_law_block : FnScope N_law_block P_law_block (defScope s_law_block) :=
  ⟨rfl, rfl, rfl, by decide +kernel, rfl, by decide +kernel, by decide +kernel⟩
theorem ok_law_block (D : Df K mg "_law_block" s_law_block P_law_block) (B : Blt mg) {e lv : Nat} (hlv : 3 ≤ lv)
    (G_law_one : Has P w K mg base CX0 "_law_one" ["_law_deck_here", "_law_items"] 2 (spOne K))
    (G_law_statement : Has P w K mg base CX0 "_law_statement" ["_law_deck_here", "_law_names_here", "_law_depth", "_law_times", "_law_left"] lv (spStmt K e)) :
    Has P w K mg base CX0 "_law_block" P_law_block (lv + 1) (spBlock K e) := by
  refine D.has sc_law_block (fun vs H Q E h => ?_) (fun f cdv A outer s H vs Q E hr h => ?_)
  · obtain ⟨d, c, nm, l, n, dep, ti, a, b, r, s, xs, rfl, _⟩ := h
    rfl
  obtain ⟨d, c, nm, l, n, dep, ti, a, b, r, s, xs, rfl, Dk, hn, N, n1, n2, n3, l1, l2, hL, ha, ha1, hdep, k⟩ := h
  have n0 := Dk.n0
  refine ⟨_, (pss_cons (ps_set (i := 5) sc_law_block.nd rfl (Or.inl rfl) (pe_lst pa_nil))
      (pss_cons (ps_for PassesOwn.never rfl (pi_range1 (by rfl) B.range (pa_cons (pe_op op_add (pe_f G_law_one (hr.mono (by omega)) (by rfl) pass0 (pa_cons (pv 0) (pa_cons (pe_lst (pa_cons pe_int (pa_cons pe_int (pa_cons pe_int (pa_cons pe_int (pa_cons pe_int pa_nil)))))) pa_nil))) (pe_callTy c_int (by rfl) B.int (by decide +kernel) (pa_cons (pe_cmpR op_eq (pv 2) pe_int (nomark _)) pa_nil))) pa_nil)) (pg_name (i := 6) sc_law_block.nd rfl (Or.inl rfl))
        (pss_one (ps_if (PW.pt (pw_and (pt_cmpR op_gt (pe_ix ix_list (pv 4) pe_int (fun _ _ => rfl)) pe_int (nomark _)) (pw_and1 (pt_cmpR op_ge (pe_ix ix_list (pv 4) pe_int (fun _ _ => rfl)) (pv 3) (nomark _))))) (pss_one (ps_expr (pe_bm PySem.F.plainAttrs_list PySem.F.slot_list_append PySem.F.type_list_append mt_append (pv 5) (pa_cons (pe_f G_law_statement (hr.mono (by omega)) (by rfl) pass0 (pa_cons (pv 0) (pa_cons (pv 1) (pa_cons (pv 2) (pa_cons (pv 3) (pa_cons (pv 4) pa_nil)))))) pa_nil))))
        pss_nil)))
      (pss_one (ps_ret (pe_callTy c_tup (by rfl) B.tuple (by decide +kernel) (pa_cons (pv 5) pa_nil)))))), ?_⟩
  walk_at "rd"
  refine ⟨by decide, fun q hq => ?_⟩
  have hqd : q ≠ d := Ne.symm (ne_of_none Dk.hd hq)
  have hqc : q ≠ c := by
    obtain ⟨cs, hc, _⟩ := Dk.hc
    exact Ne.symm (ne_of_none hc hq)
  have hql : q ≠ l := Ne.symm (ne_of_none (show H l = _ from hL) hq)
  have hqn : q ≠ nm := Ne.symm (ne_of_none N.h hq)
  have ls : Ls [d, c, l] H := by
    intro z hz
    rcases List.mem_cons.mp hz with rfl | hz
    · exact ⟨_, Dk.hd⟩
    rcases List.mem_cons.mp hz with rfl | hz
    · obtain ⟨cs, hc, _⟩ := Dk.hc
      exact ⟨_, hc⟩
    · rw [List.mem_singleton.mp hz]
      exact ⟨_, hL⟩
  have k1 : Kp [d, c, l] H (upd H q (.lst [])) := (Kp.refl ls).new hq
  have k1' : Kp [] H (upd H q (.lst [])) := Kp.nil.new hq
  have D1 := Dk.kp k1' (by simp) (by simp)
  have L1 : Lft (upd H q (.lst [])) l a b r s := k1'.get hL (by simp)
  have q1 : upd H q (.lst []) q = some (.lst []) := upd_same
  generalize upd H q (.lst []) = H1 at k1 k1' D1 L1 q1 ⊢
  walk_at "rd"
  refine ⟨by decide, fun p hp => ?_⟩
  have k2' : Kp [] H1 (upd H1 p (.lst [.int 1, .int 2, .int 2, .int 3, .int 4])) := Kp.nil.new hp
  have D2 := D1.kp k2' (by simp) (by simp)
  have p2 : upd H1 p (.lst [.int 1, .int 2, .int 2, .int 3, .int 4]) p = some (.lst [.int 1, .int 2, .int 2, .int 3, .int 4]) := upd_same
  have k2 : Kp [d, c, l] H (upd H1 p (.lst [.int 1, .int 2, .int 2, .int 3, .int 4])) := k1.new hp
  have L2 : Lft (upd H1 p (.lst [.int 1, .int 2, .int 2, .int 3, .int 4])) l a b r s := k2'.get L1 (by simp)
  have q2 := k2'.get q1 (by simp)
  have pd : p ≠ d := Ne.symm (ne_of_none D1.hd hp)
  have pc : p ≠ c := by
    obtain ⟨cs, hc, _⟩ := D1.hc
    exact Ne.symm (ne_of_none hc hp)
  generalize upd H1 p (.lst [.int 1, .int 2, .int 2, .int 3, .int 4]) = H2 at k2 D2 p2 L2 q2 ⊢
  refine spOne.list D2 (by omega) (SqL.of p2) pd pc (by simp) (by simp) fun H3 i x hx D3 k3 => ?_
  have hx' : ∃ u : Int, x = .int u ∧ 1 ≤ u ∧ u ≤ 4 := by
    have hm := List.mem_of_getElem? hx
    simp only [List.mem_cons, List.not_mem_nil, or_false] at hm
    rcases hm with rfl | rfl | rfl | rfl | rfl <;> exact ⟨_, rfl, by omega, by omega⟩
  obtain ⟨u, rfl, u0, u1⟩ := hx'
  have k3' : Kp [d, c, l] H2 H3 := k3.sub (fun z hz => by
    rcases List.mem_cons.mp hz with rfl | hz
    · exact ⟨_, D2.hd⟩
    rcases List.mem_cons.mp hz with rfl | hz
    · obtain ⟨cs, hc, _⟩ := D2.hc
      exact ⟨_, hc⟩
    · rw [List.mem_singleton.mp hz]
      exact ⟨_, L2⟩) (by simp)
  have kk3 := k2.trans k3'
  have L3 : Lft H3 l a b r s := k3.get L2 (by simp [l1, l2])
  have q3 := k3.get q2 (by simp [hqd, hqc])
  walk_at "rd"
  generalize ew : u + (if decide (V.int dep = V.int 0) = true then 1 else 0) = m
  have hm0 : 0 ≤ m ∧ m ≤ 5 := by
    rw [← ew]
    split <;> omega
  refine r_ForR (fun i σ H' => ∃ (vs : List V) (x : List Sm) (n' a' b' r' s' : Int) (kx : Option V), σ = [some (.ref d), some (.ref nm), some (.int dep), some (.int ti), some (.ref l), some (.ref q), kx] ∧
      Deck H' d c n' ∧ n ≤ n' ∧ n' ≤ n + 1 + 150 * (a - a') ∧ Lft H' l a' b' r' s' ∧ 0 ≤ a' ∧ (Sm.sizes x : Int) ≤ a - a' ∧ Kp [d, c, l] H H' ∧ H' q = some (.lst vs) ∧ DtL K H' vs (Sm.ds x) ∧ vs.length ≤ i ∧ ∀ s ∈ x, Sm.ok e s)
    (by omega) (by omega) ⟨[], [], n + 1, a, b, r, s, none, rfl, D3, by omega, by omega, L3, ha, by rw [Sm.sizes]; omega, kk3, q3, by rw [Sm.ds]; exact DtL.nil, Nat.le_refl _, fun _ h => (nomatch h)⟩ ?_ ?_
  · rintro i σ H4 hi ⟨vs, x, n4, a4, b4, r4, s4, kx, rfl, D4, m1, m2, L4, a40, sz4, k4, q4, t4, v4, o4⟩
    have L4' := L4
    unfold Lft at L4'
    walk_at "rd"
    refine ite2 (fun c1 => ?_) (fun c1 => ?_)
    · simp only [Bool.and_eq_true, decide_eq_true_eq] at c1
      walk_at "rd"
      refine ⟨d, c, nm, l, n4, dep, ti, a4, b4, r4, s4, xs, rfl, D4, by omega, N.kp k4 (by simp [n1, n2, n3]), n1, n2, n3, l1, l2, L4, by omega, by omega, hdep, fun H5 v y n5 a5 b5 r5 s5 D5 m3 m4 L5 a50 sz5 k5 hv hy => ?_⟩
      have q5 := k5.get q4 (by simp [hqd, hqc, hql])
      walk_at "rd"
      · have k6 := kpW (o := .lst (vs ++ [v])) q5
        refine ⟨vs ++ [v], x ++ [y], n5, a5, b5, r5, s5, _, rfl, D5.kp k6 (by simp [Ne.symm hqd]) (by simp [Ne.symm hqc]), by omega, by omega, k6.get L5 (by simp [Ne.symm hql]), a50, ?_, (k4.trans k5).own hq, upd_same, ?_, ?_, ?_⟩
        · rw [Sm.sizes_snoc]
          omega
        · rw [Sm.ds_snoc]
          exact ((t4.kp k5).kp k6).snoc (hv.kp k6)
        · rw [List.length_append, List.length_singleton]
          omega
        · intro z hz
          rcases List.mem_append.mp hz with hz | hz
          · exact o4 z hz
          · rw [List.mem_singleton.mp hz]
            exact hy
      · walk_at "sz"
    · walk_at "rd"
      exact ⟨vs, x, n4, a4, b4, r4, s4, _, rfl, D4, m1, m2, L4, a40, sz4, k4, q4, t4, by omega, o4⟩
  · rintro σ H4 ⟨vs, x, n4, a4, b4, r4, s4, kx, rfl, D4, m1, m2, L4, a40, sz4, k4, q4, t4, v4, o4⟩
    walk_at "rd"
    refine r_tupL (SqL.of q4) fun t ht => ?_
    have k5 : Kp [] H4 (upd H4 t (.tup vs)) := Kp.nil.new ht
    exact k _ _ x n4 a4 b4 r4 s4 (D4.kp k5 (by simp) (by simp)) m1 m2 (k5.get L4 (by simp)) a40 sz4 (k4.new ht) ((t4.kp k5).tup upd_same) o4
abbrev s_law_if : Stmt := topS 17
abbrev N_law_if : List Str := ["_law_deck_here", "_law_names_here", "_law_depth", "_law_times", "_law_left", "_law_at", "_law_test_here", "_law_yes", "_law_no"]
abbrev P_law_if : List Str := ["_law_deck_here", "_law_names_here", "_law_depth", "_law_times", "_law_left", "_law_at"]
theorem sc_law_if : FnScope N_law_if P_law_if (defScope s_law_if) :=
  ⟨rfl, rfl, rfl, by decide +kernel, rfl, by decide +kernel, by decide +kernel⟩
theorem ok_law_if (D : Df K mg "_law_if" s_law_if P_law_if) (B : Blt mg) {e lv : Nat} (hlv : 6 ≤ lv)
    (G_law_draw : Has P w K mg base CX0 "_law_draw" ["_law_deck_here", "_law_many"] 1 spDraw)
    (G_law_test : Has P w K mg base CX0 "_law_test" ["_law_deck_here", "_law_names_here", "_law_sort"] 6 (spTest K))
    (G_law_block : Has P w K mg base CX0 "_law_block" ["_law_deck_here", "_law_names_here", "_law_depth", "_law_times", "_law_left"] lv (spBlock K e)) :
    Has P w K mg base CX0 "_law_if" P_law_if (lv + 1) (spIf K e) := by
  refine D.has sc_law_if (fun vs H Q E h => ?_) (fun f cdv A outer s H vs Q E hr h => ?_)
  · obtain ⟨d, c, nm, l, n, dep, ti, a, b, r, s, at_, xs, rfl, _⟩ := h
    rfl
  obtain ⟨d, c, nm, l, n, dep, ti, a, b, r, s, at_, xs, rfl, Dk, hn, N, n1, n2, n3, l1, l2, hL, ha, ha1, hdep, at0, at1, k⟩ := h
  have n0 := Dk.n0
  refine ⟨_, (pss_cons (ps_if (pt_cmpR op_lt (pv 5) pe_int (nomark _)) (pss_one (ps_asg (pe_op op_sub (pe_ix ix_list (pv 4) (pv 5) (fun _ _ => rfl)) (pv 3)) (pg_sub (pv 4) (pv 5) set_list)))
        pss_nil)
      (pss_cons (ps_par3 (i := 6) (j := 7) (l := 8) (by rfl) sc_law_if.nd rfl rfl rfl (by decide) (by decide) (by decide) rfl rfl rfl (pa_cons (pe_f G_law_test (hr.mono (by omega)) (by rfl) pass0 (pa_cons (pv 0) (pa_cons (pv 1) (pa_cons (pv 5) pa_nil)))) (pa_cons (pe_tup pa_nil) (pa_cons (pe_tup pa_nil) pa_nil))) (by rfl))
      (pss_cons (ps_if (pt_cmpR op_gt (pe_f G_law_draw (hr.mono (by omega)) (by rfl) pass0 (pa_cons (pv 0) (pa_cons pe_int pa_nil))) pe_int (nomark _)) (pss_one (ps_set (i := 7) sc_law_if.nd rfl (Or.inl rfl) (pe_f G_law_block (hr.mono (by omega)) (by rfl) pass0 (pa_cons (pv 0) (pa_cons (pv 1) (pa_cons (pe_op op_add (pv 2) pe_int) (pa_cons (pv 3) (pa_cons (pv 4) pa_nil))))))))
        pss_nil)
      (pss_cons (ps_if (pt_cmpR op_gt (pe_f G_law_draw (hr.mono (by omega)) (by rfl) pass0 (pa_cons (pv 0) (pa_cons pe_int pa_nil))) pe_int (nomark _)) (pss_one (ps_set (i := 8) sc_law_if.nd rfl (Or.inl rfl) (pe_f G_law_block (hr.mono (by omega)) (by rfl) pass0 (pa_cons (pv 0) (pa_cons (pv 1) (pa_cons (pe_op op_add (pv 2) pe_int) (pa_cons (pv 3) (pa_cons (pv 4) pa_nil))))))))
        pss_nil)
      (pss_one (ps_ret (pe_tup (pa_cons pe_str (pa_cons (pv 6) (pa_cons (pv 7) (pa_cons (pv 8) pa_nil))))))))))), ?_⟩
  with_reducible refine r_seqJ (fun σ H' => σ = [some (.ref d), some (.ref nm), some (.int dep), some (.int ti), some (.ref l), some (.int at_), none, none, none] ∧
    ∃ r1 s1, Lft H' l a b r1 s1 ∧ Deck H' d c n ∧ Kp [d, c, l] H H') (fun nx' kn => ?_) ?_
  · have hL' := hL
    unfold Lft at hL'
    walk_at "rd"
    refine ifd (fun c1 => ?_) (fun c1 => ?_)
    · have kw : ∀ o, Kp [l] H (upd H l o) := fun o => kpW hL'
      have kw3 : ∀ o, Kp [d, c, l] H (upd H l o) := fun o => (Kp.refl (Dk.ls3 hL')).write (by simp)
      have ne1 : d ∉ [l] := by simp [Ne.symm l1]
      have ne2 : c ∉ [l] := by simp [Ne.symm l2]
      rcases (show at_ = 2 ∨ at_ = 3 by omega) with rfl | rfl
      · walk_at "rd"
        exact kn _ _ ⟨rfl, _, _, upd_same, Dk.kp (kw _) ne1 ne2, kw3 _⟩
      · walk_at "rd"
        exact kn _ _ ⟨rfl, _, _, upd_same, Dk.kp (kw _) ne1 ne2, kw3 _⟩
    · walk_at "rd"
      exact kn _ _ ⟨rfl, r, s, hL, Dk, Kp.refl (Dk.ls3 hL')⟩
  rintro σ H1 ⟨rfl, r1, s1, L1, D1, k1⟩
  have N1 := N.kp k1 (by simp [n1, n2, n3])
  walk_at "rd"
  refine ⟨d, c, nm, n, at_, xs, rfl, D1, by omega, N1, n1, n2, fun H2 v t nn2 D2 q1 q2 k2 hv ht => ?_⟩
  have L2 : Lft H2 l a b r1 s1 := k2.get L1 (by simp [l1, l2])
  have k2' := k1.trans (k2.sub (D1.ls3 L1) (by simp))
  have N2 := N1.kp k2 (by simp [n1, n2])
  walk_at "rd"
  refine ⟨by decide, fun p3 hp3 => ?_⟩
  have k3 : Kp [] H2 (upd H2 p3 (.tup [])) := Kp.nil.new hp3
  have D3 := D2.kp k3 (by simp) (by simp)
  have L3 : Lft (upd H2 p3 (.tup [])) l a b r1 s1 := k3.get L2 (by simp)
  have kk3 := k2'.new (o := .tup []) hp3
  have v3 := hv.kp k3
  have y3 : Dt K (upd H2 p3 (.tup [])) (.ref p3) (.tuple []) := Dt.mk0 upd_same
  have N3 := N2.kp k3 (by simp)
  generalize upd H2 p3 (.tup []) = H3 at D3 L3 kk3 v3 y3 N3 ⊢
  walk_at "rd"
  refine ⟨by decide, fun p4 hp4 => ?_⟩
  have k4 : Kp [] H3 (upd H3 p4 (.tup [])) := Kp.nil.new hp4
  have D4 := D3.kp k4 (by simp) (by simp)
  have L4 : Lft (upd H3 p4 (.tup [])) l a b r1 s1 := k4.get L3 (by simp)
  have kk4 := kk3.new (o := .tup []) hp4
  have v4 := v3.kp k4
  have y4 := y3.kp k4
  have z4 : Dt K (upd H3 p4 (.tup [])) (.ref p4) (.tuple []) := Dt.mk0 upd_same
  have N4 := N3.kp k4 (by simp)
  generalize upd H3 p4 (.tup []) = H4 at D4 L4 kk4 v4 y4 z4 N4 ⊢
  clear hv y3 v3 N3 N2 k2' kk3 D3 L3 k1 D1 L1 k2 k3 k4 D2 L2 hp3 hp4 N1
  walk_at "rds"
  with_reducible refine r_seqJ (fun σ H' => ∃ (yv : V) (y : List Sm) (n' a' b' r' s' : Int), σ = [some (.ref d), some (.ref nm), some (.int dep), some (.int ti), some (.ref l), some (.int at_), some v, some yv, some (.ref p4)] ∧
    Deck H' d c n' ∧ n ≤ n' ∧ n' ≤ n + 82 + 150 * (a - a') ∧ Lft H' l a' b' r' s' ∧ 0 ≤ a' ∧ a' ≤ a ∧ (Sm.sizes y : Int) ≤ a - a' ∧ Kp [d, c, l] H H' ∧ Dt K H' v t.d ∧ Dt K H' yv (.tuple (Sm.ds y)) ∧ (∀ s ∈ y, Sm.ok e s) ∧ Dt K H' (.ref p4) (.tuple [])) (fun nx' kn => ?_) ?_
  · walk_at "rd"
    refine spDraw.use D4 (by omega) (by omega) (by omega) fun H5 u u0 u1 D5 k5 => ?_
    have L5 : Lft H5 l a b r1 s1 := k5.get L4 (by simp [l1, l2])
    have kk5 := kk4.trans (k5.sub (D4.ls3 L4) (by simp))
    have N5 := N4.kp k5 (by simp [n1, n2])
    walk_at "rd"
    refine ifd (fun c1 => ?_) (fun c1 => ?_)
    · walk_at "rd"
      refine ⟨d, c, nm, l, _, dep + 1, ti, a, b, r1, s1, xs, rfl, D5, by omega, N5, n1, n2, n3, l1, l2, L5, ha, ha1, by omega, fun H6 yv y n6 a6 b6 r6 s6 D6 q3 q4 L6 a60 sz6 k6 hy oy => ?_⟩
      walk_at "rd"
      exact kn _ _ ⟨yv, y, n6, a6, b6, r6, s6, rfl, D6, by omega, by omega, L6, a60, by omega, sz6, kk5.trans k6, (v4.kp k5).kp k6, hy, oy, (z4.kp k5).kp k6⟩
    · walk_at "rd"
      exact kn _ _ ⟨_, [], _, a, b, r1, s1, rfl, D5, by omega, by omega, L5, ha, by omega, by rw [Sm.sizes]; omega, kk5, v4.kp k5, by rw [Sm.ds]; exact y4.kp k5, fun _ h => (nomatch h), z4.kp k5⟩
  rintro σ H5 ⟨yv, y, n5, a5, b5, r5, s5, rfl, D5, q3, q4, L5, a50, a51, sz5, k5, v5, y5, oy, z5⟩
  have N5 := N.kp k5 (by simp [n1, n2, n3])
  walk_at "rds"
  with_reducible refine r_seqJ (fun σ H' => ∃ (zv : V) (z : List Sm) (n' a' b' r' s' : Int), σ = [some (.ref d), some (.ref nm), some (.int dep), some (.int ti), some (.ref l), some (.int at_), some v, some yv, some zv] ∧
    Deck H' d c n' ∧ n ≤ n' ∧ n' ≤ n + 84 + 150 * (a - a') ∧ Lft H' l a' b' r' s' ∧ 0 ≤ a' ∧ (Sm.sizes y + Sm.sizes z : Int) ≤ a - a' ∧ Kp [d, c, l] H H' ∧ Dt K H' v t.d ∧ Dt K H' yv (.tuple (Sm.ds y)) ∧ (∀ s ∈ z, Sm.ok e s) ∧ Dt K H' zv (.tuple (Sm.ds z))) (fun nx' kn => ?_) ?_
  · walk_at "rd"
    refine spDraw.use D5 (by omega) (by omega) (by omega) fun H6 u u0 u1 D6 k6 => ?_
    have L6 : Lft H6 l a5 b5 r5 s5 := k6.get L5 (by simp [l1, l2])
    have kk6 := k5.trans (k6.sub (D5.ls3 L5) (by simp))
    have N6 := N5.kp k6 (by simp [n1, n2])
    walk_at "rd"
    refine ifd (fun c1 => ?_) (fun c1 => ?_)
    · walk_at "rd"
      refine ⟨d, c, nm, l, _, dep + 1, ti, a5, b5, r5, s5, xs, rfl, D6, by omega, N6, n1, n2, n3, l1, l2, L6, a50, by omega, by omega, fun H7 zv z n7 a7 b7 r7 s7 D7 q5 q6 L7 a70 sz7 k7 hz oz => ?_⟩
      walk_at "rd"
      exact kn _ _ ⟨zv, z, n7, a7, b7, r7, s7, rfl, D7, by omega, by omega, L7, a70, by omega, kk6.trans k7, (v5.kp k6).kp k7, (y5.kp k6).kp k7, oz, hz⟩
    · walk_at "rd"
      exact kn _ _ ⟨_, [], _, a5, b5, r5, s5, rfl, D6, by omega, by omega, L6, a50, by rw [Sm.sizes]; omega, kk6, v5.kp k6, y5.kp k6, fun _ h => (nomatch h), by rw [Sm.ds]; exact z5.kp k6⟩
  rintro σ H6 ⟨zv, z, n6, a6, b6, r6, s6, rfl, D6, q5, q6, L6, a60, sz6, k6, v6, y6, oz, z6⟩
  walk_at "rd"
  refine ⟨by simp [sizeLine_eq], fun p7 hp7 => ?_⟩
  have k7 : Kp [] H6 (upd H6 p7 (.tup [.str "if", v, yv, zv])) := Kp.nil.new hp7
  refine k _ _ (.ifs t y z) n6 a6 b6 r6 s6 (D6.kp k7 (by simp) (by simp)) q5 (by omega) (k7.get L6 (by simp)) a60 (by rw [Sm.size]; omega) (k6.new hp7) ?_ ⟨ht, oy, oz⟩
  rw [Sm.d]
  exact Dt.mk4 upd_same (.str _) (v6.kp k7) (y6.kp k7) (z6.kp k7)
abbrev s_law_statement : Stmt := topS 18
abbrev N_law_statement : List Str := ["_law_deck_here", "_law_names_here", "_law_depth", "_law_times", "_law_left", "_law_way", "_law_at", "_law_many", "_law_is_empty"]
abbrev P_law_statement : List Str := ["_law_deck_here", "_law_names_here", "_law_depth", "_law_times", "_law_left"]
theorem sc_law_statement : FnScope N_law_statement P_law_statement (defScope s_law_statement) :=
  ⟨rfl, rfl, rfl, by decide +kernel, rfl, by decide +kernel, by decide +kernel⟩
theorem ok_law_statement (D : Df K mg "_law_statement" s_law_statement P_law_statement) (B : Blt mg) {e lv : Nat} {sp1 sp2 : Sp} (hlv : 6 ≤ lv)
    (G_law_draw : Has P w K mg base CX0 "_law_draw" ["_law_deck_here", "_law_many"] 1 spDraw) (G_law_one : Has P w K mg base CX0 "_law_one" ["_law_deck_here", "_law_items"] 2 (spOne K))
    (G_law_expr : Has P w K mg base CX0 "_law_expr" ["_law_deck_here", "_law_names_here", "_law_deep"] 5 (spExprA K))
    (G_law_if : Has P w K mg base CX0 "_law_if" ["_law_deck_here", "_law_names_here", "_law_depth", "_law_times", "_law_left", "_law_at"] lv sp1)
    (G_law_block : Has P w K mg base CX0 "_law_block" ["_law_deck_here", "_law_names_here", "_law_depth", "_law_times", "_law_left"] lv sp2)
    (hs : ∀ m, e = m + 1 → sp1 = spIf K m ∧ sp2 = spBlock K m) :
    Has P w K mg base CX0 "_law_statement" P_law_statement (lv + 1) (spStmt K e) := by
  refine D.has sc_law_statement (fun vs H Q E h => ?_) (fun f cdv A outer s H vs Q E hr h => ?_)
  · obtain ⟨d, c, nm, l, n, dep, ti, a, b, r, s, xs, rfl, _⟩ := h
    rfl
  obtain ⟨d, c, nm, l, n, dep, ti, a, b, r, s, xs, rfl, Dk, hn, N, n1, n2, n3, l1, l2, hL, ha, ha1, hdep, k⟩ := h
  have n0 := Dk.n0
  refine ⟨_, (pss_cons (ps_asg (pe_tup (pa_cons (pe_op op_sub (pe_ix ix_list (pv 4) pe_int (fun _ _ => rfl)) pe_int) (pa_cons (pe_op op_sub (pe_ix ix_list (pv 4) pe_int (fun _ _ => rfl)) (pv 3)) pa_nil))) (pg_tup rfl (pgs_cons (pg_sub (pv 4) pe_int set_list) (pgs_cons (pg_sub (pv 4) pe_int set_list) pgs_nil))))
      (pss_cons (ps_par (i := 5) (j := 6) (by rfl) sc_law_statement.nd rfl rfl (by decide) rfl rfl (pa_cons (pe_f G_law_draw (hr.mono (by omega)) (by rfl) pass0 (pa_cons (pv 0) (pa_cons pe_int pa_nil))) (pa_cons (pe_f G_law_one (hr.mono (by omega)) (by rfl) pass0 (pa_cons (pv 0) (pa_cons (pe_lst (pa_cons pe_int (pa_cons pe_int (pa_cons pe_int pa_nil)))) pa_nil))) pa_nil)) (by rfl))
      (pss_cons (ps_if (PW.pt (pw_and (pt_cmpR op_in_seq (pv 5) (pe_lst (pa_cons pe_int (pa_cons pe_int pa_nil))) (by rfl)) (pw_and (pt_cmpR op_lt (pv 2) pe_int (nomark _)) (pw_and1 (PW.pt (pw_or (pt_cmpR op_eq (pv 6) pe_int (nomark _)) (pw_or1 (pt_cmpR op_ge (pe_ix ix_list (pv 4) (pv 6) (fun _ _ => rfl)) (pv 3) (nomark _))))))))) (pss_one (ps_ret (pe_f G_law_if (hr.mono (by omega)) (by rfl) pass0 (pa_cons (pv 0) (pa_cons (pv 1) (pa_cons (pv 2) (pa_cons (pv 3) (pa_cons (pv 4) (pa_cons (pv 6) pa_nil)))))))))
        pss_nil)
      (pss_cons (ps_if (PW.pt (pw_and (pt_cmpR op_eq (pv 5) pe_int (nomark _)) (pw_and1 (pt_cmpR op_lt (pv 2) pe_int (nomark _))))) (pss_cons (ps_par (i := 7) (j := 8) (by rfl) sc_law_statement.nd rfl rfl (by decide) rfl rfl (pa_cons (pe_f G_law_one (hr.mono (by omega)) (by rfl) pass0 (pa_cons (pv 0) (pa_cons (pe_lst (pa_cons pe_int (pa_cons pe_int (pa_cons pe_int (pa_cons pe_int (pa_cons pe_int (pa_cons pe_int pa_nil))))))) pa_nil))) (pa_cons (pe_cmpR op_eq (pe_f G_law_draw (hr.mono (by omega)) (by rfl) pass0 (pa_cons (pv 0) (pa_cons pe_int pa_nil))) pe_int (nomark _)) pa_nil)) (by rfl))
      (pss_one (ps_ret (pe_tup (pa_cons pe_str (pa_cons (pv 7) (pa_cons (pe_ifExp (pt_val (pv 8)) (pe_tup pa_nil) (pe_f G_law_block (hr.mono (by omega)) (by rfl) pass0 (pa_cons (pv 0) (pa_cons (pv 1) (pa_cons (pe_op op_add (pv 2) pe_int) (pa_cons (pe_op op_mul (pv 3) (pv 7)) (pa_cons (pv 4) pa_nil))))))) pa_nil)))))))
        pss_nil)
      (pss_cons (ps_if (pt_cmpR op_eq (pv 5) pe_int (nomark _)) (pss_one (ps_ret (pe_tup (pa_cons pe_str (pa_cons (pe_f G_law_one (hr.mono (by omega)) (by rfl) pass0 (pa_cons (pv 0) (pa_cons (pe_lst (pa_strT (pat_cons (CwR.PET.of pe_str) (pat_cons (CwR.PET.of pe_str) (pat_cons (CwR.PET.of pe_str) (pat_cons (CwR.PET.of pe_str) (pat_cons (CwR.pet_replC (pe_ix ix_list (pv 1) (pe_un un_neg pe_int) (fun _ _ => rfl))) pat_nil))))))) pa_nil))) pa_nil)))))
        pss_nil)
      (pss_cons (ps_if (PW.pt (pw_and (pt_cmpR op_eq (pv 5) pe_int (nomark _)) (pw_and1 (pt_cmpR op_eq (pe_f G_law_draw (hr.mono (by omega)) (by rfl) pass0 (pa_cons (pv 0) (pa_cons pe_int pa_nil))) pe_int (nomark _))))) (pss_one (ps_ret (pe_tup (pa_cons pe_str (pa_cons (pe_f G_law_one (hr.mono (by omega)) (by rfl) pass0 (pa_cons (pv 0) (pa_cons (pe_lst (pa_cons pe_str (pa_cons pe_str (pa_cons pe_str pa_nil)))) pa_nil))) pa_nil)))))
        pss_nil)
      (pss_cons (ps_if (PW.pt (pw_and (pt_cmpR op_eq (pv 5) pe_int (nomark _)) (pw_and1 (pt_cmpR op_eq (pe_f G_law_draw (hr.mono (by omega)) (by rfl) pass0 (pa_cons (pv 0) (pa_cons pe_int pa_nil))) pe_int (nomark _))))) (pss_one (ps_ret (pe_tup (pa_cons pe_str (pa_cons (pe_f G_law_one (hr.mono (by omega)) (by rfl) pass0 (pa_cons (pv 0) (pa_cons (pv 1) pa_nil))) pa_nil)))))
        pss_nil)
      (pss_cons (ps_if (pt_cmpR op_lt (pv 5) pe_int (nomark _)) (pss_one (ps_ret (pe_tup (pa_cons pe_str (pa_cons (pe_f G_law_one (hr.mono (by omega)) (by rfl) pass0 (pa_cons (pv 0) (pa_cons (pv 1) pa_nil))) (pa_cons (pe_f G_law_expr (hr.mono (by omega)) (by rfl) pass0 (pa_cons (pv 0) (pa_cons (pv 1) (pa_cons (pe_op op_add pe_int (pe_f G_law_draw (hr.mono (by omega)) (by rfl) pass0 (pa_cons (pv 0) (pa_cons pe_int pa_nil)))) pa_nil)))) pa_nil))))))
        pss_nil)
      (pss_one (ps_ret (pe_tup (pa_cons pe_str (pa_cons (pe_f G_law_expr (hr.mono (by omega)) (by rfl) pass0 (pa_cons (pv 0) (pa_cons (pv 1) (pa_cons (pe_op op_add pe_int (pe_f G_law_draw (hr.mono (by omega)) (by rfl) pass0 (pa_cons (pv 0) (pa_cons pe_int pa_nil)))) pa_nil)))) pa_nil))))))))))))), ?_⟩
  have hL' := hL
  unfold Lft at hL'
  walk_at "rd"
  refine ⟨by simp [sizeLine_eq], fun p1 hp1 => ?_⟩
  have k1 : Kp [] H (upd H p1 (.tup [.int (a - 1), .int (b - ti)])) := Kp.nil.new hp1
  have D1 := Dk.kp k1 (by simp) (by simp)
  have kk1 : Kp [d, c, l] H (upd H p1 (.tup [.int (a - 1), .int (b - ti)])) := (Kp.refl (Dk.ls3 hL')).new hp1
  have L1 := k1.get hL' (by simp)
  have t1 : upd H p1 (.tup [.int (a - 1), .int (b - ti)]) p1 = some (.tup [.int (a - 1), .int (b - ti)]) := upd_same
  generalize upd H p1 (.tup [.int (a - 1), .int (b - ti)]) = H1 at k1 D1 kk1 L1 t1 ⊢
  walk_at "rd"
  rw [upd_upd]
  have k2 := kpW (o := .lst (([V.int a, V.int b, V.int r, V.int s].set (Int.toNat 0) (V.int (a - 1))).set (Int.toNat 1) (V.int (b - ti)))) L1
  have D2 := D1.kp k2 (by simp [Ne.symm l1]) (by simp [Ne.symm l2])
  have kk2 : Kp [d, c, l] H (upd H1 l (.lst (([V.int a, V.int b, V.int r, V.int s].set (Int.toNat 0) (V.int (a - 1))).set (Int.toNat 1) (V.int (b - ti))))) := kk1.write (by simp)
  have L2 : Lft (upd H1 l (.lst (([V.int a, V.int b, V.int r, V.int s].set (Int.toNat 0) (V.int (a - 1))).set (Int.toNat 1) (V.int (b - ti))))) l (a - 1) (b - ti) r s := upd_same
  generalize upd H1 l (.lst (([V.int a, V.int b, V.int r, V.int s].set (Int.toNat 0) (V.int (a - 1))).set (Int.toNat 1) (V.int (b - ti)))) = H2 at k2 D2 kk2 L2 ⊢
  clear k1 D1 kk1 L1 t1 k2
  refine spDraw.use D2 (by omega) (by omega) (by omega) fun H3 way w0 w1 D3 k3 => ?_
  have L3 : Lft H3 l (a - 1) (b - ti) r s := k3.get L2 (by simp [l1, l2])
  have kk3 := kk2.trans (k3.sub (D2.ls3 L2) (by simp))
  clear D2 kk2 L2 k3
  walk_at "rd"
  refine ⟨by decide, fun p4 hp4 => ?_⟩
  have k4 : Kp [] H3 (upd H3 p4 (.lst [.int 2, .int 3, .int 4])) := Kp.nil.new hp4
  have D4 := D3.kp k4 (by simp) (by simp)
  have L4 : Lft (upd H3 p4 (.lst [.int 2, .int 3, .int 4])) l (a - 1) (b - ti) r s := k4.get L3 (by simp)
  have kk4 := kk3.new (o := .lst [.int 2, .int 3, .int 4]) hp4
  have h4 : upd H3 p4 (.lst [.int 2, .int 3, .int 4]) p4 = some (.lst [.int 2, .int 3, .int 4]) := upd_same
  have f4 := D3.fresh hp4
  generalize upd H3 p4 (.lst [.int 2, .int 3, .int 4]) = H4 at k4 D4 L4 kk4 h4 ⊢
  refine spOne.list D4 (by omega) (SqL.of h4) f4.1 f4.2 (by simp) (by simp) fun H5 i x hx D5 k5 => ?_
  have hx' : ∃ u : Int, x = .int u ∧ 2 ≤ u ∧ u ≤ 4 := by
    have hm := List.mem_of_getElem? hx
    simp only [List.mem_cons, List.not_mem_nil, or_false] at hm
    rcases hm with rfl | rfl | rfl <;> exact ⟨_, rfl, by omega, by omega⟩
  obtain ⟨u, rfl, u0, u1⟩ := hx'
  have L5 : Lft H5 l (a - 1) (b - ti) r s := k5.get L4 (by simp [l1, l2])
  have kk5 := kk4.trans (k5.sub (D4.ls3 L4) (by simp))
  clear D4 kk4 L4 k5 k4 D3 L3 kk3 hp4 h4 f4 hx hp1 hL'
  walk_at "rds"
  -- if: a test that is made by a call
  with_reducible refine r_seqJ (fun σ H' => σ = [some (.ref d), some (.ref nm), some (.int dep), some (.int ti), some (.ref l), some (.int way), some (.int u), none, none] ∧
    ∃ n', Deck H' d c n' ∧ n ≤ n' ∧ n' ≤ n + 2 ∧ Lft H' l (a - 1) (b - ti) r s ∧ Kp [d, c, l] H H') (fun nx' kn => ?_) ?_
  · walk_at "rd"
    refine ⟨by decide, fun p6 hp6 => ?_⟩
    have k6 : Kp [] H5 (upd H5 p6 (.lst [.int 3, .int 4])) := Kp.nil.new hp6
    have D6 := D5.kp k6 (by simp) (by simp)
    have L6 : Lft (upd H5 p6 (.lst [.int 3, .int 4])) l (a - 1) (b - ti) r s := k6.get L5 (by simp)
    have kk6 := kk5.new (o := .lst [.int 3, .int 4]) hp6
    have h6 : upd H5 p6 (.lst [.int 3, .int 4]) p6 = some (.lst [.int 3, .int 4]) := upd_same
    generalize upd H5 p6 (.lst [.int 3, .int 4]) = H6 at D6 L6 kk6 h6 ⊢
    have L6' := L6
    unfold Lft at L6'
    have N6 := N.kp kk6 (by simp [n1, n2, n3])
    have callIf : ∀ m, e = m + 1 → spIf K m [.ref d, .ref nm, .int dep, .int ti, .ref l, .int u] H6 Q E0 := by
      intro m hm
      refine ⟨d, c, nm, l, _, dep, ti, a - 1, b - ti, r, s, u, xs, rfl, D6, by omega, N6, n1, n2, n3, l1, l2, L6, by omega, by omega, by omega, u0, u1, fun H7 v x n7 a7 b7 r7 s7 D7 q1 q2 L7 a70 sz7 k7 hv hx => ?_⟩
      exact k H7 v x n7 a7 b7 r7 s7 D7 (by omega) (by omega) L7 a70 (by omega) (kk6.trans k7) hv (by rw [hm]; exact hx)
    refine r_in (.inl (SqL.of h6)) rfl rfl ?_
    walk_at "rd"
    refine ite2 (fun c1 => ?_) (fun c1 => ?_)
    · walk_at "rd"
      refine ifd (fun c2 => ?_) (fun c2 => ?_)
      · obtain ⟨m, rfl⟩ : ∃ m, e = m + 1 := ⟨e - 1, by omega⟩
        obtain ⟨rfl, rfl⟩ := hs m rfl
        walk_at "rd"
        refine ifd (fun c3 => ?_) (fun c3 => ?_)
        · walk_at "rd"
          exact callIf m rfl
        · rw [V.int.injEq] at c3
          rcases (show u = 2 ∨ u = 3 by omega) with rfl | rfl
          · walk_at "rd"
            refine ifd (fun c4 => ?_) (fun c4 => ?_)
            · walk_at "rd"
              exact callIf m rfl
            · walk_at "rd"
              exact kn _ _ ⟨rfl, _, D6, by omega, by omega, L6, kk6⟩
          · walk_at "rd"
            refine ifd (fun c4 => ?_) (fun c4 => ?_)
            · walk_at "rd"
              exact callIf m rfl
            · walk_at "rd"
              exact kn _ _ ⟨rfl, _, D6, by omega, by omega, L6, kk6⟩
      · walk_at "rd"
        exact kn _ _ ⟨rfl, _, D6, by omega, by omega, L6, kk6⟩
    · walk_at "rd"
      exact kn _ _ ⟨rfl, _, D6, by omega, by omega, L6, kk6⟩
  clear D5 L5 kk5
  rintro σ H5 ⟨rfl, n5, D5, m1, m2, L5, kk5⟩
  have N5 := N.kp kk5 (by simp [n1, n2, n3])
  walk_at "rds"
  -- repeat
  with_reducible refine r_seqJ (fun σ H' => σ = [some (.ref d), some (.ref nm), some (.int dep), some (.int ti), some (.ref l), some (.int way), some (.int u), none, none] ∧ H' = H5) (fun nx' kn => ?_) ?_
  · walk_at "rd"
    refine ite2 (fun c1 => ?_) (fun c1 => ?_)
    · simp only [Bool.and_eq_true, decide_eq_true_eq, V.int.injEq] at c1
      obtain ⟨m, rfl⟩ : ∃ m, e = m + 1 := ⟨e - 1, by omega⟩
      obtain ⟨rfl, rfl⟩ := hs m rfl
      walk_at "rd"
      refine ⟨by decide, fun p6 hp6 => ?_⟩
      have k6 : Kp [] H5 (upd H5 p6 (.lst [.int 0, .int 1, .int 2, .int 2, .int 3, .int 8])) := Kp.nil.new hp6
      have D6 := D5.kp k6 (by simp) (by simp)
      have L6 : Lft (upd H5 p6 (.lst [.int 0, .int 1, .int 2, .int 2, .int 3, .int 8])) l (a - 1) (b - ti) r s := k6.get L5 (by simp)
      have kk6 := kk5.new (o := .lst [.int 0, .int 1, .int 2, .int 2, .int 3, .int 8]) hp6
      have h6 : upd H5 p6 (.lst [.int 0, .int 1, .int 2, .int 2, .int 3, .int 8]) p6 = some (.lst [.int 0, .int 1, .int 2, .int 2, .int 3, .int 8]) := upd_same
      have f6 := D5.fresh hp6
      generalize upd H5 p6 (.lst [.int 0, .int 1, .int 2, .int 2, .int 3, .int 8]) = H6 at D6 L6 kk6 h6 ⊢
      refine spOne.list D6 (by omega) (SqL.of h6) f6.1 f6.2 (by simp) (by simp) fun H7 i x hx D7 k7 => ?_
      have hx' : ∃ t : Int, x = .int t ∧ 0 ≤ t ∧ t ≤ 8 := by
        have hm := List.mem_of_getElem? hx
        simp only [List.mem_cons, List.not_mem_nil, or_false] at hm
        rcases hm with rfl | rfl | rfl | rfl | rfl | rfl <;> exact ⟨_, rfl, by omega, by omega⟩
      obtain ⟨t, rfl, t0, t1⟩ := hx'
      have L7 : Lft H7 l (a - 1) (b - ti) r s := k7.get L6 (by simp [l1, l2])
      have kk7 := kk6.trans (k7.sub (D6.ls3 L6) (by simp))
      walk_at "rd"
      refine spDraw.use D7 (by omega) (by omega) (by omega) fun H8 z z0 z1 D8 k8 => ?_
      have L8 : Lft H8 l (a - 1) (b - ti) r s := k8.get L7 (by simp [l1, l2])
      have kk8 := kk7.trans (k8.sub (D7.ls3 L7) (by simp))
      have N8 := N.kp kk8 (by simp [n1, n2, n3])
      walk_at "rd"
      refine ifd (fun c2 => ?_) (fun c2 => ?_)
      · walk_at "rd"
        refine ⟨by decide, fun p9 hp9 => ?_⟩
        have k9 : Kp [] H8 (upd H8 p9 (.tup [])) := Kp.nil.new hp9
        have y9 : Dt K (upd H8 p9 (.tup [])) (.ref p9) (.tuple []) := Dt.mk0 upd_same
        have D9 := D8.kp k9 (by simp) (by simp)
        have L9 := k9.get L8 (by simp)
        have kk9 := kk8.new (o := .tup []) hp9
        generalize upd H8 p9 (.tup []) = H9 at k9 y9 D9 L9 kk9 ⊢
        walk_at "rd"
        refine ⟨by simp [sizeLine_eq], fun pa hpa => ?_⟩
        have ka : Kp [] H9 (upd H9 pa (.tup [.str "repeat", .int t, .ref p9])) := Kp.nil.new hpa
        refine k _ _ (.rep t []) _ (a - 1) (b - ti) r s (D9.kp ka (by simp) (by simp)) (by omega) (by omega) (ka.get L9 (by simp)) (by omega) (by rw [Sm.size, Sm.sizes]; omega) (kk9.new hpa) ?_ ⟨t0, t1, fun _ h => (nomatch h)⟩
        rw [Sm.d, Sm.ds]
        exact Dt.mk3 upd_same (.str _) (.int _) (y9.kp ka)
      · walk_at "rd"
        · refine ⟨d, c, nm, l, _, dep + 1, ti * t, a - 1, b - ti, r, s, xs, rfl, D8, by omega, N8, n1, n2, n3, l1, l2, L8, by omega, by omega, by omega, fun H9 v y n9 a9 b9 r9 s9 D9 q1 q2 L9 a90 sz9 k9 hv hy => ?_⟩
          walk_at "rd"
          refine ⟨by simp [sizeLine_eq], fun pa hpa => ?_⟩
          have ka : Kp [] H9 (upd H9 pa (.tup [.str "repeat", .int t, v])) := Kp.nil.new hpa
          refine k _ _ (.rep t y) _ a9 b9 r9 s9 (D9.kp ka (by simp) (by simp)) (by omega) (by omega) (ka.get L9 (by simp)) a90 (by rw [Sm.size]; omega) ((kk8.trans k9).new hpa) ?_ ⟨t0, t1, hy⟩
          rw [Sm.d]
          exact Dt.mk3 upd_same (.str _) (.int _) (hv.kp ka)
        · walk_at "sc"
    · walk_at "rd"
      exact kn _ _ ⟨rfl, rfl⟩
  rintro σ H6 ⟨rfl, rfl⟩
  -- what is left is plain
  have plain : ∀ (v : V) (p : Pl) (H' : Hp) (n' : Int), Deck H' d c n' → n ≤ n' → n' ≤ n + 100 → Kp [d, c] H6 H' → Dt K H' v p.d → p.ok → Q v H' := by
    intro v p H' n' D' q1 q2 k' hv hp
    refine k H' v (.pl p) n' (a - 1) (b - ti) r s D' q1 (by omega) (k'.get L5 (by simp [l1, l2])) (by omega) (by rw [Sm.size]; omega) (kk5.trans (k'.sub (D5.ls3 L5) (by simp))) (by rw [Sm.d]; exact hv) ?_
    cases e <;> exact hp
  clear hs G_law_if G_law_block k hL
  walk_at "rds"
  -- say
  with_reducible refine r_seqJ (fun σ H' => σ = [some (.ref d), some (.ref nm), some (.int dep), some (.int ti), some (.ref l), some (.int way), some (.int u), none, none] ∧ H' = H6) (fun nx' kn => ?_) ?_
  · walk_at "rd"
    refine ifd (fun c1 => ?_) (fun c1 => ?_)
    · obtain ⟨z, hz, hlast⟩ : ∃ z : Str, Sok z 8 ∧ atI (xs.map V.str) (-1) = some (.str z) := by
        have hne := N.ne
        have hlt : xs.length - 1 < xs.length := by omega
        refine ⟨xs[xs.length - 1], N.ok _ (List.getElem_mem hlt), ?_⟩
        unfold atI ixN
        rw [List.length_map, if_neg (by omega), if_pos (by omega)]
        show (xs.map V.str)[((-1 : Int) + (xs.length : Int)).toNat]? = _
        rw [show ((-1 : Int) + (xs.length : Int)).toNat = xs.length - 1 by omega, List.getElem?_map, List.getElem?_eq_getElem hlt]
        rfl
      have hN := N5.h
      walk_at "rd"
      refine r_repl ?_
      walk_at "rd"
      have e2 : ("go" : Str).length = 2 := by decide +kernel
      refine ⟨z, rfl, by have := hz.len; rw [e2]; omega, ?_⟩
      have hz' : Sok (Txt.replace z "unsure" "go") 8 := hz.repl (by decide +kernel) (by decide +kernel) (Sok.lit (by decide +kernel))
      generalize Txt.replace z "unsure" "go" = z' at hz' ⊢
      walk_at "rd"
      refine ⟨by simp [sizeLine_eq], fun p7 hp7 => ?_⟩
      have k7 : Kp [] H6 (upd H6 p7 (.lst [.str "on", .str "unset", .str "7", .str "z9", .str "program", .str z'])) := Kp.nil.new hp7
      have D7 := D5.kp k7 (by simp) (by simp)
      have h7 : upd H6 p7 (.lst [.str "on", .str "unset", .str "7", .str "z9", .str "program", .str z']) p7 = some (.lst [.str "on", .str "unset", .str "7", .str "z9", .str "program", .str z']) := upd_same
      have f7 := D5.fresh hp7
      have kk7 : Kp [d, c] H6 (upd H6 p7 (.lst [.str "on", .str "unset", .str "7", .str "z9", .str "program", .str z'])) := (Kp.refl D5.ls).new hp7
      generalize upd H6 p7 (.lst [.str "on", .str "unset", .str "7", .str "z9", .str "program", .str z']) = H7 at D7 h7 kk7 ⊢
      refine spOne.list D7 (by omega) (SqL.of h7) f7.1 f7.2 (by simp) (by simp) fun H8 i x hx D8 k8 => ?_
      have hx' : ∃ y : Str, x = .str y ∧ Sok y 8 := by
        have hm := List.mem_of_getElem? hx
        simp only [List.mem_cons, List.not_mem_nil, or_false] at hm
        rcases hm with rfl | rfl | rfl | rfl | rfl | rfl
        · exact ⟨_, rfl, Sok.lit (by decide +kernel)⟩
        · exact ⟨_, rfl, Sok.lit (by decide +kernel)⟩
        · exact ⟨_, rfl, Sok.lit (by decide +kernel)⟩
        · exact ⟨_, rfl, Sok.lit (by decide +kernel)⟩
        · exact ⟨_, rfl, Sok.lit (by decide +kernel)⟩
        · exact ⟨_, rfl, hz'⟩
      obtain ⟨y, rfl, hy⟩ := hx'
      walk_at "rd"
      refine ⟨by simp [sizeLine_eq], fun p9 hp9 => ?_⟩
      have k9 : Kp [] H8 (upd H8 p9 (.tup [.str "say", .str y])) := Kp.nil.new hp9
      exact plain _ (.say y) _ _ (D8.kp k9 (by simp) (by simp)) (by omega) (by omega) ((kk7.trans k8).new hp9) (Dt.mk2 upd_same (.str _) (.str _)) hy
    · walk_at "rd"
      exact kn _ _ ⟨rfl, rfl⟩
  rintro σ H7 ⟨rfl, rfl⟩
  walk_at "rds"
  -- stop
  with_reducible refine r_seqJ (fun σ H' => σ = [some (.ref d), some (.ref nm), some (.int dep), some (.int ti), some (.ref l), some (.int way), some (.int u), none, none] ∧
    ∃ n', Deck H' d c n' ∧ n ≤ n' ∧ n' ≤ n + 10 ∧ Kp [d, c] H7 H') (fun nx' kn => ?_) ?_
  · walk_at "rd"
    refine ifd (fun c1 => ?_) (fun c1 => ?_)
    · walk_at "rd"
      refine spDraw.use D5 (by omega) (by omega) (by omega) fun H8 z z0 z1 D8 k8 => ?_
      walk_at "rd"
      refine ifd (fun c2 => ?_) (fun c2 => ?_)
      · walk_at "rd"
        refine ⟨by decide, fun p9 hp9 => ?_⟩
        have k9 : Kp [] H8 (upd H8 p9 (.lst [.str "end", .str "0", .str "stop"])) := Kp.nil.new hp9
        have D9 := D8.kp k9 (by simp) (by simp)
        have h9 : upd H8 p9 (.lst [.str "end", .str "0", .str "stop"]) p9 = some (.lst [.str "end", .str "0", .str "stop"]) := upd_same
        have f9 := D8.fresh hp9
        have kk9 : Kp [d, c] H7 (upd H8 p9 (.lst [.str "end", .str "0", .str "stop"])) := k8.new hp9
        generalize upd H8 p9 (.lst [.str "end", .str "0", .str "stop"]) = H9 at D9 h9 kk9 ⊢
        refine spOne.list D9 (by omega) (SqL.of h9) f9.1 f9.2 (by simp) (by simp) fun Ha i x hx Da ka => ?_
        have hx' : ∃ y : Str, x = .str y ∧ Sok y 8 := by
          have hm := List.mem_of_getElem? hx
          simp only [List.mem_cons, List.not_mem_nil, or_false] at hm
          rcases hm with rfl | rfl | rfl <;> exact ⟨_, rfl, Sok.lit (by decide +kernel)⟩
        obtain ⟨y, rfl, hy⟩ := hx'
        walk_at "rd"
        refine ⟨by simp [sizeLine_eq], fun pb hpb => ?_⟩
        have kb : Kp [] Ha (upd Ha pb (.tup [.str "stop", .str y])) := Kp.nil.new hpb
        exact plain _ (.stop y) _ _ (Da.kp kb (by simp) (by simp)) (by omega) (by omega) ((kk9.trans ka).new hpb) (Dt.mk2 upd_same (.str _) (.str _)) hy
      · walk_at "rd"
        exact kn _ _ ⟨rfl, _, D8, by omega, by omega, k8⟩
    · walk_at "rd"
      exact kn _ _ ⟨rfl, _, D5, by omega, by omega, Kp.refl D5.ls⟩
  rintro σ H8 ⟨rfl, n8, D8, q1, q2, k8⟩
  walk_at "rds"
  -- unset
  with_reducible refine r_seqJ (fun σ H' => σ = [some (.ref d), some (.ref nm), some (.int dep), some (.int ti), some (.ref l), some (.int way), some (.int u), none, none] ∧
    ∃ n', Deck H' d c n' ∧ n ≤ n' ∧ n' ≤ n + 20 ∧ Kp [d, c] H7 H') (fun nx' kn => ?_) ?_
  · walk_at "rd"
    refine ifd (fun c1 => ?_) (fun c1 => ?_)
    · walk_at "rd"
      refine spDraw.use D8 (by omega) (by omega) (by omega) fun H9 z z0 z1 D9 k9 => ?_
      have N9 := N5.kp (k8.trans k9) (by simp [n1, n2])
      walk_at "rd"
      refine ifd (fun c2 => ?_) (fun c2 => ?_)
      · walk_at "rd"
        refine spOne.list D9 (by omega) (SqL.of N9.h) n1 n2 (by rw [List.length_map]; exact N9.ne) (by rw [List.length_map]; have := N9.len; omega) fun Ha i x hx Da ka => ?_
        obtain ⟨y, rfl, hy⟩ := N9.item hx
        walk_at "rd"
        refine ⟨by simp [sizeLine_eq], fun pb hpb => ?_⟩
        have kb : Kp [] Ha (upd Ha pb (.tup [.str "unset", .str y])) := Kp.nil.new hpb
        exact plain _ (.unset y) _ _ (Da.kp kb (by simp) (by simp)) (by omega) (by omega) (((k8.trans k9).trans ka).new hpb) (Dt.mk2 upd_same (.str _) (.str _)) hy
      · walk_at "rd"
        exact kn _ _ ⟨rfl, _, D9, by omega, by omega, k8.trans k9⟩
    · walk_at "rd"
      exact kn _ _ ⟨rfl, _, D8, by omega, by omega, k8⟩
  clear D8 q1 q2 k8
  rintro σ H8 ⟨rfl, n8, D8, q1, q2, k8⟩
  have N8 := N5.kp k8 (by simp [n1, n2])
  walk_at "rd"
  refine ifd (fun c1 => ?_) (fun c1 => ?_)
  · walk_at "rd"
    refine spOne.list D8 (by omega) (SqL.of N8.h) n1 n2 (by rw [List.length_map]; exact N8.ne) (by rw [List.length_map]; have := N8.len; omega) fun Ha i x hx Da ka => ?_
    obtain ⟨y, rfl, hy⟩ := N8.item hx
    walk_at "rd"
    refine spDraw.use Da (by omega) (by omega) (by omega) fun Hb z z0 z1 Db kb => ?_
    have Nb := (N8.kp ka (by simp [n1, n2])).kp kb (by simp [n1, n2])
    walk_at "rd"
    refine spExprA.use Db (by omega) Nb n1 n2 (by omega) (by omega) fun Hc v ex nc Dc q3 q4 kc hv he => ?_
    walk_at "rd"
    refine ⟨by simp [sizeLine_eq], fun pd hpd => ?_⟩
    have kd : Kp [] Hc (upd Hc pd (.tup [.str "set", .str y, v])) := Kp.nil.new hpd
    exact plain _ (.set y ex) _ _ (Dc.kp kd (by simp) (by simp)) (by omega) (by omega) ((((k8.trans ka).trans kb).trans kc).new hpd) (Dt.mk3 upd_same (.str _) (.str _) (hv.kp kd)) ⟨hy, he⟩
  · walk_at "rd"
    refine spDraw.use D8 (by omega) (by omega) (by omega) fun Hb z z0 z1 Db kb => ?_
    have Nb := N8.kp kb (by simp [n1, n2])
    walk_at "rd"
    refine spExprA.use Db (by omega) Nb n1 n2 (by omega) (by omega) fun Hc v ex nc Dc q3 q4 kc hv he => ?_
    walk_at "rd"
    refine ⟨by simp [sizeLine_eq], fun pd hpd => ?_⟩
    have kd : Kp [] Hc (upd Hc pd (.tup [.str "tell", v])) := Kp.nil.new hpd
    exact plain _ (.tell ex) _ _ (Dc.kp kd (by simp) (by simp)) (by omega) (by omega) (((k8.trans kb).trans kc).new hpd) (Dt.mk2 upd_same (.str _) (hv.kp kd)) he
abbrev s_law_program : Stmt := topS 19
abbrev N_law_program : List Str := ["_law_deck_here", "_law_names_here", "_law_most"]
abbrev P_law_program : List Str := ["_law_deck_here", "_law_names_here", "_law_most"]
theorem sc_law_program : FnScope N_law_program P_law_program (defScope s_law_program) :=
  ⟨rfl, rfl, rfl, by decide +kernel, rfl, by decide +kernel, by decide +kernel⟩
theorem ok_law_program (D : Df K mg "_law_program" s_law_program P_law_program) (B : Blt mg) {lv : Nat}
    (G_law_block : Has P w K mg base CX0 "_law_block" ["_law_deck_here", "_law_names_here", "_law_depth", "_law_times", "_law_left"] lv (spBlock K 3)) :
    Has P w K mg base CX0 "_law_program" P_law_program (lv + 1) (spProg K) := by
  refine D.has sc_law_program (fun vs H Q E h => ?_) (fun f cdv A outer s H vs Q E hr h => ?_)
  · obtain ⟨d, c, nm, n, mo, xs, rfl, _⟩ := h
    rfl
  obtain ⟨d, c, nm, n, mo, xs, rfl, Dk, hn, N, n1, n2, m0, m1, k⟩ := h
  have n0 := Dk.n0
  refine ⟨_, (pss_one (ps_ret (pe_f G_law_block (hr.mono (by omega)) (by rfl) pass0 (pa_cons (pv 0) (pa_cons (pv 1) (pa_cons pe_int (pa_cons pe_int (pa_cons (pe_lst (pa_cons (pv 2) (pa_cons pe_int (pa_cons pe_int (pa_cons pe_int pa_nil))))) pa_nil)))))))), ?_⟩
  walk_at "rd"
  refine ⟨by simp [sizeLine_eq], fun l hl => ?_⟩
  have k1 : Kp [] H (upd H l (.lst [.int mo, .int 30, .int 2, .int 2])) := Kp.nil.new hl
  have kk1 : Kp [d, c] H (upd H l (.lst [.int mo, .int 30, .int 2, .int 2])) := (Kp.refl Dk.ls).new hl
  have D1 := Dk.kp k1 (by simp) (by simp)
  have N1 := N.kp k1 (by simp)
  have L1 : Lft (upd H l (.lst [.int mo, .int 30, .int 2, .int 2])) l mo 30 2 2 := upd_same
  have f1 := Dk.fresh hl
  have f2 : nm ≠ l := ne_of_none N.h hl
  generalize upd H l (.lst [.int mo, .int 30, .int 2, .int 2]) = H1 at k1 kk1 D1 N1 L1 ⊢
  walk_at "rd"
  refine ⟨d, c, nm, l, n, 0, 1, mo, 30, 2, 2, xs, rfl, D1, by omega, N1, n1, n2, f2, f1.1, f1.2, L1, m0, by omega, by omega, fun H2 v x n2 a2 b2 r2 s2 D2 q1 q2 L2 a20 sz2 k2 hv hx => ?_⟩
  refine k H2 v x n2 D2 q1 (by omega) (by omega) (fun z o e => ⟨(kk1 z o e).1, fun nm' => ?_⟩) hv hx
  refine (k2 z o ((kk1 z o e).2 nm')).2 fun hz => ?_
  simp only [List.mem_cons, List.not_mem_nil, or_false, not_or] at hz nm'
  rcases hz with rfl | rfl | rfl
  · exact nm'.1 rfl
  · exact nm'.2 rfl
  · rw [hl] at e
    cases e
abbrev s_law_names : Stmt := topS 20
abbrev N_law_names : List Str := ["_law_deck_here", "_law_many", "_law_letters", "_law_found", "_law_size", "_law_left", "_law_k", "_law_right", "_law_word"]
abbrev P_law_names : List Str := ["_law_deck_here", "_law_many"]
theorem sc_law_names : FnScope N_law_names P_law_names (defScope s_law_names) :=
  ⟨rfl, rfl, rfl, by decide +kernel, rfl, by decide +kernel, by decide +kernel⟩
theorem ok_law_names (D : Df K mg "_law_names" s_law_names P_law_names) (B : Blt mg)
    (G_law_draw : Has P w K mg base CX0 "_law_draw" ["_law_deck_here", "_law_many"] 1 spDraw) (G_law_one : Has P w K mg base CX0 "_law_one" ["_law_deck_here", "_law_items"] 2 (spOne K)) :
    Has P w K mg base CX0 "_law_names" P_law_names 3 spNames := by
  refine D.has sc_law_names (fun vs H Q E h => ?_) (fun f cdv A outer s H vs Q E hr h => ?_)
  · obtain ⟨d, c, n, m, rfl, _⟩ := h
    rfl
  obtain ⟨d, c, n, m, rfl, Dk, hn, m0, m1, k⟩ := h
  have n0 := Dk.n0
  refine ⟨_, (pss_cons (ps_asg (pe_tup (pa_cons pe_str (pa_cons (pe_lst (pa_cons pe_str pa_nil)) pa_nil))) (pg_tup rfl (pgs_cons (pg_name (i := 2) sc_law_names.nd rfl (Or.inr rfl)) (pgs_cons (pg_name (i := 3) sc_law_names.nd rfl (Or.inl rfl)) pgs_nil))))
      (pss_cons (ps_set (i := 4) sc_law_names.nd rfl (Or.inl rfl) (pe_f G_law_one (hr.mono (by omega)) (by rfl) pass0 (pa_cons (pv 0) (pa_cons (pe_lst (pa_cons pe_int (pa_cons pe_int (pa_cons pe_int (pa_cons pe_int (pa_cons pe_int (pa_cons pe_int pa_nil))))))) pa_nil))))
      (pss_cons (ps_set (i := 5) sc_law_names.nd rfl (Or.inl rfl) (pe_join pe_str (pe_lc (own := [("_law_k", 6)]) (g := gName 6) (by rfl) sc_law_names.nd (pi_range1 (by rfl) B.range (pa_cons (pv 4) pa_nil)) (blkOk_by (own := [("_law_k", 6)]) (N := N_law_names) (sc := defScope s_law_names) (by decide +kernel)) (fun _ _ _ _ _ => (pg_name (i := 6) sc_law_names.nd rfl (Or.inl rfl))) (fun _ _ _ _ _ => pts_nil) (fun _ _ _ _ _ => (pe_f G_law_one (hr.mono (by omega)) (by rfl) pass0 (pa_cons (pv 0) (pa_cons (pv 2) pa_nil)))))))
      (pss_cons (ps_set (i := 7) sc_law_names.nd rfl (Or.inl rfl) (pe_join pe_str (pe_lc (own := [("_law_k", 6)]) (g := gName 6) (by rfl) sc_law_names.nd (pi_range1 (by rfl) B.range (pa_cons (pe_f G_law_draw (hr.mono (by omega)) (by rfl) pass0 (pa_cons (pv 0) (pa_cons (pe_op op_sub pe_int (pv 4)) pa_nil))) pa_nil)) (blkOk_by (own := [("_law_k", 6)]) (N := N_law_names) (sc := defScope s_law_names) (by decide +kernel)) (fun _ _ _ _ _ => (pg_name (i := 6) sc_law_names.nd rfl (Or.inl rfl))) (fun _ _ _ _ _ => pts_nil) (fun _ _ _ _ _ => (pe_f G_law_one (hr.mono (by omega)) (by rfl) pass0 (pa_cons (pv 0) (pa_cons (pe_op op_addS (pv 2) pe_str) pa_nil)))))))
      (pss_cons (ps_for PassesOwn.never rfl (pi_range1 (by rfl) B.range (pa_cons (pv 1) pa_nil)) (pg_name (i := 6) sc_law_names.nd rfl (Or.inl rfl))
        (pss_one (ps_expr (pe_bm PySem.F.plainAttrs_list PySem.F.slot_list_append PySem.F.type_list_append mt_append (pv 3) (pa_cons (pe_op op_addS (pe_op op_addS (pv 5) (pe_ix ix_str pe_str (pv 6) (fun _ _ => rfl))) (pv 7)) pa_nil)))))
      (pss_cons (ps_set (i := 8) sc_law_names.nd rfl (Or.inl rfl) (pe_f G_law_one (hr.mono (by omega)) (by rfl) pass0 (pa_cons (pv 0) (pa_cons (pe_lst (pa_cons pe_str (pa_cons pe_str (pa_cons pe_str (pa_cons pe_str (pa_cons pe_str (pa_cons pe_str (pa_cons pe_str pa_nil)))))))) pa_nil))))
      (pss_one (ps_ret (pe_ifExp (pt_cmpR op_gt (pe_f G_law_draw (hr.mono (by omega)) (by rfl) pass0 (pa_cons (pv 0) (pa_cons pe_int pa_nil))) pe_int (nomark _)) (pv 3) (pe_op op_cat (pe_slice sl_list (pv 3) po_none (po_some (pe_un un_neg pe_int))) (pe_lst (pa_cons (pv 8) pa_nil)))))))))))), ?_⟩
  walk_at "rd"
  refine ⟨by decide, fun q hq => ?_⟩
  have k1 : Kp [] H (upd H q (.lst [.str "n"])) := Kp.nil.new hq
  have kk1 : Kp [d, c] H (upd H q (.lst [.str "n"])) := (Kp.refl Dk.ls).new hq
  have D1 := Dk.kp k1 (by simp) (by simp)
  have q1 : upd H q (.lst [.str "n"]) q = some (.lst [.str "n"]) := upd_same
  have fq := Dk.fresh hq
  generalize upd H q (.lst [.str "n"]) = H1 at k1 kk1 D1 q1 ⊢
  walk_at "rd"
  refine ⟨by simp [sizeLine_eq], fun p2 hp2 => ?_⟩
  have k2 : Kp [] H1 (upd H1 p2 (.tup [.str "abcdefghijklmnopqrstuvwxyz", .ref q])) := Kp.nil.new hp2
  have D2 := D1.kp k2 (by simp) (by simp)
  have q2 := k2.get q1 (by simp)
  have kk2 := kk1.new (o := .tup [.str "abcdefghijklmnopqrstuvwxyz", .ref q]) hp2
  have t2 : upd H1 p2 (.tup [.str "abcdefghijklmnopqrstuvwxyz", .ref q]) p2 = some (.tup [.str "abcdefghijklmnopqrstuvwxyz", .ref q]) := upd_same
  generalize upd H1 p2 (.tup [.str "abcdefghijklmnopqrstuvwxyz", .ref q]) = H2 at k2 D2 q2 kk2 t2 ⊢
  walk_at "rd"
  refine ⟨by decide, fun p3 hp3 => ?_⟩
  have k3 : Kp [] H2 (upd H2 p3 (.lst [.int 0, .int 0, .int 1, .int 3, .int 5, .int 7])) := Kp.nil.new hp3
  have D3 := D2.kp k3 (by simp) (by simp)
  have q3 := k3.get q2 (by simp)
  have kk3 := kk2.new (o := .lst [.int 0, .int 0, .int 1, .int 3, .int 5, .int 7]) hp3
  have h3 : upd H2 p3 (.lst [.int 0, .int 0, .int 1, .int 3, .int 5, .int 7]) p3 = some (.lst [.int 0, .int 0, .int 1, .int 3, .int 5, .int 7]) := upd_same
  have f3 := D2.fresh hp3
  generalize upd H2 p3 (.lst [.int 0, .int 0, .int 1, .int 3, .int 5, .int 7]) = H3 at k3 D3 q3 kk3 h3 ⊢
  refine spOne.list D3 (by omega) (SqL.of h3) f3.1 f3.2 (by simp) (by simp) fun H4 i x hx D4 k4 => ?_
  have hx' : ∃ u : Int, x = .int u ∧ 0 ≤ u ∧ u ≤ 7 := by
    have hm := List.mem_of_getElem? hx
    simp only [List.mem_cons, List.not_mem_nil, or_false] at hm
    rcases hm with rfl | rfl | rfl | rfl | rfl | rfl <;> exact ⟨_, rfl, by omega, by omega⟩
  obtain ⟨u, rfl, u0, u1⟩ := hx'
  have q4 := k4.get q3 (by simp [fq.1, fq.2])
  have kk4 := kk3.trans k4
  clear k1 kk1 D1 q1 k2 kk2 D2 q2 t2 k3 D3 q3 kk3 h3 f3 hp2 hp3 hx
  have let26 : Sok ("abcdefghijklmnopqrstuvwxyz" : Str) 26 := Sok.lit (by decide +kernel)
  have let36 : Sok (("abcdefghijklmnopqrstuvwxyz" : Str) ++ ("0123456789" : Str)) 36 := Sok.lit (by decide +kernel)
  have emp : Sok ("" : Str) 0 := Sok.lit (by decide +kernel)
  have emp0 : ("" : Str).length = 0 := by decide +kernel
  walk_at "rd"
  refine r_LcR (by omega) (by omega) fun p5 hp5 => ?_
  have f5 := D4.fresh hp5
  have H5p : H p5 = none := kk4.free D4.ls hp5
  have fq5 : p5 ≠ q := Ne.symm (ne_of_none q4 hp5)
  refine ⟨fun i H' => ∃ (ys : List Str), H' p5 = some (.lst (ys.map V.str)) ∧ ys.length = i ∧ (∀ y ∈ ys, Sok y 1) ∧ (∃ n', Deck H' d c n' ∧ n ≤ n' ∧ n' ≤ n + 1 + i) ∧ H' q = some (.lst [.str "n"]) ∧ Kp [d, c] H H',
    ⟨[], upd_same, rfl, (fun _ h => (nomatch h)), ⟨_, D4.kp (Kp.nil.new hp5) (by simp) (by simp), by omega, by omega⟩, (Kp.nil.new hp5).get q4 (by simp), kk4.new hp5⟩, ?_, ?_⟩
  · rintro i H5 hi ⟨ys, y1, y2, y3, ⟨n5, D5, m2, m3⟩, q5, k5⟩
    walk_at "rd"
    refine spOne.text D5 (by omega) (by decide +kernel) (by decide +kernel) fun H6 z hz D6 k6 => ?_
    have y6 := k6.get y1 (by simp [f5.1, f5.2])
    refine r_LcEnd y6 (by walk_at "sz") ⟨ys ++ [⟨#[z]⟩], ?_, ?_, ?_, ?_, ?_, (k5.trans k6).own H5p⟩
    · rw [upd_same, List.map_append]
      rfl
    · rw [List.length_append, y2]
      rfl
    · intro y hy
      rcases List.mem_append.mp hy with hy | hy
      · exact y3 y hy
      · rw [List.mem_singleton.mp hy]
        exact let26.sign hz
    · exact ⟨_, D6.kp (kpW (o := .lst (ys.map V.str ++ [.str ⟨#[z]⟩])) y6) (by simp [Ne.symm f5.1]) (by simp [Ne.symm f5.2]), by omega, by omega⟩
    · rw [upd_ne (Ne.symm fq5)]
      exact k6.get q5 (by simp [fq.1, fq.2])
  rintro H5 ⟨ys, y1, y2, y3, ⟨n5, D5, m2, m3⟩, q5, k5⟩
  have hL : Sok (Txt.join "" ys) u.toNat := (Sok.join emp y3).mono (by rw [y2]; omega)
  have sm := sum_len y3
  refine ⟨"", p5, ys, rfl, rfl, .inl (SqL.of y1), by rw [emp0]; omega, ?_⟩
  generalize Txt.join "" ys = left at hL ⊢
  clear y1 y2 y3 sm hp5 f5 H5p fq5 D4 k4 q4 kk4
  walk_at "rd"
  refine spDraw.use D5 (by omega) (by omega) (by omega) fun H6 t t0 t1 D6 k6 => ?_
  have q6 := k6.get q5 (by simp [fq.1, fq.2])
  have kk6 := k5.trans k6
  walk_at "rd"
  refine r_LcR (by omega) (by omega) fun p7 hp7 => ?_
  have f7 := D6.fresh hp7
  have H7p : H p7 = none := kk6.free D6.ls hp7
  have fq7 : p7 ≠ q := Ne.symm (ne_of_none q6 hp7)
  refine ⟨fun i H' => ∃ (ys : List Str), H' p7 = some (.lst (ys.map V.str)) ∧ ys.length = i ∧ (∀ y ∈ ys, Sok y 1) ∧ (∃ n', Deck H' d c n' ∧ n ≤ n' ∧ n' ≤ n + 10 + i) ∧ H' q = some (.lst [.str "n"]) ∧ Kp [d, c] H H',
    ⟨[], upd_same, rfl, (fun _ h => (nomatch h)), ⟨_, D6.kp (Kp.nil.new hp7) (by simp) (by simp), by omega, by omega⟩, (Kp.nil.new hp7).get q6 (by simp), kk6.new hp7⟩, ?_, ?_⟩
  · rintro i H7 hi ⟨ys, y1, y2, y3, ⟨n7, D7, m2, m3⟩, q7, k7⟩
    walk_at "rd"
    · refine spOne.text D7 (by omega) (by decide +kernel) (by decide +kernel) fun H8 z hz D8 k8 => ?_
      have y8 := k8.get y1 (by simp [f7.1, f7.2])
      refine r_LcEnd y8 (by walk_at "sz") ⟨ys ++ [⟨#[z]⟩], ?_, ?_, ?_, ⟨_, D8.kp (kpW (o := .lst (ys.map V.str ++ [.str ⟨#[z]⟩])) y8) (by simp [Ne.symm f7.1]) (by simp [Ne.symm f7.2]), by omega, by omega⟩, ?_, (k7.trans k8).own H7p⟩
      · rw [upd_same, List.map_append]
        rfl
      · rw [List.length_append, y2]
        rfl
      · intro y hy
        rcases List.mem_append.mp hy with hy | hy
        · exact y3 y hy
        · rw [List.mem_singleton.mp hy]
          exact let36.sign hz
      · rw [upd_ne (Ne.symm fq7)]
        exact k8.get q7 (by simp [fq.1, fq.2])
    · decide +kernel
  rintro H7 ⟨ys, y1, y2, y3, ⟨n7, D7, m2, m3⟩, q7, k7⟩
  have hR : Sok (Txt.join "" ys) t.toNat := (Sok.join emp y3).mono (by rw [y2]; omega)
  have sm := sum_len y3
  refine ⟨"", p7, ys, rfl, rfl, .inl (SqL.of y1), by rw [emp0]; omega, ?_⟩
  generalize Txt.join "" ys = right at hR ⊢
  clear y1 y2 y3 sm hp7 f7 H7p fq7 D6 k6 q6 kk6
  walk_at "rd"
  have hq5 : Sok ("qxzkw" : Str) 5 := Sok.lit (by decide +kernel)
  refine r_ForR (fun i σ H' => ∃ (xs : List Str) (kx : Option V), σ = [some (.ref d), some (.int m), some (.str "abcdefghijklmnopqrstuvwxyz"), some (.ref q), some (.int u), some (.str left), kx, some (.str right), none] ∧
      H' q = some (.lst (xs.map V.str)) ∧ xs.length = i + 1 ∧ (∀ x ∈ xs, Sok x 8) ∧ Deck H' d c n7 ∧ Kp [d, c] H H') (by omega) (by omega) ⟨["n"], none, rfl, q7, rfl, ?_, D7, k7⟩ ?_ ?_
  · intro x hx
    rw [List.mem_singleton.mp hx]
    exact Sok.lit (by decide +kernel)
  · rintro i σ H8 hi ⟨xs, kx, rfl, q8, l8, o8, D8, k8⟩
    have hlt : i < ("qxzkw" : Str).cps.toList.length := by
      show i < 5
      omega
    have hat : atI ("qxzkw" : Str).cps.toList (i : Int) = some (("qxzkw" : Str).cps.toList[i]) := atI_nat (List.getElem?_eq_getElem hlt)
    have hsg := hq5.sign (List.getElem_mem hlt)
    generalize ("qxzkw" : Str).cps.toList[i] = sg at hat hsg
    have hw : Sok (left ++ ⟨#[sg]⟩ ++ right) 8 := ((hL.app hsg).app hR).mono (by omega)
    have hw1 := hw.len
    rw [Str.length_append, Str.length_append] at hw1
    walk_at "rd"
    refine r_ixS (by decide +kernel) hat ?_
    walk_at "rd"
    · refine ⟨xs ++ [left ++ ⟨#[sg]⟩ ++ right], _, rfl, ?_, by rw [List.length_append, l8]; rfl, ?_, D8.kp (kpW q8) (by simp [Ne.symm fq.1]) (by simp [Ne.symm fq.2]), k8.own hq⟩
      · rw [upd_same, List.map_append]
        rfl
      · intro y hy
        rcases List.mem_append.mp hy with hy | hy
        · exact o8 y hy
        · rw [List.mem_singleton.mp hy]
          exact hw
    all_goals walk_at "sz"
  rintro σ H8 ⟨xs, kx, rfl, q8, l8, o8, D8, k8⟩
  walk_at "rd"
  refine ⟨by decide, fun p9 hp9 => ?_⟩
  have k9 : Kp [] H8 (upd H8 p9 (.lst [.str "plus", .str "minus", .str "times", .str "less", .str "given", .str "unsure", .str "hold"])) := Kp.nil.new hp9
  have D9 := D8.kp k9 (by simp) (by simp)
  have q9 := k9.get q8 (by simp)
  have kk9 := k8.new (o := .lst [.str "plus", .str "minus", .str "times", .str "less", .str "given", .str "unsure", .str "hold"]) hp9
  have h9 : upd H8 p9 (.lst [.str "plus", .str "minus", .str "times", .str "less", .str "given", .str "unsure", .str "hold"]) p9 = some (.lst [.str "plus", .str "minus", .str "times", .str "less", .str "given", .str "unsure", .str "hold"]) := upd_same
  have f9 := D8.fresh hp9
  generalize upd H8 p9 (.lst [.str "plus", .str "minus", .str "times", .str "less", .str "given", .str "unsure", .str "hold"]) = H9 at D9 q9 kk9 h9 ⊢
  refine spOne.list D9 (by omega) (SqL.of h9) f9.1 f9.2 (by simp) (by simp) fun Ha i x hx Da ka => ?_
  have hx' : ∃ y : Str, x = .str y ∧ Sok y 8 := by
    have hm := List.mem_of_getElem? hx
    simp only [List.mem_cons, List.not_mem_nil, or_false] at hm
    rcases hm with rfl | rfl | rfl | rfl | rfl | rfl | rfl <;> exact ⟨_, rfl, Sok.lit (by decide +kernel)⟩
  obtain ⟨wd, rfl, hwd⟩ := hx'
  have qa := ka.get q9 (by simp [fq.1, fq.2])
  walk_at "rd"
  refine spDraw.use Da (by omega) (by omega) (by omega) fun Hb z z0 z1 Db kb => ?_
  have qb := kb.get qa (by simp [fq.1, fq.2])
  have kkb := (kk9.trans ka).trans kb
  walk_at "rd"
  refine ifd (fun c1 => ?_) (fun c1 => ?_)
  · walk_at "rd"
    exact k _ q xs _ hq Db (by omega) (by omega) kkb ⟨qb, by omega, o8, by omega⟩
  · walk_at "rd"
    refine r_slL (SqL.of qb) fun pc hpc => ?_
    obtain ⟨cs, ec, hcl, hcm⟩ := cutV_map V.str xs none (some (-1))
    rw [ec]
    have kc : Kp [] Hb (upd Hb pc (.lst (cs.map V.str))) := Kp.nil.new hpc
    have Dc := Db.kp kc (by simp) (by simp)
    have hc : upd Hb pc (.lst (cs.map V.str)) pc = some (.lst (cs.map V.str)) := upd_same
    have kkc := kkb.new (o := .lst (cs.map V.str)) hpc
    generalize upd Hb pc (.lst (cs.map V.str)) = Hc at Dc hc kkc ⊢
    walk_at "rd"
    refine ⟨by simp [sizeLine_eq], fun pd hpd => ?_⟩
    have kd : Kp [] Hc (upd Hc pd (.lst [.str wd])) := Kp.nil.new hpd
    have Dd := Dc.kp kd (by simp) (by simp)
    have hcd := kd.get hc (by simp)
    have hd : upd Hc pd (.lst [.str wd]) pd = some (.lst [.str wd]) := upd_same
    have kkd := kkc.new (o := .lst [.str wd]) hpd
    generalize upd Hc pd (.lst [.str wd]) = Hd at Dd hcd hd kkd ⊢
    refine r_cat hcd hd (by walk_at "sz") fun pe hpe => ?_
    have ke : Kp [] Hd (upd Hd pe (.lst (cs.map V.str ++ [.str wd]))) := Kp.nil.new hpe
    refine k _ pe (cs ++ [wd]) _ (kkd.free Dd.ls hpe) (Dd.kp ke (by simp) (by simp)) (by omega) (by omega) (kkd.new hpe) ⟨by rw [upd_same, List.map_append]; rfl, by simp, ?_, by rw [List.length_append, List.length_singleton]; omega⟩
    intro y hy
    rcases List.mem_append.mp hy with hy | hy
    · exact o8 y (hcm y hy)
    · rw [List.mem_singleton.mp hy]
      exact hwd
abbrev sexpression_text : Stmt := topS 4
abbrev Nexpression_text : List Str := ["expression", "word", "one", "other"]
abbrev Pexpression_text : List Str := ["expression"]
theorem scexpression_text : FnScope Nexpression_text Pexpression_text (defScope sexpression_text) :=
  ⟨rfl, rfl, rfl, by decide +kernel, rfl, by decide +kernel, by decide +kernel⟩
theorem ok_expression_text (D : Df K mg "expression_text" sexpression_text Pexpression_text) (B : Blt mg) {dS : Addr} (g_SIGNS : mg "SIGNS" = some (.ref dS))
    (hS : ∀ o, IsOp o → KDct K w dS o (.str (opSign o))) : ∀ n, eLen n ≤ 1000 → Has P w K mg base CX0 "expression_text" Pexpression_text n (spExT K n)
  | 0, _ => D.void fun vs H Q E h => by
    obtain ⟨v, e, _, _, h, _⟩ := h
    exact h
  | n + 1, hn => by
    have Gexpression_text := ok_expression_text D B g_SIGNS hS n (by unfold eLen at hn; omega)
    refine D.has scexpression_text (fun vs H Q E h => ?_) (fun f cdv A outer s H vs Q E hr h => ?_)
    · obtain ⟨v, e, rfl, _⟩ := h
      rfl
    obtain ⟨v, e, rfl, hd, ho, k⟩ := h
    refine ⟨_, (pss_cons (ps_if (pt_not (pt_val (pe_callB c_is (by rfl) B.isinstance (by decide +kernel) (pa_cons (pv 0) (pa_cons (pe_ty (T := "tuple") (by rfl) B.tuple (by decide +kernel)) pa_nil))))) (pss_one (ps_ret (pe_callTy c_str (by rfl) B.str (by decide +kernel) (pa_cons (pv 0) pa_nil))))
        pss_nil)
      (pss_cons (ps_asg (pv 0) (pg_tup rfl (pgs_cons (pg_name (i := 1) scexpression_text.nd rfl (Or.inl rfl)) (pgs_cons (pg_name (i := 2) scexpression_text.nd rfl (Or.inl rfl)) (pgs_cons (pg_name (i := 3) scexpression_text.nd rfl (Or.inl rfl)) pgs_nil)))))
      (pss_one (ps_ret (pe_op op_addS (pe_op op_addS (pe_op op_addS (pe_op op_addS pe_str (pe_f Gexpression_text (hr.mono (by omega)) (by rfl) pass0 (pa_cons (pv 2) pa_nil))) (pe_ix ix_kdict (pe_gref (by rfl) g_SIGNS) (pv 1) (fun _ _ => rfl))) (pe_f Gexpression_text (hr.mono (by omega)) (by rfl) pass0 (pa_cons (pv 3) pa_nil))) pe_str))))), ?_⟩
    cases e with
    | int i =>
      obtain rfl := Dt.isInt hd
      walk_at "rd"
      · exact k _ Kp.nil
      · exact log2_small (by have := ho.1; omega) (by have := ho.2; omega)
    | name x =>
      obtain rfl := Dt.isStr hd
      walk_at "rd"
      exact k _ Kp.nil
    | bin o a b =>
      change Dt K H v (.tuple [.str o, a.d, b.d]) at hd
      obtain ⟨p, x, y, z, rfl, hT, hx, hy, hz⟩ := Dt.is3 hd
      obtain rfl := Dt.isStr hx
      have ho1 := hS o ho.1
      have L := (Ex.ok.sok ho).len
      simp only [Ex.text, Str.length_append] at L
      walk_at "rd"
      refine ⟨y, a, rfl, hy, ho.2.1, fun H1 k1 => ?_⟩
      walk_at "rd"
      refine ⟨z, b, rfl, hz.kp k1, ho.2.2, fun H2 k2 => ?_⟩
      walk_at "rd"
      · exact k _ (k1.trans k2)
      all_goals walk_at "sl"
abbrev stest_text : Stmt := topS 5
abbrev Ntest_text : List Str := ["test"]
abbrev Ptest_text : List Str := ["test"]
theorem sctest_text : FnScope Ntest_text Ptest_text (defScope stest_text) :=
  ⟨rfl, rfl, rfl, by decide +kernel, rfl, by decide +kernel, by decide +kernel⟩
theorem ok_test_text1 (D : Df K mg "test_text" stest_text Ptest_text) (B : Blt mg) {sp : Sp} {n : Nat} (hn : n ≤ 100)
    (Gexpression_text : Has P w K mg base CX0 "expression_text" ["expression"] 3 (spExT K 3))
    (Gtest_text : Has P w K mg base CX0 "test_text" Ptest_text (n + 3) sp) (hs : ∀ m, n = m + 1 → sp = spTsT K m) :
    Has P w K mg base CX0 "test_text" Ptest_text (n + 4) (spTsT K n) := by
  refine D.has sctest_text (fun vs H Q E h => ?_) (fun f cdv A outer s H vs Q E hr h => ?_)
  · obtain ⟨v, t, rfl, _⟩ := h
    rfl
  obtain ⟨v, t, rfl, hd, ho, k⟩ := h
  refine ⟨_, (pss_cons (ps_if (pt_cmpR op_eq (pe_ix ix_tup (pv 0) pe_int (fun _ _ => rfl)) pe_str (nomark _)) (pss_one (ps_ret (pe_op op_addS pe_str (pe_f Gtest_text (hr.mono (by omega)) (by rfl) pass0 (pa_cons (pe_ix ix_tup (pv 0) pe_int (fun _ _ => rfl)) pa_nil)))))
        pss_nil)
      (pss_cons (ps_if (pt_cmpR op_eq (pe_ix ix_tup (pv 0) pe_int (fun _ _ => rfl)) pe_str (nomark _)) (pss_one (ps_ret (pe_op op_addS pe_str (pe_ix ix_tup (pv 0) pe_int (fun _ _ => rfl)))))
        pss_nil)
      (pss_cons (ps_if (pt_cmpR op_eq (pe_ix ix_tup (pv 0) pe_int (fun _ _ => rfl)) pe_str (nomark _)) (pss_one (ps_ret (pe_op op_addS (pe_op op_addS (pe_op op_addS (pe_op op_addS (pe_op op_addS pe_str (pe_callTy c_str (by rfl) B.str (by decide +kernel) (pa_cons (pe_ix ix_tup (pv 0) pe_int (fun _ _ => rfl)) pa_nil))) pe_str) (pe_callTy c_str (by rfl) B.str (by decide +kernel) (pa_cons (pe_ix ix_tup (pv 0) pe_int (fun _ _ => rfl)) pa_nil))) pe_str) (pe_f Gexpression_text (hr.mono (by omega)) (by rfl) pass0 (pa_cons (pe_ix ix_tup (pv 0) pe_int (fun _ _ => rfl)) pa_nil)))))
        pss_nil)
      (pss_one (ps_ret (pe_op op_addS (pe_op op_addS (pe_f Gexpression_text (hr.mono (by omega)) (by rfl) pass0 (pa_cons (pe_ix ix_tup (pv 0) pe_int (fun _ _ => rfl)) pa_nil)) pe_str) (pe_f Gexpression_text (hr.mono (by omega)) (by rfl) pass0 (pa_cons (pe_ix ix_tup (pv 0) pe_int (fun _ _ => rfl)) pa_nil)))))))), ?_⟩
  have L := (Ts.ok.sok ho).len
  cases t with
  | not t =>
    cases n with
    | zero => exact ho.elim
    | succ m =>
      obtain rfl := hs m rfl
      change Dt K H v (.tuple [.str "not", t.d]) at hd
      obtain ⟨p, x, y, rfl, hT, hx, hy⟩ := Dt.is2 hd
      obtain rfl := Dt.isStr hx
      simp only [Ts.text, Str.length_append] at L
      walk_at "rd"
      refine ⟨y, t, rfl, hy, ho, fun H1 k1 => ?_⟩
      walk_at "rd"
      · exact k _ k1
      all_goals walk_at "sl"
  | given z =>
    change Dt K H v (.tuple [.str "given", .str z]) at hd
    obtain ⟨p, x, y, rfl, hT, hx, hy⟩ := Dt.is2 hd
    obtain rfl := Dt.isStr hx
    obtain rfl := Dt.isStr hy
    simp only [Ts.text, Str.length_append] at L
    walk_at "rd"
    · exact k _ Kp.nil
    all_goals walk_at "sl"
  | rest e b r =>
    have ho : e.ok 3 ∧ 0 ≤ b ∧ b ≤ 99 ∧ 0 ≤ r ∧ r ≤ 99 := by cases n <;> exact ho
    change Dt K H v (.tuple [.str "rest", e.d, .int b, .int r]) at hd
    obtain ⟨p, x, y, z, u, rfl, hT, hx, hy, hz, hu⟩ := Dt.is4 hd
    obtain rfl := Dt.isStr hx
    obtain rfl := Dt.isInt hz
    obtain rfl := Dt.isInt hu
    simp only [Ts.text, numT, Str.length_append] at L
    walk_at "rd"
    refine ⟨y, e, rfl, hy, ho.1, fun H1 k1 => ?_⟩
    walk_at "rd"
    · exact k _ k1
    all_goals first | walk_at "sl" | exact log2_small (by omega) (by omega)
  | less a b =>
    have ho : a.ok 3 ∧ b.ok 3 := by cases n <;> exact ho
    change Dt K H v (.tuple [.str "less", a.d, b.d]) at hd
    obtain ⟨p, x, y, z, rfl, hT, hx, hy, hz⟩ := Dt.is3 hd
    obtain rfl := Dt.isStr hx
    simp only [Ts.text, Str.length_append] at L
    walk_at "rd"
    refine ⟨y, a, rfl, hy, ho.1, fun H1 k1 => ?_⟩
    have hT1 := sqT_kp k1 hT
    walk_at "rd"
    refine ⟨z, b, rfl, hz.kp k1, ho.2, fun H2 k2 => ?_⟩
    walk_at "rd"
    · exact k _ (k1.trans k2)
    all_goals walk_at "sl"
theorem ok_test_text (D : Df K mg "test_text" stest_text Ptest_text) (B : Blt mg)
    (Gexpression_text : Has P w K mg base CX0 "expression_text" ["expression"] 3 (spExT K 3)) : ∀ n, n ≤ 100 → Has P w K mg base CX0 "test_text" Ptest_text (n + 4) (spTsT K n)
  | 0, _ => ok_test_text1 D B (by omega) Gexpression_text ((D.void (sp := fun _ _ _ _ => False) fun _ _ _ _ h => h).mono (by omega)) fun m h => by omega
  | n + 1, hn => ok_test_text1 D B hn Gexpression_text (ok_test_text D B Gexpression_text n (by omega)) fun m h => by
    obtain rfl : n = m := by omega
    rfl
abbrev sline_text : Stmt := topS 6
abbrev Nline_text : List Str := ["statement", "word"]
abbrev Pline_text : List Str := ["statement"]
theorem scline_text : FnScope Nline_text Pline_text (defScope sline_text) :=
  ⟨rfl, rfl, rfl, by decide +kernel, rfl, by decide +kernel, by decide +kernel⟩
theorem ok_line_text (D : Df K mg "line_text" sline_text Pline_text) (B : Blt mg)
    (Gexpression_text : Has P w K mg base CX0 "expression_text" ["expression"] 3 (spExT K 3))
    (Gtest_text : Has P w K mg base CX0 "test_text" ["test"] 6 (spTsT K 2)) : Has P w K mg base CX0 "line_text" Pline_text 7 (spLine K) := by
  refine D.has scline_text (fun vs H Q E h => ?_) (fun f cdv A outer s H vs Q E hr h => ?_)
  · obtain ⟨v, t, n, rfl, _⟩ := h
    rfl
  obtain ⟨v, s, n, rfl, hd, ho, k⟩ := h
  refine ⟨_, (pss_cons (ps_set (i := 1) scline_text.nd rfl (Or.inl rfl) (pe_ix ix_tup (pv 0) pe_int (fun _ _ => rfl)))
      (pss_cons (ps_if (pt_cmpR op_eq (pv 1) pe_str (nomark _)) (pss_one (ps_ret (pe_op op_addS (pe_op op_addS (pe_op op_addS pe_str (pe_ix ix_tup (pv 0) pe_int (fun _ _ => rfl))) pe_str) (pe_f Gexpression_text (hr.mono (by omega)) (by rfl) pass0 (pa_cons (pe_ix ix_tup (pv 0) pe_int (fun _ _ => rfl)) pa_nil)))))
        pss_nil)
      (pss_cons (ps_if (pt_cmpR op_eq (pv 1) pe_str (nomark _)) (pss_one (ps_ret (pe_op op_addS pe_str (pe_f Gexpression_text (hr.mono (by omega)) (by rfl) pass0 (pa_cons (pe_ix ix_tup (pv 0) pe_int (fun _ _ => rfl)) pa_nil)))))
        pss_nil)
      (pss_cons (ps_if (pt_cmpR op_eq (pv 1) pe_str (nomark _)) (pss_one (ps_ret (pe_op op_addS pe_str (pe_f Gtest_text (hr.mono (by omega)) (by rfl) pass0 (pa_cons (pe_ix ix_tup (pv 0) pe_int (fun _ _ => rfl)) pa_nil)))))
        pss_nil)
      (pss_one (ps_ret (pe_op op_addS (pe_op op_addS (pv 1) pe_str) (pe_callTy c_str (by rfl) B.str (by decide +kernel) (pa_cons (pe_ix ix_tup (pv 0) pe_int (fun _ _ => rfl)) pa_nil))))))))), ?_⟩
  have L := (Sm.ok.line ho).len
  cases s with
  | pl s =>
    have ho : s.ok := by cases n <;> exact ho
    rw [Sm.d] at hd
    cases s with
    | set z e =>
      change Dt K H v (.tuple [.str "set", .str z, e.d]) at hd
      obtain ⟨p, x, y, u, rfl, hT, hx, hy, hu⟩ := Dt.is3 hd
      obtain rfl := Dt.isStr hx
      obtain rfl := Dt.isStr hy
      simp only [Sm.line, Pl.text, Str.length_append] at L
      walk_at "rd"
      refine ⟨u, e, rfl, hu, ho.2, fun H1 k1 => ?_⟩
      walk_at "rd"
      · exact k _ k1
      all_goals walk_at "sl"
    | unset z =>
      change Dt K H v (.tuple [.str "unset", .str z]) at hd
      obtain ⟨p, x, y, rfl, hT, hx, hy⟩ := Dt.is2 hd
      obtain rfl := Dt.isStr hx
      obtain rfl := Dt.isStr hy
      simp only [Sm.line, Pl.text, Str.length_append] at L
      walk_at "rd"
      · exact k _ Kp.nil
      all_goals walk_at "sl"
    | tell e =>
      change Dt K H v (.tuple [.str "tell", e.d]) at hd
      obtain ⟨p, x, y, rfl, hT, hx, hy⟩ := Dt.is2 hd
      obtain rfl := Dt.isStr hx
      simp only [Sm.line, Pl.text, Str.length_append] at L
      walk_at "rd"
      refine ⟨y, e, rfl, hy, ho, fun H1 k1 => ?_⟩
      walk_at "rd"
      · exact k _ k1
      all_goals walk_at "sl"
    | say z =>
      change Dt K H v (.tuple [.str "say", .str z]) at hd
      obtain ⟨p, x, y, rfl, hT, hx, hy⟩ := Dt.is2 hd
      obtain rfl := Dt.isStr hx
      obtain rfl := Dt.isStr hy
      simp only [Sm.line, Pl.text, Str.length_append] at L
      walk_at "rd"
      · exact k _ Kp.nil
      all_goals walk_at "sl"
    | stop z =>
      change Dt K H v (.tuple [.str "stop", .str z]) at hd
      obtain ⟨p, x, y, rfl, hT, hx, hy⟩ := Dt.is2 hd
      obtain rfl := Dt.isStr hx
      obtain rfl := Dt.isStr hy
      simp only [Sm.line, Pl.text, Str.length_append] at L
      walk_at "rd"
      · exact k _ Kp.nil
      all_goals walk_at "sl"
  | ifs t y z =>
    cases n with
    | zero => exact ho.elim
    | succ n =>
      rw [Sm.d] at hd
      obtain ⟨p, x, u, u1, u2, rfl, hT, hx, hu, hu1, hu2⟩ := Dt.is4 hd
      obtain rfl := Dt.isStr hx
      simp only [Sm.line, Str.length_append] at L
      walk_at "rd"
      refine ⟨u, t, rfl, hu, ho.1, fun H1 k1 => ?_⟩
      walk_at "rd"
      · exact k _ k1
      all_goals walk_at "sl"
  | rep m b =>
    cases n with
    | zero => exact ho.elim
    | succ n =>
      have h1 := ho.1
      have h2 := ho.2.1
      rw [Sm.d] at hd
      obtain ⟨p, x, u, u1, rfl, hT, hx, hu, hu1⟩ := Dt.is3 hd
      obtain rfl := Dt.isStr hx
      obtain rfl := Dt.isInt hu
      simp only [Sm.line, numT, Str.length_append] at L
      walk_at "rd"
      · exact k _ Kp.nil
      all_goals first | walk_at "sl" | exact log2_small (by omega) (by omega)
abbrev spart_lines : Stmt := topS 7
abbrev Npart_lines : List Str := ["block", "ahead"]
abbrev Ppart_lines : List Str := ["block", "ahead"]
theorem scpart_lines : FnScope Npart_lines Ppart_lines (defScope spart_lines) :=
  ⟨rfl, rfl, rfl, by decide +kernel, rfl, by decide +kernel, by decide +kernel⟩
theorem ok_part_lines (D : Df K mg "part_lines" spart_lines Ppart_lines) (B : Blt mg) {n l : Nat}
    (Gblock_lines : Has P w K mg base CX0 "block_lines" ["block", "ahead"] l (spLines K n)) : Has P w K mg base CX0 "part_lines" Ppart_lines (l + 1) (spPart K n) := by
  refine D.has scpart_lines (fun vs H Q E h => ?_) (fun f cdv A outer s H vs Q E hr h => ?_)
  · obtain ⟨v, b, ah, rfl, _⟩ := h
    rfl
  obtain ⟨v, b, ah, rfl, hd, ho, hz, hA, hn, k⟩ := h
  refine ⟨_, (pss_one (ps_ret (pe_ifExp (pt_cmpR (op_neD hr.h64) (pv 0) (pe_tup pa_nil) (nomark _)) (pe_f Gblock_lines (hr.mono (by omega)) (by rfl) pass0 (pa_cons (pv 0) (pa_cons (pv 1) pa_nil))) (pe_lst (pa_cons (pe_op op_addS (pv 1) pe_str) pa_nil))))), ?_⟩
  obtain ⟨a, xs, rfl, hT, _⟩ := hd.isTup
  walk_at "rd"
  refine ⟨by decide, fun p hp => ?_⟩
  have k1 : Kp [] H (upd H p (.tup [])) := Kp.nil.new hp
  refine r_neD (hd.kp k1).dp (Dt.dp (Dt.mk0 upd_same)) ((Sm.block_cmp ho).shaped (by omega)) ((Cmp.nil (n := 0)).shaped (by omega)) ?_
  rw [eqv_nil, Sm.ds_map, List.isEmpty_map]
  walk_at "rd"
  cases b with
  | nil =>
    rw [List.isEmpty_nil]
    walk_at "rd"
    refine ⟨by simp [sizeLine_eq], fun q hq => ?_⟩
    · refine k _ q (k1.new hq) (k1.same.free hq) upd_same
    · have := hA.len
      have e : ("pass" : Str).length = 4 := by decide +kernel
      rw [e, sizeLine_eq]
      omega
  | cons s r =>
    rw [List.isEmpty_cons]
    walk_at "rd"
    refine ⟨_, _, ah, rfl, hd.kp k1, ho, hz, hA, hn, fun H2 q k2 hq h2 => ?_⟩
    exact k H2 q (k1.trans k2) (k1.same.free hq) h2
abbrev sblock_lines : Stmt := topS 8
abbrev Nblock_lines : List Str := ["block", "ahead", "lines", "statement"]
abbrev Pblock_lines : List Str := ["block", "ahead"]
theorem scblock_lines : FnScope Nblock_lines Pblock_lines (defScope sblock_lines) :=
  ⟨rfl, rfl, rfl, by decide +kernel, rfl, by decide +kernel, by decide +kernel⟩
theorem ok_block_lines1 (D : Df K mg "block_lines" sblock_lines Pblock_lines) (B : Blt mg) {n : Nat} {tk : Tok} {sp1 sp2 : Sp} (g_STEP : mg "STEP" = some (.str "  " tk))
    (Gline_text : Has P w K mg base CX0 "line_text" ["statement"] 7 (spLine K))
    (Gpart_lines : Has P w K mg base CX0 "part_lines" ["block", "ahead"] (2 * n + 8) sp1) (Gblock_lines : Has P w K mg base CX0 "block_lines" Pblock_lines (2 * n + 8) sp2)
    (hs : ∀ m, n = m + 1 → sp1 = spPart K m ∧ sp2 = spLines K m) : Has P w K mg base CX0 "block_lines" Pblock_lines (2 * n + 9) (spLines K n) := by
  refine D.has scblock_lines (fun vs H Q E h => ?_) (fun f cdv A outer s H vs Q E hr h => ?_)
  · obtain ⟨v, b, ah, rfl, _⟩ := h
    rfl
  obtain ⟨v, b, ah, rfl, hd, ho, hz, hA, hn, k⟩ := h
  refine ⟨_, (pss_cons (ps_set (i := 2) scblock_lines.nd rfl (Or.inl rfl) (pe_lst pa_nil))
      (pss_cons (ps_for PassesOwn.never rfl (pi_tup (pv 0)) (pg_name (i := 3) scblock_lines.nd rfl (Or.inl rfl))
        (pss_cons (ps_expr (pe_bm PySem.F.plainAttrs_list PySem.F.slot_list_append PySem.F.type_list_append mt_append (pv 2) (pa_cons (pe_op op_addS (pv 1) (pe_f Gline_text (hr.mono (by omega)) (by rfl) pass0 (pa_cons (pv 3) pa_nil))) pa_nil)))
      (pss_cons (ps_if (pt_cmpR op_in_seq (pe_ix ix_tup (pv 3) pe_int (fun _ _ => rfl)) (pe_tup (pa_cons pe_str (pa_cons pe_str pa_nil))) (by rfl)) (pss_one (ps_expr (pe_bm PySem.F.plainAttrs_list PySem.F.slot_list_extend PySem.F.type_list_extend mt_extend (pv 2) (pa_cons (pe_f Gpart_lines (hr.mono (by omega)) (by rfl) pass0 (pa_cons (pe_ix ix_tup (pv 3) pe_int (fun _ _ => rfl)) (pa_cons (pe_op op_addS (pv 1) (pe_gstr (by rfl) g_STEP)) pa_nil))) pa_nil))))
        pss_nil)
      (pss_one (ps_if (PW.pt (pw_and (pt_cmpR op_eq (pe_ix ix_tup (pv 3) pe_int (fun _ _ => rfl)) pe_str (nomark _)) (pw_and1 (pt_cmpR (op_neD hr.h64) (pe_ix ix_tup (pv 3) pe_int (fun _ _ => rfl)) (pe_tup pa_nil) (nomark _))))) (pss_cons (ps_expr (pe_bm PySem.F.plainAttrs_list PySem.F.slot_list_append PySem.F.type_list_append mt_append (pv 2) (pa_cons (pe_op op_addS (pv 1) pe_str) pa_nil)))
      (pss_one (ps_expr (pe_bm PySem.F.plainAttrs_list PySem.F.slot_list_extend PySem.F.type_list_extend mt_extend (pv 2) (pa_cons (pe_f Gblock_lines (hr.mono (by omega)) (by rfl) pass0 (pa_cons (pe_ix ix_tup (pv 3) pe_int (fun _ _ => rfl)) (pa_cons (pe_op op_addS (pv 1) (pe_gstr (by rfl) g_STEP)) pa_nil))) pa_nil)))))
        pss_nil)))))
      (pss_one (ps_ret (pv 2))))), ?_⟩
  have el : ("else" : Str).length = 4 := by decide +kernel
  have ws : ("  " : Str).length = 2 := by decide +kernel
  obtain ⟨a, xs, rfl, hT, hl, hi⟩ := hd.isTup
  rw [Sm.ds_map] at hi
  have hlen : xs.length = b.length := by rw [hl, Sm.ds_map, List.length_map]
  walk_at "rd"
  refine ⟨by decide, fun q hq => ?_⟩
  walk_at "rd"
  have hall := Sm.all_ok n ah _ hA
  refine r_ForT (xs := xs) (sqT_kp (Kp.nil.new hq) hT) (fun i σ H' => ∃ sv, σ = [some (.ref a), some (.str ah), some (.ref q), sv] ∧ Kp [] H H' ∧
      H' q = some (.lst ((Sm.all ah (b.take i)).map V.str))) ⟨none, rfl, Kp.nil.new hq, upd_same⟩ (fun i σ H' ⟨_, _, kk, _⟩ => sqT_kp kk hT) ?_ ?_
  · rintro i x σ H1 hx ⟨sv, rfl, k1, hL⟩
    have hib : i < b.length := by rw [← hlen]; exact (List.getElem?_eq_some_iff.mp hx).1
    have hS : Dt K H1 x (b[i]).d := (hi i x (b[i]).d hx (by rw [List.getElem?_map, List.getElem?_eq_getElem hib]; rfl)).kp k1
    have hO := ho _ (List.getElem_mem hib)
    have hsz := Sm.sizes_mem (List.getElem_mem hib)
    have htk : b.take (i + 1) = b.take i ++ [b[i]] := by rw [List.take_add_one, List.getElem?_eq_getElem hib]; rfl
    have hadd : Sm.all ah (b.take (i + 1)) = Sm.all ah (b.take i) ++ Sm.lines ah b[i] := by
      rw [htk, Sm.all_flat, Sm.all_flat, List.flatMap_append, List.flatMap_cons, List.flatMap_nil, List.append_nil]
    have hfit : (Sm.all ah (b.take (i + 1))).length ≤ 300 := by
      have q1 := (hall (b.take (i + 1)) fun s hs => ho s (List.mem_of_mem_take hs)).1
      have q2 := Sm.sizes_app (b.take (i + 1)) (b.drop (i + 1))
      rw [List.take_append_drop] at q2
      omega
    generalize b[i] = s at *
    have hline := (Sm.ok.line hO).len
    have hal := hA.len
    rw [hadd, List.length_append] at hfit
    walk_at "rd"
    refine ⟨x, s, n, rfl, hS, hO, fun H2 k2 => ?_⟩
    have hL2 := k2.get hL (by simp)
    walk_at "rd"
    rotate_left 1
    · rw [List.length_map, sizeLine_eq]
      omega
    · rw [sizeLine_eq]
      omega
    have k3 : Kp [] H (upd H2 q (.lst (List.map V.str (Sm.all ah (b.take i)) ++ [V.str (ah ++ s.line)]))) := (k1.trans k2).own hq
    have hS3 := (hS.kp k2).kp (kpW (o := .lst (List.map V.str (Sm.all ah (b.take i)) ++ [V.str (ah ++ s.line)])) hL2)
    have hL3 : upd H2 q (.lst (List.map V.str (Sm.all ah (b.take i)) ++ [V.str (ah ++ s.line)])) q = some (.lst ((Sm.all ah (b.take i) ++ [ah ++ s.line]).map V.str)) := by
      rw [upd_same, List.map_append]
      rfl
    generalize upd H2 q (.lst (List.map V.str (Sm.all ah (b.take i)) ++ [V.str (ah ++ s.line)])) = H3 at k3 hS3 hL3 ⊢
    clear hS hL hL2 k1 k2
    cases s with
    | pl s =>
      rw [Sm.d] at hS3
      obtain ⟨p, ys, rfl, hT3, h0⟩ := Pl.head hS3
      walk_at "rd"
      refine ⟨by decide, fun t ht => ?_⟩
      have k4 : Kp [] H3 (upd H3 t (.tup [.str "if", .str "repeat"])) := Kp.nil.new ht
      have hT4 := sqT_kp k4 hT3
      have hL4 := k4.get hL3 (by simp)
      refine r_inF (.inr (SqT.of upd_same)) rfl rfl (Pl.word_in s) ?_
      walk_at "rd"
      refine ifd (fun c => absurd c (Pl.word_ne s)) fun _ => ?_
      walk_at "rd"
      refine ⟨_, rfl, k3.trans k4, ?_⟩
      rw [hL4, hadd, Sm.lines]
      rfl
    | ifs t y z =>
      cases n with
      | zero => exact hO.elim
      | succ m =>
        obtain ⟨rfl, rfl⟩ := hs m rfl
        obtain ⟨ht0, hy0, hz0⟩ := hO
        have hA2 : Sok (ah ++ "  ") (20 - 2 * m) := (hA.app (Sok.lit (n := 2) (by decide +kernel))).mono (by omega)
        rw [Sm.size] at hsz
        rw [Sm.d] at hS3
        obtain ⟨p, x0, x1, x2, x3, rfl, hT3, h0, h1, h2, h3⟩ := Dt.is4 hS3
        obtain rfl := Dt.isStr h0
        walk_at "rd"
        refine ⟨by decide, fun u hu => ?_⟩
        have k4 : Kp [] H3 (upd H3 u (.tup [.str "if", .str "repeat"])) := Kp.nil.new hu
        have hT4 := sqT_kp k4 hT3
        have hL4 := k4.get hL3 (by simp)
        refine r_inT (.inr (SqT.of upd_same)) rfl rfl (by decide +kernel) ?_
        generalize upd H3 u (.tup [.str "if", .str "repeat"]) = H4 at k4 hT4 hL4 ⊢
        walk_at "rd"
        refine ⟨x2, y, ah ++ "  ", rfl, h2.kp k4, hy0, by omega, hA2, by omega, fun H5 p5 k5 n5 h5 => ?_⟩
        have hL5 := k5.get hL4 (by simp)
        have k6 := kpW (o := .lst (List.map V.str (Sm.all ah (b.take i) ++ [ah ++ Sm.line (.ifs t y z)]) ++ List.map V.str (Sm.part (ah ++ "  ") y))) hL5
        have kk := (k3.trans k4).trans k5 |>.own (o := .lst (List.map V.str (Sm.all ah (b.take i) ++ [ah ++ Sm.line (.ifs t y z)]) ++ List.map V.str (Sm.part (ah ++ "  ") y))) hq
        have hT6 := sqT_kp k6 (sqT_kp k5 hT4)
        have h6 := ((h3.kp k4).kp k5).kp k6
        have hpart : (Sm.part (ah ++ "  ") y).length + (if z.isEmpty then [] else (ah ++ "else") :: Sm.all (ah ++ "  ") z).length ≤ 300 := by
          rw [Sm.lines, List.length_cons, List.length_append] at hfit
          unfold Sm.part
          omega
        have h300 : (Sm.all ah (b.take i)).length ≤ 300 := by omega
        walk_at "rd"
        rotate_left 1
        · walk_at "sz"
        · walk_at "sz"
        refine ⟨by decide, fun u7 hu7 => ?_⟩
        have k7 : Kp [] (upd H5 q (.lst (List.map V.str (Sm.all ah (b.take i) ++ [ah ++ Sm.line (.ifs t y z)]) ++ List.map V.str (Sm.part (ah ++ "  ") y)))) _ := Kp.nil.new (o := .tup []) hu7
        have hT7 := sqT_kp k7 hT6
        have hL7 := k7.get upd_same (by simp)
        refine r_neD (h6.kp k7).dp (Dt.dp (Dt.mk0 upd_same)) ((Sm.block_cmp hz0).shaped (by omega)) ((Cmp.nil (n := 0)).shaped (by omega)) ?_
        rw [eqv_nil, Sm.ds_map, List.isEmpty_map]
        walk_at "rd"
        have kk7 := kk.trans k7
        have h7 := h6.kp k7
        generalize upd (upd H5 q (.lst (List.map V.str (Sm.all ah (b.take i) ++ [ah ++ Sm.line (.ifs t y z)]) ++ List.map V.str (Sm.part (ah ++ "  ") y)))) u7 (.tup []) = H7 at kk7 hT7 hL7 h7 ⊢
        cases z with
        | nil =>
          rw [List.isEmpty_nil]
          walk_at "rd"
          refine ⟨_, rfl, kk7, ?_⟩
          rw [hL7, hadd, Sm.lines, Sm.line]
          simp only [List.map_append, List.append_assoc, List.isEmpty_nil, if_true, List.map_cons, List.map_nil, List.nil_append, List.cons_append, List.append_nil]
          rfl
        | cons z0 zr =>
          rw [List.isEmpty_cons]
          rw [List.isEmpty_cons, if_neg Bool.false_ne_true, List.length_cons] at hpart
          walk_at "rd"
          have k8 := kpW (o := .lst (List.map V.str (Sm.all ah (b.take i) ++ [ah ++ Sm.line (.ifs t y (z0 :: zr))]) ++ List.map V.str (Sm.part (ah ++ "  ") y) ++ [V.str (ah ++ "else")])) hL7
          have hT8 := sqT_kp k8 hT7
          walk_at "rd"
          refine ⟨x3, z0 :: zr, ah ++ "  ", rfl, h7.kp k8, hz0, by omega, hA2, by omega, fun H9 p9 k9 n9 h9 => ?_⟩
          have hL9 := k9.get upd_same (by simp)
          walk_at "rd"
          · refine ⟨_, rfl, ((kk7.own hq).trans k9).own hq, ?_⟩
            rw [upd_same, hadd, Sm.lines, Sm.line]
            simp only [List.map_append, List.append_assoc, List.isEmpty_cons, List.map_cons, List.map_nil, List.nil_append, List.cons_append, if_neg Bool.false_ne_true]
            rfl
          all_goals walk_at "sz"
    | rep c y =>
      cases n with
      | zero => exact hO.elim
      | succ m =>
        obtain ⟨rfl, rfl⟩ := hs m rfl
        obtain ⟨hc0, hc1, hy0⟩ := hO
        have hA2 : Sok (ah ++ "  ") (20 - 2 * m) := (hA.app (Sok.lit (n := 2) (by decide +kernel))).mono (by omega)
        rw [Sm.size] at hsz
        rw [Sm.d] at hS3
        obtain ⟨p, x0, x1, x2, rfl, hT3, h0, h1, h2⟩ := Dt.is3 hS3
        obtain rfl := Dt.isStr h0
        walk_at "rd"
        refine ⟨by decide, fun u hu => ?_⟩
        have k4 : Kp [] H3 (upd H3 u (.tup [.str "if", .str "repeat"])) := Kp.nil.new hu
        have hT4 := sqT_kp k4 hT3
        have hL4 := k4.get hL3 (by simp)
        refine r_inT (.inr (SqT.of upd_same)) rfl rfl (by decide +kernel) ?_
        generalize upd H3 u (.tup [.str "if", .str "repeat"]) = H4 at k4 hT4 hL4 ⊢
        walk_at "rd"
        refine ⟨x2, y, ah ++ "  ", rfl, h2.kp k4, hy0, by omega, hA2, by omega, fun H5 p5 k5 n5 h5 => ?_⟩
        have hL5 := k5.get hL4 (by simp)
        have k6 := kpW (o := .lst (List.map V.str (Sm.all ah (b.take i) ++ [ah ++ Sm.line (.rep c y)]) ++ List.map V.str (Sm.part (ah ++ "  ") y))) hL5
        have hT6 := sqT_kp k6 (sqT_kp k5 hT4)
        have hpart : (Sm.part (ah ++ "  ") y).length ≤ 300 := by
          rw [Sm.lines, List.length_cons] at hfit
          unfold Sm.part
          omega
        have h300 : (Sm.all ah (b.take i)).length ≤ 300 := by omega
        walk_at "rd"
        · refine ⟨_, rfl, ((k3.trans k4).trans k5).own hq, ?_⟩
          rw [upd_same, hadd, Sm.lines, Sm.line]
          simp only [List.map_append, List.append_assoc, List.map_cons, List.map_nil, List.nil_append, List.cons_append]
          rfl
        all_goals walk_at "sz"
  · rintro σ H1 ⟨sv, rfl, k1, hL⟩
    walk_at "rd"
    rw [hlen, List.take_length] at hL
    exact k _ q k1 hq hL
abbrev sprogram_text : Stmt := topS 9
abbrev Nprogram_text : List Str := ["program"]
abbrev Pprogram_text : List Str := ["program"]
theorem scprogram_text : FnScope Nprogram_text Pprogram_text (defScope sprogram_text) :=
  ⟨rfl, rfl, rfl, by decide +kernel, rfl, by decide +kernel, by decide +kernel⟩
theorem ok_program_text (D : Df K mg "program_text" sprogram_text Pprogram_text) (B : Blt mg) {l : Nat} {tk : Tok} (g_HEAD : mg "HEAD" = some (.str "program" tk))
    (Gblock_lines : Has P w K mg base CX0 "block_lines" ["block", "ahead"] l (spLines K 4)) : Has P w K mg base CX0 "program_text" Pprogram_text (l + 1) (spProgT K) := by
  refine D.has scprogram_text (fun vs H Q E h => ?_) (fun f cdv A outer s H vs Q E hr h => ?_)
  · obtain ⟨v, b, rfl, _⟩ := h
    rfl
  obtain ⟨v, b, rfl, hd, ho, hz, k⟩ := h
  refine ⟨_, (pss_one (ps_ret (pe_join pe_str (pe_op op_cat (pe_lst (pa_cons (pe_gstr (by rfl) g_HEAD) pa_nil)) (pe_f Gblock_lines (hr.mono (by omega)) (by rfl) pass0 (pa_cons (pv 0) (pa_cons pe_str pa_nil))))))), ?_⟩
  walk_at "rd"
  refine ⟨by decide, fun p hp => ?_⟩
  have k1 : Kp [] H (upd H p (.lst [.str "program"])) := Kp.nil.new hp
  have h1 : upd H p (.lst [.str "program"]) p = some (.lst [.str "program"]) := upd_same
  generalize upd H p (.lst [.str "program"]) = H1 at k1 h1 ⊢
  walk_at "rd"
  refine ⟨v, b, "", rfl, hd.kp k1, ho, hz, Sok.lit (by decide +kernel), by omega, fun H2 q k2 nq h2 => ?_⟩
  have h3 := k2.get h1 (by simp)
  have hall := Sm.all_ok 4 "" 0 (Sok.lit (by decide +kernel)) b ho
  walk_at "rd"
  refine r_cat h3 h2 (by have := hall.1; walk_at "sz") fun r hr' => ?_
  refine ⟨"\n", r, "program" :: Sm.all "" b, rfl, rfl, .inl (SqL.of upd_same), ?_, ?_⟩
  · have q1 : ∀ ls : List Str, (∀ z ∈ ls, Sok z 318) → (ls.map (·.length)).sum ≤ 318 * ls.length := by
      intro ls
      induction ls with
      | nil => intro _; exact Nat.le_refl _
      | cons z r ih =>
        intro hz
        have a1 := (hz z (List.mem_cons_self ..)).len
        have a2 := ih fun z hz' => hz z (List.mem_cons_of_mem _ hz')
        rw [List.map_cons, List.sum_cons, List.length_cons]
        omega
    have q2 := q1 _ hall.2
    have q3 := hall.1
    have e1 : ("\n" : Str).length = 1 := by decide +kernel
    have e2 : ("program" : Str).length = 7 := by decide +kernel
    rw [List.map_cons, List.sum_cons, List.length_cons, e1, e2]
    omega
  · exact k _ ((k1.trans k2).new hr')
abbrev s_law_expr_text : Stmt := topS 21
abbrev N_law_expr_text : List Str := ["_law_expr_here", "_law_sign"]
abbrev P_law_expr_text : List Str := ["_law_expr_here"]
theorem sc_law_expr_text : FnScope N_law_expr_text P_law_expr_text (defScope s_law_expr_text) :=
  ⟨rfl, rfl, rfl, by decide +kernel, rfl, by decide +kernel, by decide +kernel⟩
theorem ok_law_expr_text (D : Df K mg "_law_expr_text" s_law_expr_text P_law_expr_text) (B : Blt mg) :
    ∀ n, eLen n ≤ 1000 → Has P w K mg base CX0 "_law_expr_text" P_law_expr_text n (spExT K n)
  | 0, _ => D.void fun vs H Q E h => by
    obtain ⟨v, e, _, _, h, _⟩ := h
    exact h
  | n + 1, hn => by
    have G_law_expr_text := ok_law_expr_text D B n (by unfold eLen at hn; omega)
    refine D.has sc_law_expr_text (fun vs H Q E h => ?_) (fun f cdv A outer s H vs Q E hr h => ?_)
    · obtain ⟨v, e, rfl, _⟩ := h
      rfl
    obtain ⟨v, e, rfl, hd, ho, k⟩ := h
    refine ⟨_, (pss_cons (ps_if (pt_not (pt_val (pe_callB c_is (by rfl) B.isinstance (by decide +kernel) (pa_cons (pv 0) (pa_cons (pe_ty (T := "tuple") (by rfl) B.tuple (by decide +kernel)) pa_nil))))) (pss_one (ps_ret (pe_callTy c_str (by rfl) B.str (by decide +kernel) (pa_cons (pv 0) pa_nil))))
        pss_nil)
      (pss_cons (ps_set (i := 1) sc_law_expr_text.nd rfl (Or.inl rfl) (pe_dget hr.hu (pe_disp (pps_cons pe_str pe_str (pps_cons pe_str pe_str (pps_cons pe_str pe_str pps_nil))) (by rfl) (by rfl) (fun z => by cases z) (by decide)) (pe_ix ix_tup (pv 0) pe_int (fun _ _ => rfl)) (fun _ _ => rfl)))
      (pss_one (ps_ret (pe_op op_addS (pe_op op_addS (pe_op op_addS (pe_op op_addS pe_str (pe_f G_law_expr_text (hr.mono (by omega)) (by rfl) pass0 (pa_cons (pe_ix ix_tup (pv 0) pe_int (fun _ _ => rfl)) pa_nil))) (pv 1)) (pe_f G_law_expr_text (hr.mono (by omega)) (by rfl) pass0 (pa_cons (pe_ix ix_tup (pv 0) pe_int (fun _ _ => rfl)) pa_nil))) pe_str))))), ?_⟩
    cases e with
    | int i =>
      obtain rfl := Dt.isInt hd
      walk_at "rd"
      · exact k _ Kp.nil
      · exact log2_small (by have := ho.1; omega) (by have := ho.2; omega)
    | name x =>
      obtain rfl := Dt.isStr hd
      walk_at "rd"
      exact k _ Kp.nil
    | bin o a b =>
      change Dt K H v (.tuple [.str o, a.d, b.d]) at hd
      obtain ⟨p, x, y, z, rfl, hT, hx, hy, hz⟩ := Dt.is3 hd
      obtain rfl := Dt.isStr hx
      have L := (Ex.ok.sok ho).len
      simp only [Ex.text, Str.length_append] at L
      walk_at "rd"
      intro q hq
      walk_at "rd"
      refine ⟨upd_same, signK, rfl, by decide, ?_⟩
      have k0 : Kp [] H (upd (upd H q (.dK [])) q (.dK (mergeK [] signK))) := (Kp.nil.new hq).own hq
      have hT0 := sqT_kp k0 hT
      walk_at "rd"
      refine r_DG (dget_k upd_same (signK_get ho.1)) ?_
      walk_at "rd"
      refine ⟨y, a, rfl, hy.kp k0, ho.2.1, fun H1 k1 => ?_⟩
      have hT1 := sqT_kp k1 hT0
      walk_at "rd"
      refine ⟨z, b, rfl, hz.kp (k0.trans k1), ho.2.2, fun H2 k2 => ?_⟩
      walk_at "rd"
      · exact k _ ((k0.trans k1).trans k2)
      all_goals walk_at "sl"
abbrev s_law_test_text : Stmt := topS 22
abbrev N_law_test_text : List Str := ["_law_test_here", "_law_numbers"]
abbrev P_law_test_text : List Str := ["_law_test_here"]
theorem sc_law_test_text : FnScope N_law_test_text P_law_test_text (defScope s_law_test_text) :=
  ⟨rfl, rfl, rfl, by decide +kernel, rfl, by decide +kernel, by decide +kernel⟩
theorem ok_law_test_text1 (D : Df K mg "_law_test_text" s_law_test_text P_law_test_text) (B : Blt mg) {sp : Sp} {n : Nat} (hn : n ≤ 100)
    (G_law_expr_text : Has P w K mg base CX0 "_law_expr_text" ["_law_expr_here"] 3 (spExT K 3))
    (G_law_test_text : Has P w K mg base CX0 "_law_test_text" P_law_test_text (n + 3) sp) (hs : ∀ m, n = m + 1 → sp = spTsT K m) :
    Has P w K mg base CX0 "_law_test_text" P_law_test_text (n + 4) (spTsT K n) := by
  refine D.has sc_law_test_text (fun vs H Q E h => ?_) (fun f cdv A outer s H vs Q E hr h => ?_)
  · obtain ⟨v, t, rfl, _⟩ := h
    rfl
  obtain ⟨v, t, rfl, hd, ho, k⟩ := h
  refine ⟨_, (pss_cons (ps_if (pt_cmpR op_eq (pe_ix ix_tup (pv 0) pe_int (fun _ _ => rfl)) pe_str (nomark _)) (pss_one (ps_ret (pe_op op_addS pe_str (pe_f G_law_test_text (hr.mono (by omega)) (by rfl) pass0 (pa_cons (pe_ix ix_tup (pv 0) pe_int (fun _ _ => rfl)) pa_nil)))))
        pss_nil)
      (pss_cons (ps_if (pt_cmpR op_eq (pe_ix ix_tup (pv 0) pe_int (fun _ _ => rfl)) pe_str (nomark _)) (pss_one (ps_ret (pe_op op_addS pe_str (pe_ix ix_tup (pv 0) pe_int (fun _ _ => rfl)))))
        pss_nil)
      (pss_cons (ps_if (pt_cmpR op_eq (pe_ix ix_tup (pv 0) pe_int (fun _ _ => rfl)) pe_str (nomark _)) (pss_cons (ps_set (i := 1) sc_law_test_text.nd rfl (Or.inl rfl) (pe_op op_addS (pe_op op_addS (pe_callTy c_str (by rfl) B.str (by decide +kernel) (pa_cons (pe_ix ix_tup (pv 0) pe_int (fun _ _ => rfl)) pa_nil)) pe_str) (pe_callTy c_str (by rfl) B.str (by decide +kernel) (pa_cons (pe_ix ix_tup (pv 0) pe_int (fun _ _ => rfl)) pa_nil))))
      (pss_one (ps_ret (pe_op op_addS (pe_op op_addS (pe_op op_addS pe_str (pv 1)) pe_str) (pe_f G_law_expr_text (hr.mono (by omega)) (by rfl) pass0 (pa_cons (pe_ix ix_tup (pv 0) pe_int (fun _ _ => rfl)) pa_nil))))))
        pss_nil)
      (pss_one (ps_ret (pe_op op_addS (pe_op op_addS (pe_f G_law_expr_text (hr.mono (by omega)) (by rfl) pass0 (pa_cons (pe_ix ix_tup (pv 0) pe_int (fun _ _ => rfl)) pa_nil)) pe_str) (pe_f G_law_expr_text (hr.mono (by omega)) (by rfl) pass0 (pa_cons (pe_ix ix_tup (pv 0) pe_int (fun _ _ => rfl)) pa_nil)))))))), ?_⟩
  have L := (Ts.ok.sok ho).len
  cases t with
  | not t =>
    cases n with
    | zero => exact ho.elim
    | succ m =>
      obtain rfl := hs m rfl
      change Dt K H v (.tuple [.str "not", t.d]) at hd
      obtain ⟨p, x, y, rfl, hT, hx, hy⟩ := Dt.is2 hd
      obtain rfl := Dt.isStr hx
      simp only [Ts.text, Str.length_append] at L
      walk_at "rd"
      refine ⟨y, t, rfl, hy, ho, fun H1 k1 => ?_⟩
      walk_at "rd"
      · exact k _ k1
      all_goals walk_at "sl"
  | given z =>
    change Dt K H v (.tuple [.str "given", .str z]) at hd
    obtain ⟨p, x, y, rfl, hT, hx, hy⟩ := Dt.is2 hd
    obtain rfl := Dt.isStr hx
    obtain rfl := Dt.isStr hy
    simp only [Ts.text, Str.length_append] at L
    walk_at "rd"
    · exact k _ Kp.nil
    all_goals walk_at "sl"
  | rest e b r =>
    have ho : e.ok 3 ∧ 0 ≤ b ∧ b ≤ 99 ∧ 0 ≤ r ∧ r ≤ 99 := by cases n <;> exact ho
    change Dt K H v (.tuple [.str "rest", e.d, .int b, .int r]) at hd
    obtain ⟨p, x, y, z, u, rfl, hT, hx, hy, hz, hu⟩ := Dt.is4 hd
    obtain rfl := Dt.isStr hx
    obtain rfl := Dt.isInt hz
    obtain rfl := Dt.isInt hu
    simp only [Ts.text, numT, Str.length_append] at L
    walk_at "rd"
    refine ⟨y, e, rfl, hy, ho.1, fun H1 k1 => ?_⟩
    walk_at "rd"
    · have q := k _ k1
      show Q (V.str _) _
      simp only [Ts.text, numT, Str.append_assoc] at q ⊢
      exact q
    all_goals first | walk_at "sl" | exact log2_small (by omega) (by omega)
  | less a b =>
    have ho : a.ok 3 ∧ b.ok 3 := by cases n <;> exact ho
    change Dt K H v (.tuple [.str "less", a.d, b.d]) at hd
    obtain ⟨p, x, y, z, rfl, hT, hx, hy, hz⟩ := Dt.is3 hd
    obtain rfl := Dt.isStr hx
    simp only [Ts.text, Str.length_append] at L
    walk_at "rd"
    refine ⟨y, a, rfl, hy, ho.1, fun H1 k1 => ?_⟩
    have hT1 := sqT_kp k1 hT
    walk_at "rd"
    refine ⟨z, b, rfl, hz.kp k1, ho.2, fun H2 k2 => ?_⟩
    walk_at "rd"
    · exact k _ (k1.trans k2)
    all_goals walk_at "sl"
theorem ok_law_test_text (D : Df K mg "_law_test_text" s_law_test_text P_law_test_text) (B : Blt mg)
    (G_law_expr_text : Has P w K mg base CX0 "_law_expr_text" ["_law_expr_here"] 3 (spExT K 3)) : ∀ n, n ≤ 100 → Has P w K mg base CX0 "_law_test_text" P_law_test_text (n + 4) (spTsT K n)
  | 0, _ => ok_law_test_text1 D B (by omega) G_law_expr_text ((D.void (sp := fun _ _ _ _ => False) fun _ _ _ _ h => h).mono (by omega)) fun m h => by omega
  | n + 1, hn => ok_law_test_text1 D B hn G_law_expr_text (ok_law_test_text D B G_law_expr_text n (by omega)) fun m h => by
    obtain rfl : n = m := by omega
    rfl
abbrev s_law_line : Stmt := topS 23
abbrev N_law_line : List Str := ["_law_statement_here", "_law_word"]
abbrev P_law_line : List Str := ["_law_statement_here"]
theorem sc_law_line : FnScope N_law_line P_law_line (defScope s_law_line) :=
  ⟨rfl, rfl, rfl, by decide +kernel, rfl, by decide +kernel, by decide +kernel⟩
theorem ok_law_line (D : Df K mg "_law_line" s_law_line P_law_line) (B : Blt mg)
    (G_law_expr_text : Has P w K mg base CX0 "_law_expr_text" ["_law_expr_here"] 3 (spExT K 3))
    (G_law_test_text : Has P w K mg base CX0 "_law_test_text" ["_law_test_here"] 6 (spTsT K 2)) : Has P w K mg base CX0 "_law_line" P_law_line 7 (spLine K) := by
  refine D.has sc_law_line (fun vs H Q E h => ?_) (fun f cdv A outer s H vs Q E hr h => ?_)
  · obtain ⟨v, t, n, rfl, _⟩ := h
    rfl
  obtain ⟨v, s, n, rfl, hd, ho, k⟩ := h
  refine ⟨_, (pss_cons (ps_set (i := 1) sc_law_line.nd rfl (Or.inl rfl) (pe_ix ix_tup (pv 0) pe_int (fun _ _ => rfl)))
      (pss_cons (ps_if (pt_cmpR op_eq (pv 1) pe_str (nomark _)) (pss_one (ps_ret (pe_op op_addS (pe_op op_addS (pe_op op_addS pe_str (pe_ix ix_tup (pv 0) pe_int (fun _ _ => rfl))) pe_str) (pe_f G_law_expr_text (hr.mono (by omega)) (by rfl) pass0 (pa_cons (pe_ix ix_tup (pv 0) pe_int (fun _ _ => rfl)) pa_nil)))))
        pss_nil)
      (pss_cons (ps_if (pt_cmpR op_eq (pv 1) pe_str (nomark _)) (pss_one (ps_ret (pe_op op_addS pe_str (pe_f G_law_test_text (hr.mono (by omega)) (by rfl) pass0 (pa_cons (pe_ix ix_tup (pv 0) pe_int (fun _ _ => rfl)) pa_nil)))))
        pss_nil)
      (pss_one (ps_ret (pe_op op_addS (pe_op op_addS (pv 1) pe_str) (pe_ifExp (pt_cmpR op_eq (pv 1) pe_str (nomark _)) (pe_f G_law_expr_text (hr.mono (by omega)) (by rfl) pass0 (pa_cons (pe_ix ix_tup (pv 0) pe_int (fun _ _ => rfl)) pa_nil)) (pe_callTy c_str (by rfl) B.str (by decide +kernel) (pa_cons (pe_ix ix_tup (pv 0) pe_int (fun _ _ => rfl)) pa_nil))))))))), ?_⟩
  have L := (Sm.ok.line ho).len
  cases s with
  | pl s =>
    have ho : s.ok := by cases n <;> exact ho
    rw [Sm.d] at hd
    cases s with
    | set z e =>
      change Dt K H v (.tuple [.str "set", .str z, e.d]) at hd
      obtain ⟨p, x, y, u, rfl, hT, hx, hy, hu⟩ := Dt.is3 hd
      obtain rfl := Dt.isStr hx
      obtain rfl := Dt.isStr hy
      simp only [Sm.line, Pl.text, Str.length_append] at L
      walk_at "rd"
      refine ⟨u, e, rfl, hu, ho.2, fun H1 k1 => ?_⟩
      walk_at "rd"
      · exact k _ k1
      all_goals walk_at "sl"
    | unset z =>
      change Dt K H v (.tuple [.str "unset", .str z]) at hd
      obtain ⟨p, x, y, rfl, hT, hx, hy⟩ := Dt.is2 hd
      obtain rfl := Dt.isStr hx
      obtain rfl := Dt.isStr hy
      simp only [Sm.line, Pl.text, Str.length_append] at L
      walk_at "rd"
      · exact k _ Kp.nil
      all_goals walk_at "sl"
    | tell e =>
      change Dt K H v (.tuple [.str "tell", e.d]) at hd
      obtain ⟨p, x, y, rfl, hT, hx, hy⟩ := Dt.is2 hd
      obtain rfl := Dt.isStr hx
      simp only [Sm.line, Pl.text, Str.length_append] at L
      have e1 : ("tell" ++ " " : Str) = "tell " := by decide +kernel
      have e2 := congrArg Str.length e1
      rw [Str.length_append] at e2
      walk_at "rd"
      refine ⟨y, e, rfl, hy, ho, fun H1 k1 => ?_⟩
      walk_at "rd"
      · rw [e1]
        exact k _ k1
      all_goals walk_at "sl"
    | say z =>
      change Dt K H v (.tuple [.str "say", .str z]) at hd
      obtain ⟨p, x, y, rfl, hT, hx, hy⟩ := Dt.is2 hd
      obtain rfl := Dt.isStr hx
      obtain rfl := Dt.isStr hy
      simp only [Sm.line, Pl.text, Str.length_append] at L
      walk_at "rd"
      · exact k _ Kp.nil
      all_goals walk_at "sl"
    | stop z =>
      change Dt K H v (.tuple [.str "stop", .str z]) at hd
      obtain ⟨p, x, y, rfl, hT, hx, hy⟩ := Dt.is2 hd
      obtain rfl := Dt.isStr hx
      obtain rfl := Dt.isStr hy
      simp only [Sm.line, Pl.text, Str.length_append] at L
      walk_at "rd"
      · exact k _ Kp.nil
      all_goals walk_at "sl"
  | ifs t y z =>
    cases n with
    | zero => exact ho.elim
    | succ n =>
      rw [Sm.d] at hd
      obtain ⟨p, x, u, u1, u2, rfl, hT, hx, hu, hu1, hu2⟩ := Dt.is4 hd
      obtain rfl := Dt.isStr hx
      simp only [Sm.line, Str.length_append] at L
      walk_at "rd"
      refine ⟨u, t, rfl, hu, ho.1, fun H1 k1 => ?_⟩
      walk_at "rd"
      · exact k _ k1
      all_goals walk_at "sl"
  | rep m b =>
    cases n with
    | zero => exact ho.elim
    | succ n =>
      have h1 := ho.1
      have h2 := ho.2.1
      rw [Sm.d] at hd
      obtain ⟨p, x, u, u1, rfl, hT, hx, hu, hu1⟩ := Dt.is3 hd
      obtain rfl := Dt.isStr hx
      obtain rfl := Dt.isInt hu
      simp only [Sm.line, numT, Str.length_append] at L
      walk_at "rd"
      · exact k _ Kp.nil
      all_goals first | walk_at "sl" | exact log2_small (by omega) (by omega)
abbrev s_law_lines : Stmt := topS 24
abbrev N_law_lines : List Str := ["_law_block_here", "_law_ahead", "_law_found", "_law_statement_here"]
abbrev P_law_lines : List Str := ["_law_block_here", "_law_ahead"]
theorem sc_law_lines : FnScope N_law_lines P_law_lines (defScope s_law_lines) :=
  ⟨rfl, rfl, rfl, by decide +kernel, rfl, by decide +kernel, by decide +kernel⟩
theorem ok_law_lines1 (D : Df K mg "_law_lines" s_law_lines P_law_lines) (B : Blt mg) {n : Nat} {sp2 : Sp}
    (G_law_line : Has P w K mg base CX0 "_law_line" ["_law_statement_here"] 7 (spLine K)) (G_law_lines : Has P w K mg base CX0 "_law_lines" P_law_lines (n + 8) sp2)
    (hs : ∀ m, n = m + 1 → sp2 = spLines K m) : Has P w K mg base CX0 "_law_lines" P_law_lines (n + 9) (spLines K n) := by
  refine D.has sc_law_lines (fun vs H Q E h => ?_) (fun f cdv A outer s H vs Q E hr h => ?_)
  · obtain ⟨v, b, ah, rfl, _⟩ := h
    rfl
  obtain ⟨v, b, ah, rfl, hd, ho, hz, hA, hn, k⟩ := h
  refine ⟨_, (pss_cons (ps_set (i := 2) sc_law_lines.nd rfl (Or.inl rfl) (pe_lst pa_nil))
      (pss_cons (ps_for PassesOwn.never rfl (pi_tup (pv 0)) (pg_name (i := 3) sc_law_lines.nd rfl (Or.inl rfl))
        (pss_cons (ps_expr (pe_bm PySem.F.plainAttrs_list PySem.F.slot_list_append PySem.F.type_list_append mt_append (pv 2) (pa_cons (pe_op op_addS (pv 1) (pe_f G_law_line (hr.mono (by omega)) (by rfl) pass0 (pa_cons (pv 3) pa_nil))) pa_nil)))
      (pss_cons (ps_if (pt_cmpR op_in_seq (pe_ix ix_tup (pv 3) pe_int (fun _ _ => rfl)) (pe_lst (pa_cons pe_str (pa_cons pe_str pa_nil))) (by rfl)) (pss_one (ps_expr (pe_bm PySem.F.plainAttrs_list PySem.F.slot_list_extend PySem.F.type_list_extend mt_extend (pv 2) (pa_cons (pe_ifExp (pt_cmpR (op_neD hr.h64) (pe_ix ix_tup (pv 3) pe_int (fun _ _ => rfl)) (pe_tup pa_nil) (nomark _)) (pe_f G_law_lines (hr.mono (by omega)) (by rfl) pass0 (pa_cons (pe_ix ix_tup (pv 3) pe_int (fun _ _ => rfl)) (pa_cons (pe_op op_addS (pv 1) pe_str) pa_nil))) (pe_lst (pa_cons (pe_op op_addS (pv 1) pe_str) pa_nil))) pa_nil))))
        pss_nil)
      (pss_one (ps_if (PW.pt (pw_and (pt_cmpR op_eq (pe_ix ix_tup (pv 3) pe_int (fun _ _ => rfl)) pe_str (nomark _)) (pw_and1 (pt_cmpR (op_neD hr.h64) (pe_ix ix_tup (pv 3) pe_int (fun _ _ => rfl)) (pe_tup pa_nil) (nomark _))))) (pss_cons (ps_expr (pe_bm PySem.F.plainAttrs_list PySem.F.slot_list_append PySem.F.type_list_append mt_append (pv 2) (pa_cons (pe_op op_addS (pv 1) pe_str) pa_nil)))
      (pss_one (ps_expr (pe_bm PySem.F.plainAttrs_list PySem.F.slot_list_extend PySem.F.type_list_extend mt_extend (pv 2) (pa_cons (pe_f G_law_lines (hr.mono (by omega)) (by rfl) pass0 (pa_cons (pe_ix ix_tup (pv 3) pe_int (fun _ _ => rfl)) (pa_cons (pe_op op_addS (pv 1) pe_str) pa_nil))) pa_nil)))))
        pss_nil)))))
      (pss_one (ps_ret (pv 2))))), ?_⟩
  have el : ("else" : Str).length = 4 := by decide +kernel
  have ws : ("  " : Str).length = 2 := by decide +kernel
  have wp : ("  pass" : Str).length = 6 := by decide +kernel
  obtain ⟨a, xs, rfl, hT, hl, hi⟩ := hd.isTup
  rw [Sm.ds_map] at hi
  have hlen : xs.length = b.length := by rw [hl, Sm.ds_map, List.length_map]
  walk_at "rd"
  refine ⟨by decide, fun q hq => ?_⟩
  walk_at "rd"
  have hall := Sm.all_ok n ah _ hA
  refine r_ForT (xs := xs) (sqT_kp (Kp.nil.new hq) hT) (fun i σ H' => ∃ sv, σ = [some (.ref a), some (.str ah), some (.ref q), sv] ∧ Kp [] H H' ∧
      H' q = some (.lst ((Sm.all ah (b.take i)).map V.str))) ⟨none, rfl, Kp.nil.new hq, upd_same⟩ (fun i σ H' ⟨_, _, kk, _⟩ => sqT_kp kk hT) ?_ ?_
  · rintro i x σ H1 hx ⟨sv, rfl, k1, hL⟩
    have hib : i < b.length := by rw [← hlen]; exact (List.getElem?_eq_some_iff.mp hx).1
    have hS : Dt K H1 x (b[i]).d := (hi i x (b[i]).d hx (by rw [List.getElem?_map, List.getElem?_eq_getElem hib]; rfl)).kp k1
    have hO := ho _ (List.getElem_mem hib)
    have hsz := Sm.sizes_mem (List.getElem_mem hib)
    have htk : b.take (i + 1) = b.take i ++ [b[i]] := by rw [List.take_add_one, List.getElem?_eq_getElem hib]; rfl
    have hadd : Sm.all ah (b.take (i + 1)) = Sm.all ah (b.take i) ++ Sm.lines ah b[i] := by
      rw [htk, Sm.all_flat, Sm.all_flat, List.flatMap_append, List.flatMap_cons, List.flatMap_nil, List.append_nil]
    have hfit : (Sm.all ah (b.take (i + 1))).length ≤ 300 := by
      have q1 := (hall (b.take (i + 1)) fun s hs => ho s (List.mem_of_mem_take hs)).1
      have q2 := Sm.sizes_app (b.take (i + 1)) (b.drop (i + 1))
      rw [List.take_append_drop] at q2
      omega
    generalize b[i] = s at *
    have hline := (Sm.ok.line hO).len
    have hal := hA.len
    rw [hadd, List.length_append] at hfit
    walk_at "rd"
    refine ⟨x, s, n, rfl, hS, hO, fun H2 k2 => ?_⟩
    have hL2 := k2.get hL (by simp)
    walk_at "rd"
    rotate_left 1
    · rw [List.length_map, sizeLine_eq]
      omega
    · rw [sizeLine_eq]
      omega
    have k3 : Kp [] H (upd H2 q (.lst (List.map V.str (Sm.all ah (b.take i)) ++ [V.str (ah ++ s.line)]))) := (k1.trans k2).own hq
    have hS3 := (hS.kp k2).kp (kpW (o := .lst (List.map V.str (Sm.all ah (b.take i)) ++ [V.str (ah ++ s.line)])) hL2)
    have hL3 : upd H2 q (.lst (List.map V.str (Sm.all ah (b.take i)) ++ [V.str (ah ++ s.line)])) q = some (.lst ((Sm.all ah (b.take i) ++ [ah ++ s.line]).map V.str)) := by
      rw [upd_same, List.map_append]
      rfl
    generalize upd H2 q (.lst (List.map V.str (Sm.all ah (b.take i)) ++ [V.str (ah ++ s.line)])) = H3 at k3 hS3 hL3 ⊢
    clear hS hL hL2 k1 k2
    cases s with
    | pl s =>
      rw [Sm.d] at hS3
      obtain ⟨p, ys, rfl, hT3, h0⟩ := Pl.head hS3
      walk_at "rd"
      refine ⟨by decide, fun t ht => ?_⟩
      have k4 : Kp [] H3 (upd H3 t (.lst [.str "if", .str "repeat"])) := Kp.nil.new ht
      have hT4 := sqT_kp k4 hT3
      have hL4 := k4.get hL3 (by simp)
      refine r_inF (.inl (SqL.of upd_same)) rfl rfl (Pl.word_in s) ?_
      walk_at "rd"
      refine ifd (fun c => absurd c (Pl.word_ne s)) fun _ => ?_
      walk_at "rd"
      refine ⟨_, rfl, k3.trans k4, ?_⟩
      rw [hL4, hadd, Sm.lines]
      rfl
    | ifs t y z =>
      cases n with
      | zero => exact hO.elim
      | succ m =>
        obtain rfl := hs m rfl
        obtain ⟨ht0, hy0, hz0⟩ := hO
        have hA2 : Sok (ah ++ "  ") (20 - 2 * m) := (hA.app (Sok.lit (n := 2) (by decide +kernel))).mono (by omega)
        rw [Sm.size] at hsz
        rw [Sm.d] at hS3
        obtain ⟨p, x0, x1, x2, x3, rfl, hT3, h0, h1, h2, h3⟩ := Dt.is4 hS3
        obtain rfl := Dt.isStr h0
        walk_at "rd"
        refine ⟨by decide, fun u hu => ?_⟩
        have k4 : Kp [] H3 (upd H3 u (.lst [.str "if", .str "repeat"])) := Kp.nil.new hu
        have hT4 := sqT_kp k4 hT3
        have hL4 := k4.get hL3 (by simp)
        refine r_inT (.inl (SqL.of upd_same)) rfl rfl (by decide +kernel) ?_
        generalize upd H3 u (.lst [.str "if", .str "repeat"]) = H4 at k4 hT4 hL4 ⊢
        walk_at "rdj"
        refine r_ifJ (fun v H5 => ∃ p5, v = .ref p5 ∧ Kp [] H4 H5 ∧ H5 p5 = some (.lst ((Sm.part (ah ++ "  ") y).map V.str))) (fun Q' kQ => ?_) ?_
        · walk_at "rd"
          refine ⟨by decide, fun e5 he5 => ?_⟩
          have k5 : Kp [] H4 (upd H4 e5 (.tup [])) := Kp.nil.new he5
          have hT5 := sqT_kp k5 hT4
          refine r_neD ((h2.kp k4).kp k5).dp (Dt.dp (Dt.mk0 upd_same)) ((Sm.block_cmp hy0).shaped (by omega)) ((Cmp.nil (n := 0)).shaped (by omega)) ?_
          rw [eqv_nil, Sm.ds_map, List.isEmpty_map]
          walk_at "rd"
          cases y with
          | nil =>
            rw [List.isEmpty_nil]
            walk_at "rd"
            refine ⟨by simp [sizeLine_eq], fun p6 h6 => ?_⟩
            · refine kQ _ _ ⟨p6, rfl, k5.new h6, ?_⟩
              rw [upd_same, Sm.part, List.isEmpty_nil, if_pos rfl, Str.append_assoc]
              have e : ("  " ++ "pass" : Str) = "  pass" := by decide +kernel
              rw [e]
              rfl
            · walk_at "sz"
          | cons y0 yr =>
            rw [List.isEmpty_cons]
            walk_at "rd"
            refine ⟨x2, y0 :: yr, ah ++ "  ", rfl, (h2.kp k4).kp k5, hy0, by omega, hA2, by omega, fun H6 p6 k6 n6 h6 => ?_⟩
            · exact kQ _ _ ⟨p6, rfl, k5.trans k6, h6⟩
            · walk_at "sz"
        rintro v5 H5 ⟨p5, rfl, k5, h5⟩
        have hL5 := k5.get hL4 (by simp)
        have k6 := kpW (o := .lst (List.map V.str (Sm.all ah (b.take i) ++ [ah ++ Sm.line (.ifs t y z)]) ++ List.map V.str (Sm.part (ah ++ "  ") y))) hL5
        have kk := (k3.trans k4).trans k5 |>.own (o := .lst (List.map V.str (Sm.all ah (b.take i) ++ [ah ++ Sm.line (.ifs t y z)]) ++ List.map V.str (Sm.part (ah ++ "  ") y))) hq
        have hT6 := sqT_kp k6 (sqT_kp k5 hT4)
        have h6 := ((h3.kp k4).kp k5).kp k6
        have hpart : (Sm.part (ah ++ "  ") y).length + (if z.isEmpty then [] else (ah ++ "else") :: Sm.all (ah ++ "  ") z).length ≤ 300 := by
          rw [Sm.lines, List.length_cons, List.length_append] at hfit
          unfold Sm.part
          omega
        have h300 : (Sm.all ah (b.take i)).length ≤ 300 := by omega
        walk_at "rd"
        rotate_left 1
        · walk_at "sz"
        refine ⟨by decide, fun u7 hu7 => ?_⟩
        have k7 : Kp [] (upd H5 q (.lst (List.map V.str (Sm.all ah (b.take i) ++ [ah ++ Sm.line (.ifs t y z)]) ++ List.map V.str (Sm.part (ah ++ "  ") y)))) _ := Kp.nil.new (o := .tup []) hu7
        have hT7 := sqT_kp k7 hT6
        have hL7 := k7.get upd_same (by simp)
        refine r_neD (h6.kp k7).dp (Dt.dp (Dt.mk0 upd_same)) ((Sm.block_cmp hz0).shaped (by omega)) ((Cmp.nil (n := 0)).shaped (by omega)) ?_
        rw [eqv_nil, Sm.ds_map, List.isEmpty_map]
        walk_at "rd"
        have kk7 := kk.trans k7
        have h7 := h6.kp k7
        generalize upd (upd H5 q (.lst (List.map V.str (Sm.all ah (b.take i) ++ [ah ++ Sm.line (.ifs t y z)]) ++ List.map V.str (Sm.part (ah ++ "  ") y)))) u7 (.tup []) = H7 at kk7 hT7 hL7 h7 ⊢
        cases z with
        | nil =>
          rw [List.isEmpty_nil]
          walk_at "rd"
          refine ⟨_, rfl, kk7, ?_⟩
          rw [hL7, hadd, Sm.lines, Sm.line]
          simp only [List.map_append, List.append_assoc, List.isEmpty_nil, if_true, List.map_cons, List.map_nil, List.nil_append, List.cons_append, List.append_nil]
          rfl
        | cons z0 zr =>
          rw [List.isEmpty_cons]
          rw [List.isEmpty_cons, if_neg Bool.false_ne_true, List.length_cons] at hpart
          walk_at "rd"
          have k8 := kpW (o := .lst (List.map V.str (Sm.all ah (b.take i) ++ [ah ++ Sm.line (.ifs t y (z0 :: zr))]) ++ List.map V.str (Sm.part (ah ++ "  ") y) ++ [V.str (ah ++ "else")])) hL7
          have hT8 := sqT_kp k8 hT7
          walk_at "rd"
          refine ⟨x3, z0 :: zr, ah ++ "  ", rfl, h7.kp k8, hz0, by omega, hA2, by omega, fun H9 p9 k9 n9 h9 => ?_⟩
          have hL9 := k9.get upd_same (by simp)
          walk_at "rd"
          · refine ⟨_, rfl, ((kk7.own hq).trans k9).own hq, ?_⟩
            rw [upd_same, hadd, Sm.lines, Sm.line]
            simp only [List.map_append, List.append_assoc, List.isEmpty_cons, List.map_cons, List.map_nil, List.nil_append, List.cons_append, if_neg Bool.false_ne_true]
            rfl
          all_goals walk_at "sz"
    | rep c y =>
      cases n with
      | zero => exact hO.elim
      | succ m =>
        obtain rfl := hs m rfl
        obtain ⟨hc0, hc1, hy0⟩ := hO
        have hA2 : Sok (ah ++ "  ") (20 - 2 * m) := (hA.app (Sok.lit (n := 2) (by decide +kernel))).mono (by omega)
        rw [Sm.size] at hsz
        rw [Sm.d] at hS3
        obtain ⟨p, x0, x1, x2, rfl, hT3, h0, h1, h2⟩ := Dt.is3 hS3
        obtain rfl := Dt.isStr h0
        walk_at "rd"
        refine ⟨by decide, fun u hu => ?_⟩
        have k4 : Kp [] H3 (upd H3 u (.lst [.str "if", .str "repeat"])) := Kp.nil.new hu
        have hT4 := sqT_kp k4 hT3
        have hL4 := k4.get hL3 (by simp)
        refine r_inT (.inl (SqL.of upd_same)) rfl rfl (by decide +kernel) ?_
        generalize upd H3 u (.lst [.str "if", .str "repeat"]) = H4 at k4 hT4 hL4 ⊢
        walk_at "rdj"
        refine r_ifJ (fun v H5 => ∃ p5, v = .ref p5 ∧ Kp [] H4 H5 ∧ H5 p5 = some (.lst ((Sm.part (ah ++ "  ") y).map V.str))) (fun Q' kQ => ?_) ?_
        · walk_at "rd"
          refine ⟨by decide, fun e5 he5 => ?_⟩
          have k5 : Kp [] H4 (upd H4 e5 (.tup [])) := Kp.nil.new he5
          have hT5 := sqT_kp k5 hT4
          refine r_neD ((h2.kp k4).kp k5).dp (Dt.dp (Dt.mk0 upd_same)) ((Sm.block_cmp hy0).shaped (by omega)) ((Cmp.nil (n := 0)).shaped (by omega)) ?_
          rw [eqv_nil, Sm.ds_map, List.isEmpty_map]
          walk_at "rd"
          cases y with
          | nil =>
            rw [List.isEmpty_nil]
            walk_at "rd"
            refine ⟨by simp [sizeLine_eq], fun p6 h6 => ?_⟩
            · refine kQ _ _ ⟨p6, rfl, k5.new h6, ?_⟩
              rw [upd_same, Sm.part, List.isEmpty_nil, if_pos rfl, Str.append_assoc]
              have e : ("  " ++ "pass" : Str) = "  pass" := by decide +kernel
              rw [e]
              rfl
            · walk_at "sz"
          | cons y0 yr =>
            rw [List.isEmpty_cons]
            walk_at "rd"
            refine ⟨x2, y0 :: yr, ah ++ "  ", rfl, (h2.kp k4).kp k5, hy0, by omega, hA2, by omega, fun H6 p6 k6 n6 h6 => ?_⟩
            · exact kQ _ _ ⟨p6, rfl, k5.trans k6, h6⟩
            · walk_at "sz"
        rintro v5 H5 ⟨p5, rfl, k5, h5⟩
        have hL5 := k5.get hL4 (by simp)
        have k6 := kpW (o := .lst (List.map V.str (Sm.all ah (b.take i) ++ [ah ++ Sm.line (.rep c y)]) ++ List.map V.str (Sm.part (ah ++ "  ") y))) hL5
        have hT6 := sqT_kp k6 (sqT_kp k5 hT4)
        have hpart : (Sm.part (ah ++ "  ") y).length ≤ 300 := by
          rw [Sm.lines, List.length_cons] at hfit
          unfold Sm.part
          omega
        have h300 : (Sm.all ah (b.take i)).length ≤ 300 := by omega
        walk_at "rd"
        · refine ⟨_, rfl, ((k3.trans k4).trans k5).own hq, ?_⟩
          rw [upd_same, hadd, Sm.lines, Sm.line]
          simp only [List.map_append, List.append_assoc, List.map_cons, List.map_nil, List.nil_append, List.cons_append]
          rfl
        all_goals walk_at "sz"
  · rintro σ H1 ⟨sv, rfl, k1, hL⟩
    walk_at "rd"
    rw [hlen, List.take_length] at hL
    exact k _ q k1 hq hL
abbrev slaw : Stmt := topS 25
abbrev Nlaw : List Str := ["_law_script", "_law_deck_here", "_law_turn", "_law_program_here", "_law_due"]
abbrev Plaw : List Str := ["_law_script"]
theorem sclaw : FnScope Nlaw Plaw (defScope slaw) :=
  ⟨rfl, rfl, rfl, by decide +kernel, rfl, by decide +kernel, by decide +kernel⟩
theorem ok_law (D : Df K mg "law" slaw Plaw) (B : Blt mg) {lv : Nat} (hlv : 30 ≤ lv)
    (G_law_deck : Has P w K mg base CX0 "_law_deck" ["_law_script"] 1 (spDeck K))
    (G_law_draw : Has P w K mg base CX0 "_law_draw" ["_law_deck_here", "_law_many"] 1 spDraw)
    (G_law_names : Has P w K mg base CX0 "_law_names" ["_law_deck_here", "_law_many"] 3 spNames)
    (G_law_program : Has P w K mg base CX0 "_law_program" ["_law_deck_here", "_law_names_here", "_law_most"] lv (spProg K))
    (G_law_lines : Has P w K mg base CX0 "_law_lines" ["_law_block_here", "_law_ahead"] lv (spLines K 4))
    (Gprogram_text : Has P w K mg base CX0 "program_text" ["program"] lv (spProgT K)) : Has P w K mg base CX0 "law" Plaw (lv + 1) (spLaw K) := by
  refine D.has sclaw (fun vs H Q E h => ?_) (fun f cdv A outer s H vs Q E hr h => ?_)
  · obtain ⟨a, ns, rfl, _⟩ := h
    rfl
  obtain ⟨a, ns, rfl, hS, hl, k⟩ := h
  refine ⟨_, (pss_cons (ps_set (i := 1) sclaw.nd rfl (Or.inl rfl) (pe_f G_law_deck (hr.mono (by omega)) (by rfl) pass0 (pa_cons (pv 0) pa_nil)))
      (pss_cons (ps_for PassesOwn.never rfl (pi_range1 (by rfl) B.range (pa_cons pe_int pa_nil)) (pg_name (i := 2) sclaw.nd rfl (Or.inl rfl))
        (pss_cons (ps_set (i := 3) sclaw.nd rfl (Or.inl rfl) (pe_f G_law_program (hr.mono (by omega)) (by rfl) pass0 (pa_cons (pv 1) (pa_cons (pe_f G_law_names (hr.mono (by omega)) (by rfl) pass0 (pa_cons (pv 1) (pa_cons (pe_op op_add pe_int (pe_f G_law_draw (hr.mono (by omega)) (by rfl) pass0 (pa_cons (pv 1) (pa_cons pe_int pa_nil)))) pa_nil))) (pa_cons pe_int pa_nil)))))
      (pss_cons (ps_set (i := 4) sclaw.nd rfl (Or.inl rfl) (pe_join pe_str (pe_op op_cat (pe_lst (pa_cons pe_str pa_nil)) (pe_f G_law_lines (hr.mono (by omega)) (by rfl) pass0 (pa_cons (pv 3) (pa_cons pe_str pa_nil))))))
      (pss_one (ps_if (pt_cmpR op_ne (pe_callB (c_repr hr) (by rfl) B.repr (by decide +kernel) (pa_cons (pe_lst (pa_cons (pe_f Gprogram_text (hr.mono (by omega)) (by rfl) pass0 (pa_cons (pv 3) pa_nil)) (pa_cons (pe_f Gprogram_text (hr.mono (by omega)) (by rfl) pass0 (pa_cons (pv 3) pa_nil)) pa_nil))) pa_nil)) (pe_callB (c_repr hr) (by rfl) B.repr (by decide +kernel) (pa_cons (pe_lst (pa_cons (pv 4) (pa_cons (pv 4) pa_nil))) pa_nil)) (nomark _)) (pss_one (ps_ret pe_bl))
        pss_nil)))))
      (pss_one (ps_ret (pe_cmpR op_eq (pe_f Gprogram_text (hr.mono (by omega)) (by rfl) pass0 (pa_cons (pe_tup pa_nil) pa_nil)) pe_str (nomark _)))))), ?_⟩
  walk_at "rd"
  refine ⟨a, ns, rfl, hS, hl, fun H1 d c hd hc D1 k1 => ?_⟩
  walk_at "rd"
  refine r_ForR (fun i σ H' => ∃ (n' : Int) (x2 x3 x4 : Option V), σ = [some (.ref a), some (.ref d), x2, x3, x4] ∧ Deck H' d c n' ∧ n' ≤ 5000 * i) (by omega) (by omega) ⟨0, none, none, none, rfl, D1, by omega⟩ ?_ ?_
  · rintro i σ H2 hi ⟨n2, x2, x3, x4, rfl, D2, hn2⟩
    have hi6 : i < 6 := hi
    walk_at "rd"
    refine spDraw.use D2 (by omega) (by omega) (by omega) fun H3 u u0 u1 D3 k3 => ?_
    walk_at "rd"
    refine ⟨d, c, _, 1 + u, rfl, D3, by omega, by omega, by omega, fun H4 nm xs n4 hnm D4 q1 q2 k4 N4 => ?_⟩
    have f4 := D3.fresh hnm
    walk_at "rd"
    refine ⟨d, c, nm, n4, 24, xs, rfl, D4, by omega, N4, f4.1, f4.2, by omega, by omega, fun H5 v b n5 D5 q3 q4 sz k5 hv hb => ?_⟩
    have hb4 : ∀ s ∈ b, Sm.ok 4 s := fun s hs => (hb s hs).mono (by omega)
    have hall := Sm.all_ok 4 "" 0 (Sok.lit (by decide +kernel)) b hb4
    walk_at "rd"
    refine ⟨by decide, fun p6 hp6 => ?_⟩
    have k6 : Kp [] H5 (upd H5 p6 (.lst [.str "program"])) := Kp.nil.new hp6
    have h6 : upd H5 p6 (.lst [.str "program"]) p6 = some (.lst [.str "program"]) := upd_same
    generalize upd H5 p6 (.lst [.str "program"]) = H6 at k6 h6 ⊢
    walk_at "rd"
    refine ⟨v, b, "", rfl, hv.kp k6, hb4, by omega, Sok.lit (by decide +kernel), by omega, fun H7 q k7 nq h7 => ?_⟩
    have h67 := k7.get h6 (by simp)
    walk_at "rd"
    refine r_cat h67 h7 (by have := hall.1; walk_at "sz") fun p8 hp8 => ?_
    have k8 : Kp [] H7 (upd H7 p8 (.lst ([V.str "program"] ++ List.map V.str (Sm.all "" b)))) := Kp.nil.new hp8
    have lok : ∀ z ∈ ("program" : Str) :: Sm.all "" b, Sok z 318 := by
      intro z hz
      rcases List.mem_cons.mp hz with rfl | hz
      · exact Sok.lit (by decide +kernel)
      · exact hall.2 z hz
    have ll : (("program" : Str) :: Sm.all "" b).length ≤ 300 := by
      have := hall.1
      rw [List.length_cons]
      omega
    have nl : Sok ("\n" : Str) 1 := Sok.lit (by decide +kernel)
    have tok : Sok (progT b) 100000 := (Sok.join nl lok).mono (by omega)
    refine ⟨"\n", p8, "program" :: Sm.all "" b, rfl, rfl, .inl (SqL.of upd_same), ?_, ?_⟩
    · have e1 : ("\n" : Str).length = 1 := by decide +kernel
      have q := sum_len lok
      rw [e1]
      omega
    generalize upd H7 p8 (.lst ([V.str "program"] ++ List.map V.str (Sm.all "" b))) = H8 at k8 ⊢
    have v8 := ((hv.kp k6).kp k7).kp k8
    have kk8 := (k6.trans k7).trans k8
    show gName 4 (V.str (progT b)) _ _ _
    have hsh : ∀ (p : Addr) (Hx : Hp), Hx p = some (.lst [.str (progT b), .str (progT b)]) → Dp K Hx (.ref p) (.list [.str (progT b), .str (progT b)]) := fun p Hx e =>
      .lst (SqL.of e) (.cons (.str _) (.cons (.str _) .nil))
    have hsw : Shw (.list [.str (progT b), .str (progT b)]) 1 2000011 := (Shw.list (k := 0) fun x hx => by
      simp only [List.mem_cons, List.not_mem_nil, or_false] at hx
      rcases hx with rfl | rfl <;> exact Shw.str tok).mono (by omega) (by simp)
    walk_at "rd"
    refine ⟨v, b, rfl, v8, hb4, by omega, fun H9 k9 => ?_⟩
    walk_at "rd"
    refine ⟨v, b, rfl, v8.kp k9, hb4, by omega, fun Ha ka => ?_⟩
    walk_at "rd"
    refine ⟨by simp [sizeLine_eq], fun pb hpb => ?_⟩
    walk_at "rd"
    refine r_repr (hsh _ _ upd_same) hsw (by omega) (by omega) ?_
    have kb : Kp [] H5 (upd Ha pb (.lst [.str (progT b), .str (progT b)])) := ((kk8.trans k9).trans ka).new hpb
    generalize upd Ha pb (.lst [.str (progT b), .str (progT b)]) = Hb at kb ⊢
    walk_at "rd"
    refine ⟨by simp [sizeLine_eq], fun pc hpc => ?_⟩
    walk_at "rd"
    refine r_repr (hsh _ _ upd_same) hsw (by omega) (by omega) ?_
    walk_at "rd"
    exact ⟨n5, _, _, _, rfl, D5.kp (kb.new hpc) (by simp) (by simp), by omega⟩
  · rintro σ H2 ⟨n2, x2, x3, x4, rfl, D2, hn2⟩
    walk_at "rd"
    refine ⟨by decide, fun p3 hp3 => ?_⟩
    walk_at "rd"
    refine ⟨_, [], rfl, by rw [Sm.ds]; exact Dt.mk0 upd_same, (fun _ h => (nomatch h)), by rw [Sm.sizes]; omega, fun H4 k4 => ?_⟩
    have e : progT [] = "program" := by
      unfold progT
      rw [Sm.all]
      decide +kernel
    rw [e]
    walk_at "rd"
    exact k _
theorem k01_texts (Dex : Df K mg "expression_text" sexpression_text Pexpression_text) (Dte : Df K mg "test_text" stest_text Ptest_text) (Dli : Df K mg "line_text" sline_text Pline_text)
    (Dpa : Df K mg "part_lines" spart_lines Ppart_lines) (Dbl : Df K mg "block_lines" sblock_lines Pblock_lines) (Dpr : Df K mg "program_text" sprogram_text Pprogram_text) (B : Blt mg)
    {dS : Addr} {t1 t2 : Tok} (g1 : mg "SIGNS" = some (.ref dS)) (hS : ∀ o, IsOp o → KDct K w dS o (.str (opSign o))) (g2 : mg "STEP" = some (.str "  " t1)) (g3 : mg "HEAD" = some (.str "program" t2)) :
    Has P w K mg base CX0 "program_text" Pprogram_text 18 (spProgT K) := by
  have Gex := ok_expression_text (P := P) (base := base) Dex B g1 hS 3 (by decide)
  have Gte := ok_test_text Dte B Gex 2 (by omega)
  have Gli := ok_line_text Dli B Gex Gte
  have Gbl : ∀ n, Has P w K mg base CX0 "block_lines" Pblock_lines (2 * n + 9) (spLines K n) := by
    intro n
    induction n with
    | zero => exact ok_block_lines1 Dbl B g2 Gli ((Dpa.void (sp := fun _ _ _ _ => False) fun _ _ _ _ h => h).mono (by omega)) ((Dbl.void (sp := fun _ _ _ _ => False) fun _ _ _ _ h => h).mono (by omega)) fun m h => by omega
    | succ n ih =>
      exact ok_block_lines1 Dbl B g2 Gli ((ok_part_lines Dpa B ih).mono (by omega)) (ih.mono (by omega)) fun m h => by
        obtain rfl : n = m := by omega
        exact ⟨rfl, rfl⟩
  exact ok_program_text Dpr B g3 (Gbl 4)
theorem k01_lines (Dex : Df K mg "_law_expr_text" s_law_expr_text P_law_expr_text) (Dte : Df K mg "_law_test_text" s_law_test_text P_law_test_text) (Dli : Df K mg "_law_line" s_law_line P_law_line)
    (Dls : Df K mg "_law_lines" s_law_lines P_law_lines) (B : Blt mg) : Has P w K mg base CX0 "_law_lines" P_law_lines 13 (spLines K 4) := by
  have Gex := ok_law_expr_text (P := P) (w := w) (base := base) Dex B 3 (by decide)
  have Gte := ok_law_test_text Dte B Gex 2 (by omega)
  have Gli := ok_law_line Dli B Gex Gte
  have Gls : ∀ n, Has P w K mg base CX0 "_law_lines" P_law_lines (n + 9) (spLines K n) := by
    intro n
    induction n with
    | zero => exact ok_law_lines1 Dls B Gli ((Dls.void (sp := fun _ _ _ _ => False) fun _ _ _ _ h => h).mono (by omega)) fun m h => by omega
    | succ n ih =>
      exact ok_law_lines1 Dls B Gli ih fun m h => by
        obtain rfl : n = m := by omega
        rfl
  exact Gls 4
theorem gen_program (Ddr : Df K mg "_law_draw" s_law_draw P_law_draw) (Don : Df K mg "_law_one" s_law_one P_law_one) (Dex : Df K mg "_law_expr" s_law_expr P_law_expr) (Dte : Df K mg "_law_test" s_law_test P_law_test)
    (Dbl : Df K mg "_law_block" s_law_block P_law_block) (Dif : Df K mg "_law_if" s_law_if P_law_if) (Dst : Df K mg "_law_statement" s_law_statement P_law_statement) (Dpr : Df K mg "_law_program" s_law_program P_law_program) (B : Blt mg) :
    Has P w K mg base CX0 "_law_program" P_law_program 18 (spProg K) := by
  have Gdr := ok_law_draw (P := P) (w := w) (base := base) Ddr B
  have Gon := ok_law_one Don B Gdr
  have Gex : Has P w K mg base CX0 "_law_expr" P_law_expr 5 (spExprA K) := Has.any (ι := { m : Nat // 1 ≤ m ∧ m ≤ 3 }) ⟨1, by omega⟩ fun i => (ok_law_expr Dex B Gdr Gon i.1 i.2.1 i.2.2).mono (by have := i.2.2; omega)
  have Gte := ok_law_test Dte B Gdr Gon Gex
  have all : ∀ e, Has P w K mg base CX0 "_law_block" P_law_block (3 * e + 8) (spBlock K e) := by
    intro e
    induction e with
    | zero =>
      exact ok_law_block (lv := 7) Dbl B (by omega) Gon (ok_law_statement (lv := 6) Dst B (by omega) Gdr Gon Gex ((Dif.void (sp := fun _ _ _ _ => False) fun _ _ _ _ h => h).mono (by omega))
        ((Dbl.void (sp := fun _ _ _ _ => False) fun _ _ _ _ h => h).mono (by omega)) fun m h => by omega)
    | succ e ih =>
      refine ok_law_block (lv := 3 * e + 10) Dbl B (by omega) Gon (ok_law_statement (lv := 3 * e + 9) Dst B (by omega) Gdr Gon Gex (ok_law_if (lv := 3 * e + 8) Dif B (by omega) Gdr Gte ih) (ih.mono (by omega)) fun m h => ?_)
      obtain rfl : e = m := by omega
      exact ⟨rfl, rfl⟩
  exact ok_law_program Dpr B (all 3)
end
end Aw
open PySem PySem.W PyProof.Rows in
set_option maxRecDepth 100000 in
set_option maxHeartbeats 0 in
theorem PySem.Challenge.cw_anewread_k01_texts_of_programs_holds : PySem.Challenge.rw_anewread_k01_texts_of_programs.Holds := by
  w_on; o_law; k_head; (case hw => w_witness2)
  k_fill
  refine Aw.walkG (k := 31) (l := PySem.Challenge.rw_anewread_k01_texts_of_programs) (x := "_law_script") rfl rfl rfl ⟨⟨rfl, by decide, by decide⟩, rfl⟩ (fun w h Y => PySem.W.kIn_of Y) ?F
  case F =>
    intro w mg h KX G base _ _
    have D_law_deck : Aw.Df (L2.KOf KX) mg "_law_deck" Aw.s_law_deck Aw.P_law_deck := by
      unfold L2.KOf
      refine' Aw.df_mk KX G ?a ?l ?c ?k ?b
      (case a => k_is)
      (case l => k_is)
      (case c => k_is)
      (case k => k_is)
      (case b => exact fun _ _ _ _ _ _ us hl => match us, hl with | [_], _ => rfl)
    have D_law_draw : Aw.Df (L2.KOf KX) mg "_law_draw" Aw.s_law_draw Aw.P_law_draw := by
      unfold L2.KOf
      refine' Aw.df_mk KX G ?a ?l ?c ?k ?b
      (case a => k_is)
      (case l => k_is)
      (case c => k_is)
      (case k => k_is)
      (case b => exact fun _ _ _ _ _ _ us hl => match us, hl with | [_, _], _ => rfl)
    have D_law_one : Aw.Df (L2.KOf KX) mg "_law_one" Aw.s_law_one Aw.P_law_one := by
      unfold L2.KOf
      refine' Aw.df_mk KX G ?a ?l ?c ?k ?b
      (case a => k_is)
      (case l => k_is)
      (case c => k_is)
      (case k => k_is)
      (case b => exact fun _ _ _ _ _ _ us hl => match us, hl with | [_, _], _ => rfl)
    have D_law_expr : Aw.Df (L2.KOf KX) mg "_law_expr" Aw.s_law_expr Aw.P_law_expr := by
      unfold L2.KOf
      refine' Aw.df_mk KX G ?a ?l ?c ?k ?b
      (case a => k_is)
      (case l => k_is)
      (case c => k_is)
      (case k => k_is)
      (case b => exact fun _ _ _ _ _ _ us hl => match us, hl with | [_, _, _], _ => rfl)
    have D_law_test : Aw.Df (L2.KOf KX) mg "_law_test" Aw.s_law_test Aw.P_law_test := by
      unfold L2.KOf
      refine' Aw.df_mk KX G ?a ?l ?c ?k ?b
      (case a => k_is)
      (case l => k_is)
      (case c => k_is)
      (case k => k_is)
      (case b => exact fun _ _ _ _ _ _ us hl => match us, hl with | [_, _, _], _ => rfl)
    have D_law_block : Aw.Df (L2.KOf KX) mg "_law_block" Aw.s_law_block Aw.P_law_block := by
      unfold L2.KOf
      refine' Aw.df_mk KX G ?a ?l ?c ?k ?b
      (case a => k_is)
      (case l => k_is)
      (case c => k_is)
      (case k => k_is)
      (case b => exact fun _ _ _ _ _ _ us hl => match us, hl with | [_, _, _, _, _], _ => rfl)
    have D_law_if : Aw.Df (L2.KOf KX) mg "_law_if" Aw.s_law_if Aw.P_law_if := by
      unfold L2.KOf
      refine' Aw.df_mk KX G ?a ?l ?c ?k ?b
      (case a => k_is)
      (case l => k_is)
      (case c => k_is)
      (case k => k_is)
      (case b => exact fun _ _ _ _ _ _ us hl => match us, hl with | [_, _, _, _, _, _], _ => rfl)
    have D_law_statement : Aw.Df (L2.KOf KX) mg "_law_statement" Aw.s_law_statement Aw.P_law_statement := by
      unfold L2.KOf
      refine' Aw.df_mk KX G ?a ?l ?c ?k ?b
      (case a => k_is)
      (case l => k_is)
      (case c => k_is)
      (case k => k_is)
      (case b => exact fun _ _ _ _ _ _ us hl => match us, hl with | [_, _, _, _, _], _ => rfl)
    have D_law_program : Aw.Df (L2.KOf KX) mg "_law_program" Aw.s_law_program Aw.P_law_program := by
      unfold L2.KOf
      refine' Aw.df_mk KX G ?a ?l ?c ?k ?b
      (case a => k_is)
      (case l => k_is)
      (case c => k_is)
      (case k => k_is)
      (case b => exact fun _ _ _ _ _ _ us hl => match us, hl with | [_, _, _], _ => rfl)
    have D_law_names : Aw.Df (L2.KOf KX) mg "_law_names" Aw.s_law_names Aw.P_law_names := by
      unfold L2.KOf
      refine' Aw.df_mk KX G ?a ?l ?c ?k ?b
      (case a => k_is)
      (case l => k_is)
      (case c => k_is)
      (case k => k_is)
      (case b => exact fun _ _ _ _ _ _ us hl => match us, hl with | [_, _], _ => rfl)
    have Dexpression_text : Aw.Df (L2.KOf KX) mg "expression_text" Aw.sexpression_text Aw.Pexpression_text := by
      unfold L2.KOf
      refine' Aw.df_mk KX G ?a ?l ?c ?k ?b
      (case a => k_is)
      (case l => k_is)
      (case c => k_is)
      (case k => k_is)
      (case b => exact fun _ _ _ _ _ _ us hl => match us, hl with | [_], _ => rfl)
    have Dtest_text : Aw.Df (L2.KOf KX) mg "test_text" Aw.stest_text Aw.Ptest_text := by
      unfold L2.KOf
      refine' Aw.df_mk KX G ?a ?l ?c ?k ?b
      (case a => k_is)
      (case l => k_is)
      (case c => k_is)
      (case k => k_is)
      (case b => exact fun _ _ _ _ _ _ us hl => match us, hl with | [_], _ => rfl)
    have Dline_text : Aw.Df (L2.KOf KX) mg "line_text" Aw.sline_text Aw.Pline_text := by
      unfold L2.KOf
      refine' Aw.df_mk KX G ?a ?l ?c ?k ?b
      (case a => k_is)
      (case l => k_is)
      (case c => k_is)
      (case k => k_is)
      (case b => exact fun _ _ _ _ _ _ us hl => match us, hl with | [_], _ => rfl)
    have Dpart_lines : Aw.Df (L2.KOf KX) mg "part_lines" Aw.spart_lines Aw.Ppart_lines := by
      unfold L2.KOf
      refine' Aw.df_mk KX G ?a ?l ?c ?k ?b
      (case a => k_is)
      (case l => k_is)
      (case c => k_is)
      (case k => k_is)
      (case b => exact fun _ _ _ _ _ _ us hl => match us, hl with | [_, _], _ => rfl)
    have Dblock_lines : Aw.Df (L2.KOf KX) mg "block_lines" Aw.sblock_lines Aw.Pblock_lines := by
      unfold L2.KOf
      refine' Aw.df_mk KX G ?a ?l ?c ?k ?b
      (case a => k_is)
      (case l => k_is)
      (case c => k_is)
      (case k => k_is)
      (case b => exact fun _ _ _ _ _ _ us hl => match us, hl with | [_, _], _ => rfl)
    have Dprogram_text : Aw.Df (L2.KOf KX) mg "program_text" Aw.sprogram_text Aw.Pprogram_text := by
      unfold L2.KOf
      refine' Aw.df_mk KX G ?a ?l ?c ?k ?b
      (case a => k_is)
      (case l => k_is)
      (case c => k_is)
      (case k => k_is)
      (case b => exact fun _ _ _ _ _ _ us hl => match us, hl with | [_], _ => rfl)
    have D_law_expr_text : Aw.Df (L2.KOf KX) mg "_law_expr_text" Aw.s_law_expr_text Aw.P_law_expr_text := by
      unfold L2.KOf
      refine' Aw.df_mk KX G ?a ?l ?c ?k ?b
      (case a => k_is)
      (case l => k_is)
      (case c => k_is)
      (case k => k_is)
      (case b => exact fun _ _ _ _ _ _ us hl => match us, hl with | [_], _ => rfl)
    have D_law_test_text : Aw.Df (L2.KOf KX) mg "_law_test_text" Aw.s_law_test_text Aw.P_law_test_text := by
      unfold L2.KOf
      refine' Aw.df_mk KX G ?a ?l ?c ?k ?b
      (case a => k_is)
      (case l => k_is)
      (case c => k_is)
      (case k => k_is)
      (case b => exact fun _ _ _ _ _ _ us hl => match us, hl with | [_], _ => rfl)
    have D_law_line : Aw.Df (L2.KOf KX) mg "_law_line" Aw.s_law_line Aw.P_law_line := by
      unfold L2.KOf
      refine' Aw.df_mk KX G ?a ?l ?c ?k ?b
      (case a => k_is)
      (case l => k_is)
      (case c => k_is)
      (case k => k_is)
      (case b => exact fun _ _ _ _ _ _ us hl => match us, hl with | [_], _ => rfl)
    have D_law_lines : Aw.Df (L2.KOf KX) mg "_law_lines" Aw.s_law_lines Aw.P_law_lines := by
      unfold L2.KOf
      refine' Aw.df_mk KX G ?a ?l ?c ?k ?b
      (case a => k_is)
      (case l => k_is)
      (case c => k_is)
      (case k => k_is)
      (case b => exact fun _ _ _ _ _ _ us hl => match us, hl with | [_, _], _ => rfl)
    have Dlaw : Aw.Df (L2.KOf KX) mg "law" Aw.slaw Aw.Plaw := by
      unfold L2.KOf
      refine' Aw.df_mk KX G ?a ?l ?c ?k ?b
      (case a => k_is)
      (case l => k_is)
      (case c => k_is)
      (case k => k_is)
      (case b => exact fun _ _ _ _ _ _ us hl => match us, hl with | [_], _ => rfl)
    have B : Aw.Blt mg := by
      refine' ⟨PySem.W.mg_none_of KX G ?z0, PySem.W.mg_none_of KX G ?z1, PySem.W.mg_none_of KX G ?z2, PySem.W.mg_none_of KX G ?z3, PySem.W.mg_none_of KX G ?z4, PySem.W.mg_none_of KX G ?z5, PySem.W.mg_none_of KX G ?z6, PySem.W.mg_none_of KX G ?z7, PySem.W.mg_none_of KX G ?z8, PySem.W.mg_none_of KX G ?z9, PySem.W.mg_none_of KX G ?z10, PySem.W.mg_none_of KX G ?z11, PySem.W.mg_none_of KX G ?z12, PySem.W.mg_none_of KX G ?z13, PySem.W.mg_none_of KX G ?z14, PySem.W.mg_none_of KX G ?z15, PySem.W.mg_none_of KX G ?z16, PySem.W.mg_none_of KX G ?z17, PySem.W.mg_none_of KX G ?z18⟩
      all_goals k_is
    obtain ⟨dS, hS1, hS2⟩ : ∃ dS, mg "SIGNS" = some (.ref dS) ∧ ∀ o, Aw.IsOp o → L2.KDct (L2.KOf KX) w dS o (.str (Aw.opSign o)) := by
      unfold L2.KOf
      refine' Aw.signs_mk KX G ?s1 ?s2 ?s4 ?s5 ?s6 ?s3
      (case s1 => k_is)
      (case s2 => k_is)
      (case s4 => k_is)
      (case s5 => k_is)
      (case s6 => k_is)
      (case s3 => exact ⟨⟨_, _, rfl, rfl⟩, ⟨_, _, rfl, rfl⟩, ⟨_, _, rfl, rfl⟩, trivial⟩)
    obtain ⟨t1, hT⟩ : ∃ t1, mg "STEP" = some (.str "  " t1) := by
      refine' Aw.gstr_mk KX G ?st
      (case st => k_is)
    obtain ⟨t2, hH⟩ : ∃ t2, mg "HEAD" = some (.str "program" t2) := by
      refine' Aw.gstr_mk KX G ?hd
      (case hd => k_is)
    have G1 := Aw.ok_law_deck (P := PySem.Challenge.pw_anewread_k01_texts_of_programs) (w := w) (base := base) D_law_deck B
    have G2 := Aw.ok_law_draw (P := PySem.Challenge.pw_anewread_k01_texts_of_programs) (w := w) (base := base) D_law_draw B
    have G3 := Aw.ok_law_names D_law_names B G2 (Aw.ok_law_one D_law_one B G2)
    have G4 := Aw.gen_program (P := PySem.Challenge.pw_anewread_k01_texts_of_programs) (w := w) (base := base) D_law_draw D_law_one D_law_expr D_law_test D_law_block D_law_if D_law_statement D_law_program B
    have G5 := Aw.k01_lines (P := PySem.Challenge.pw_anewread_k01_texts_of_programs) (w := w) (base := base) D_law_expr_text D_law_test_text D_law_line D_law_lines B
    have G6 := Aw.k01_texts (P := PySem.Challenge.pw_anewread_k01_texts_of_programs) (w := w) (base := base) Dexpression_text Dtest_text Dline_text Dpart_lines Dblock_lines Dprogram_text B hS1 hS2 hT hH
    exact Aw.ok_law (lv := 30) Dlaw B (by omega) G1 G2 G3 (G4.mono (by omega)) (G5.mono (by omega)) (G6.mono (by omega))
