import PyProof.Rows.All
import Wide.All
import OpenK.AllK
import Wide.FinOn
import HandS.ForMost
import HandS.IsInst
import HandS.TupAny
import HandS.RaiseMore
import HandS.Conv
import HandS.WideBits
import HandS.More
import HandS.Style
import PyProof.NeKinds
import PyProof.StrLawsIn
import HandS.TupMul
import HandS.ListItems
import HandS.Zip
import KE.KDictList
import HandS.ReplaceLit
import HandS.ReplaceList
import KE.KDictZip
import KE.KTurns
import PySem.Challenge.RW_anewread_k37_whole_programs_written_othe
set_option Elab.async false
set_option linter.all false
set_option maxRecDepth 100000
set_option maxHeartbeats 4000000
set_option autoImplicit false
namespace Aw
open PySem PySem.Spec PyProof.Rows L2
structure RoomG (k : Nat) (A : Around) : Prop where
  r : Room k A
  g : A.guards = some []
theorem RoomG.mono {j k : Nat} {A : Around} (h : RoomG k A) (q : j ≤ k) : RoomG j A := ⟨h.r.mono q, h.g⟩
theorem RoomG.hu {k : Nat} {A : Around} (h : RoomG k A) : A.units + 1 < cLine := hu_of h.r
theorem RoomG.h64 {k : Nat} {A : Around} (h : RoomG k A) : A.units + 64 < cLine := h.r.units
/-- a def keeps its promise wherever nothing is being shown -/
structure FnG (P : Program) (w : World) (K : PySem.W.Frag) (mg : Str → Option Value) (base : Heap) (CX : CXT)
    (k : Nat) (f : Addr) (fd : FuncData) (ps : List Str) (sp : Sp) : Prop where
  len : ∀ vs H Q E, sp vs H Q E → vs.length = ps.length
  run : ∀ (A : Around) (outer : List Env) (s : Shared) (H : Hp) (args : Args) (us : List Value) (vs : List V)
    (Q : VK) (E : XK), RoomG k A → Env0 P w K mg base A outer s H → BindsTo s fd args (ps.zip us) → Vals vs us →
    sp vs H Q E → codeAny (model P w) A (.call (.ref f) args) (CR CX outer P w H s Q E) s
section
variable {P : Program} {w : World} {K : PySem.W.Frag} {mg : Str → Option Value} {base : Heap} {CX : CXT}
theorem FnG.mono {j k : Nat} {f : Addr} {fd : FuncData} {ps : List Str} {sp : Sp}
    (F : FnG P w K mg base CX j f fd ps sp) (h : j ≤ k) : FnG P w K mg base CX k f fd ps sp :=
  ⟨F.len, fun A o s H a us vs Q E hr => F.run A o s H a us vs Q E (hr.mono h)⟩
theorem fnG_of {k : Nat} {f : Addr} {nm qual : Str} {params : Arguments} {body : List Stmt} {scope : Scope}
    {dV kV doc pm cdv ct oc : Value} {an od : Option Addr} {osl : Array (Option Value)} {N ps : List Str} {sp : Sp}
    (lk : K.lookup f = some ⟨oc, od, .func (PySem.W.fnOf nm qual params body scope dV kV doc pm an cdv ct), osl⟩)
    (hcd : PySem.W.codeIn K cdv qual = true) (S : FnScope N ps scope)
    (len : ∀ vs H Q E, sp vs H Q E → vs.length = ps.length)
    (hb : ∀ (A : Around) (outer : List Env) (s : Shared) (H : Hp) (vs : List V) (Q : VK) (E : XK),
      RoomG k (A.deeper (envOfC qual scope s.heap.objs.size f cdv)) → sp vs H Q E →
      ∃ t, PSs (cxOf CX P w K mg base N qual scope f cdv A outer s H E) body t ∧
        t { nx := fun _ H' => Q .non H', rt := Q } (start N vs) H) :
    FnG P w K mg base CX (k + 1) f (PySem.W.fnOf nm qual params body scope dV kV doc pm an cdv ct) ps sp := by
  refine ⟨len, fun A outer s H args us vs Q E hr e0 hbd r hsp => ?_⟩
  have hl := len _ _ _ _ hsp
  have KX : K.In s.heap := e0.mod.kin.keeps fun b o e => (e0.bs b o e).1
  have lim : s.heap.NoLimit := e0.mod.nolimit.keeps fun b o e => (e0.bs b o e).1
  refine codeAny_call_function hr.r.depth (KX _ _ lk) rfl S.co S.gen rfl (PySem.W.codeRec_of KX hcd)
    (hbd _ _ _ _ ?_)
  refine wpAny_newFunctionEnv_cells S.kind (fun ⟨n, v⟩ hy => ?_) fun env he s1 x => ?_
  · rcases S.par n (List.of_mem_zip hy).1 with q | q
    · exact .inl q
    · exact .inr ⟨q, PySem.W.cellsFrom_some _ _ _ (.inl q)⟩
  subst he
  refine ⟨lim.keeps x.toInCall.keep, codeAny_func ?_⟩
  obtain ⟨t, ht, hq⟩ := hb A outer s H vs Q E ⟨hr.r.deeper _, hr.g⟩ hsp
  have I := inv_start (CX := CX) (E := E) (f := f) (cd := cdv) S hr.r.hd e0 hl r x
  refine wpAny_mono (ht.run [] s1 (start N vs) H _ I hq) (fun fl s' hs => ?_) fun e s' hs => hs
  cases fl with
  | ret u =>
    obtain ⟨v, σ', H', J, rv, q⟩ := hs
    exact ⟨v, H', J.os, J.bare, J.base, J.hok, rv, q⟩
  | next =>
    obtain ⟨σ', H', J, q⟩ := hs
    exact ⟨V.non, H', J.os, J.bare, J.base, J.hok, rfl, q⟩
  | brk => exact hs.elim fun _ h => h.elim fun _ h => h.2.elim
  | cont => exact hs.elim fun _ h => h.elim fun _ h => h.2.elim
/-- a def of the top, by its name -/
def Df (K : PySem.W.Frag) (mg : Str → Option Value) (x : Str) (st : Stmt) (ps : List Str) : Prop :=
  ∃ (f : Addr) (fd : FuncData), Fun K x x st f fd ∧ mg x = some (.ref f) ∧ Binds K fd ps []
/-- the def of this name keeps a promise -/
def Has (P : Program) (w : World) (K : PySem.W.Frag) (mg : Str → Option Value) (base : Heap) (CX : CXT) (x : Str)
    (ps : List Str) (k : Nat) (sp : Sp) : Prop :=
  ∃ (f : Addr) (fd : FuncData), (PySem.W.keepIn K (.ref f) = true ∧ ∃ oc od osl, K.lookup f = some ⟨oc, od, .func fd, osl⟩) ∧
    mg x = some (.ref f) ∧ Binds K fd ps [] ∧ FnG P w K mg base CX k f fd ps sp
theorem Has.any {ι : Type} {x : Str} {ps : List Str} {k : Nat} {sp : ι → Sp} (i₀ : ι) (h : ∀ i, Has P w K mg base CX x ps k (sp i)) :
    Has P w K mg base CX x ps k (fun vs H Q E => ∃ i, sp i vs H Q E) := by
  obtain ⟨f, fd, ⟨a, oc, od, osl, l⟩, b, c, _⟩ := h i₀
  have same : ∀ i, FnG P w K mg base CX k f fd ps (sp i) := by
    intro i
    obtain ⟨f', fd', ⟨_, oc', od', osl', l'⟩, b', _, d'⟩ := h i
    cases b.symm.trans b'
    cases l.symm.trans l'
    exact d'
  exact ⟨f, fd, ⟨a, oc, od, osl, l⟩, b, c, fun vs H Q E ⟨i, z⟩ => (same i).len _ _ _ _ z, fun A o s H ar us vs Q E hr he hb hv ⟨i, hs⟩ =>
    (same i).run A o s H ar us vs Q E hr he hb hv hs⟩
theorem Has.mono {x : Str} {ps : List Str} {j k : Nat} {sp : Sp} (h : Has P w K mg base CX x ps j sp) (q : j ≤ k) :
    Has P w K mg base CX x ps k sp := by
  obtain ⟨f, fd, a, b, c, d⟩ := h
  exact ⟨f, fd, a, b, c, d.mono q⟩
theorem Has.imp {x : Str} {ps : List Str} {k : Nat} {sp sp' : Sp} (h : Has P w K mg base CX x ps k sp)
    (q : ∀ vs H Q E, sp' vs H Q E → sp vs H Q E) : Has P w K mg base CX x ps k sp' := by
  obtain ⟨f, fd, a, b, c, d⟩ := h
  exact ⟨f, fd, a, b, c, fun vs H Q E z => d.len _ _ _ _ (q _ _ _ _ z), fun A o s H ar us vs Q E hr he hb hv hs =>
    d.run A o s H ar us vs Q E hr he hb hv (q _ _ _ _ hs)⟩
theorem Df.void {x : Str} {st : Stmt} {ps : List Str} {sp : Sp} (d : Df K mg x st ps) (h : ∀ vs H Q E, ¬ sp vs H Q E) :
    Has P w K mg base CX x ps 0 sp := by
  obtain ⟨f, fd, F, m, b⟩ := d
  have lk : ∃ oc od osl, K.lookup f = some ⟨oc, od, .func fd, osl⟩ := by
    obtain ⟨oc, od, kV, doc, pm, an, cdv, ct, osl, rfl, lk, hcd⟩ := F.ex
    exact ⟨oc, od, osl, lk⟩
  exact ⟨f, fd, ⟨F.kp, lk⟩, m, b, fun vs H Q E z => absurd z (h _ _ _ _), fun A o s H ar us vs Q E hr he hb hv hs =>
    absurd hs (h _ _ _ _)⟩
theorem Df.has {x : Str} {st : Stmt} {ps N : List Str} {k : Nat} {sp : Sp} (d : Df K mg x st ps)
    (S : FnScope N ps (defScope st)) (len : ∀ vs H Q E, sp vs H Q E → vs.length = ps.length)
    (hb : ∀ (f : Addr) (cdv : Value) (A : Around) (outer : List Env) (s : Shared) (H : Hp) (vs : List V) (Q : VK) (E : XK),
      RoomG k (A.deeper (envOfC x (defScope st) s.heap.objs.size f cdv)) → sp vs H Q E →
      ∃ t, PSs (cxOf CX0 P w K mg base N x (defScope st) f cdv A outer s H E).nox (defBody st) t ∧
        t { nx := fun _ H' => Q .non H', rt := Q } (start N vs) H) : Has P w K mg base CX0 x ps (k + 1) sp := by
  obtain ⟨f, fd, F, m, b⟩ := d
  obtain ⟨oc, od, kV, doc, pm, an, cdv, ct, osl, rfl, lk, hcd⟩ := F.ex
  refine ⟨f, _, ⟨F.kp, oc, od, osl, lk⟩, m, b, fnG_of lk hcd S len fun A outer s H vs Q E hr hsp => ?_⟩
  obtain ⟨t, h, q⟩ := hb f cdv A outer s H vs Q E hr hsp
  exact ⟨t, h.nox, q⟩
end
section
variable {X : Cx} {CX : CXT} {k : Nat} {ps : List Str} {sp : Sp} {E : XK} {x : Str} {p pos : Pos} {e : Expr}
  {es : List Expr} {t : TA}
theorem runG {f : Addr} {fd : FuncData} {pins : List (Addr × Obj)} {σ : L2.St} {H : Hp} {s : Shared} {Q : VK}
    {us : List Value} {vs : List V} (F : FnG X.prog X.w X.K X.mg X.base CX k f fd ps sp) (hr : RoomG k X.A)
    (hb : Binds X.K fd ps []) (hx : Passes CX X E) (I : Inv X pins σ H s) (r : Vals vs us) (h : sp vs H Q E) :
    wpAny (model X.prog X.w) X.A (call (.ref f) us) (EP X pins σ Q) X.xe s := by
  have hl : (us ++ []).length = ps.length := by
    rw [List.append_nil, ← r.length]
    exact F.len _ _ _ _ h
  have bb := hb s us I.kIn hl
  rw [List.append_nil] at bb
  refine wpAny_call (codeAny_mono (F.run X.A X.stack s H ⟨us, []⟩ us vs Q E hr I.env0 bb r h) fun r s' hq => ?_)
  match r, hq with
  | .error e, hq => exact hx pins σ H s e s' I hq
  | .ok (.ret u), hq => exact I.after hq
/-- f(e, ..) of a def by its name -/
theorem pe_f (F : Has X.prog X.w X.K X.mg X.base CX x ps k sp) (hr : RoomG k X.A) (hg : Gl X x) (hx : Passes CX X E)
    (ha : PA X (e :: es) t) (hdb : (x == ("__debug__" : Str)) = false := by decide)
    (he : starEach (e :: es) X.env = (false, eval e X.env) :: starEach es X.env := by rfl)
    (hpl : (backTo pos (starEach es X.env)).any (·.1) = false := by rfl) :
    PE X (.Call (.Name x p) (e :: es) [] pos) (tCall sp [] E t) := by
  obtain ⟨f, fd, ⟨hk, _⟩, hm, hb, F⟩ := F
  refine ⟨fun pins s σ H Q I h => wpAny_Call_Name_kw (ld_glob I hg hm ?_ hdb)⟩
  refine PySem.W.callWith_K (h₀ := X.base) I.ok.mod.kin hk (thn (ha.run pos pins s σ H _ I h) fun us s1 q => ?_) he hpl
  obtain ⟨vs, H1, I1, r, q⟩ := q
  rw [List.append_nil] at q
  exact ⟨I1.kIn, runG F hr hb hx I1 r q⟩
end
end Aw
namespace Aw
open PySem PySem.Spec PyProof.Rows L2
def spLaw (K : PySem.W.Frag) : Sp := fun vs H Q _ => ∃ (a : Addr) (ns : List Int),
  vs = [.ref a] ∧ SqL K H a (ns.map V.int) ∧ ns.length ≤ 63 ∧ ∀ H', Q (.bl true) H'
theorem lawG_core {P : Program} {w : World} {K : PySem.W.Frag} {mg mb : Str → Option Value} {k : Nat} {fa a : Addr}
    {x : Str} {s : Shared} {vs : List Value} {ns : List Int} (KX : K.In s.heap) (hns : s.heap.Ns mainGlobals mg)
    (hb : s.heap.Ns builtinsNs mb) (hbb : ∀ x : Str, x ≠ "__name__" → mb x = bootBuiltins x)
    (hlim : s.heap.NoLimit) (hsm : ∃ mm, s.heap.Ns sysModules mm) (hg : s.gens = #[])
    (ha : s.heap.get? a = some { cls := .type "list", data := .seq vs.toArray }) (hl : ns.length ≤ 63)
    (hr : RoomG k callerA) (hfa : mg "law" = some (.ref fa))
    (F : ∀ base : Heap, K.In base → base.Ns mainGlobals mg → (∃ mm, base.Ns sysModules mm) → Has P w K mg base CX0 "law" [x] k (spLaw K))
    (H : Hp) (hO : Only H) (hS : SqL K H a (ns.map V.int)) (hok : HOk P w H s.heap) (hA : ∀ b, H b ≠ none → b = a)
    (hK : H a ≠ none → K.lookup a = none) :
    codeAny (model P w) callerA (.call (.ref fa) ⟨[.ref a], []⟩)
      (fun r s' => r = .ok (.ret (.bool true)) ∧ OldK s.heap s'.heap ∧ s'.os = s.os ∧ AllBare s'.gens) s := by
  have isA : ∀ {b : Addr} {u : HO}, H b = some u → b = a := fun {b u} q => hA b (by rw [q]; simp)
  have keepD : ∀ {b : Addr} {m : Str → Option Value}, s.heap.Ns b m → (hidT s.heap H).Ns b m := by
    rintro b m ⟨o, es, ep, e, d, r⟩
    refine ⟨o, es, ep, hidT_get e ?_, d, r⟩
    cases q : H b with
    | none => rfl
    | some u =>
      cases isA q
      rw [ha] at e
      cases e
      exact nomatch (show Data.seq vs.toArray _ = Data.dict es ep from d)
  have hKb : K.In (hidT s.heap H) := by
    intro b o e
    refine hidT_get (KX b o e) ?_
    cases q : H b with
    | none => rfl
    | some u =>
      cases isA q
      rw [hK (by rw [q]; simp)] at e
      cases e
  have hM : Mod K mg (hidT s.heap H) := by
    obtain ⟨mc, h1, h2⟩ := hlim
    exact ⟨hKb, keepD hns, ⟨mb, keepD hb, hbb⟩, ⟨mc, keepD h1, h2⟩⟩
  have e0 : Env0 P w K mg (hidT s.heap H) callerA [] s H := by
    refine ⟨rfl, hM, fun b o e => of_hidT e, Nat.le_of_eq (hidT_size _ _), trivial, fun b hb => ?_, hok, .of_eq hg⟩
    exact absurd (show b ∈ ([] : List Addr) from hb) (by simp)
  obtain ⟨f, fd, kp, m, bd, FN⟩ := F _ hKb (keepD hns) (hsm.elim fun mm h => ⟨mm, keepD h⟩)
  cases hfa.symm.trans m
  have bb := bd s [.ref a] KX rfl
  have hsp : spLaw K [.ref a] H (fun v _ => v = .bl true) (fun _ _ _ => False) := ⟨a, ns, rfl, hS, hl, fun _ => rfl⟩
  refine codeAny_mono (FN.run callerA [] s H ⟨[.ref a], []⟩ [.ref a] [.ref a] _ _ hr e0 bb (.cons rfl .nil) hsp) ?_
  intro r s' h
  match r, h with
  | .ok (.ret u), h =>
    obtain ⟨v, H', os, bare, un, hok', r', q⟩ := h
    cases (show v = .bl true from q)
    cases (show u = Value.bool true from r')
    refine ⟨rfl, OldK.of_keep fun b o e => ?_, os, bare⟩
    cases q : H b with
    | none => exact un.keep b o e q (fun z => absurd (show b ∈ ([] : List Addr) from z) (by simp)) (by simp)
    | some u =>
      rcases hO b with z | ⟨ob, xs, z⟩
      · rw [q] at z
        cases z
      · have e1 := (hok b _ z).1
        rw [e] at e1
        cases e1
        exact (hok' b _ (un.frzs b _ _ z)).1
theorem lawG {P : Program} {w : World} {K : PySem.W.Frag} {mg mb : Str → Option Value} {k : Nat} {fa a : Addr}
    {x : Str} {s : Shared} {vs : List Value} {ns : List Int} (KX : K.In s.heap) (hns : s.heap.Ns mainGlobals mg)
    (hb : s.heap.Ns builtinsNs mb) (hbb : ∀ x : Str, x ≠ "__name__" → mb x = bootBuiltins x)
    (hlim : s.heap.NoLimit) (hsm : ∃ mm, s.heap.Ns sysModules mm) (hg : s.gens = #[])
    (ha : s.heap.get? a = some { cls := .type "list", data := .seq vs.toArray }) (hi : IntsAre vs ns)
    (hl : ns.length ≤ 63) (hr : RoomG k callerA) (hfa : mg "law" = some (.ref fa))
    (F : ∀ base : Heap, K.In base → base.Ns mainGlobals mg → (∃ mm, base.Ns sysModules mm) → Has P w K mg base CX0 "law" [x] k (spLaw K)) :
    codeAny (model P w) callerA (.call (.ref fa) ⟨[.ref a], []⟩)
      (fun r s' => r = .ok (.ret (.bool true)) ∧ OldK s.heap s'.heap ∧ s'.os = s.os ∧ AllBare s'.gens) s := by
  have rv := vals_ints hi
  have h63 : (63 : Nat) ≤ sizeLine := by decide
  have lenV := hi.length
  have core := lawG_core KX hns hb hbb hlim hsm hg ha hl hr hfa F
  cases hk : K.lookup a with
  | some o =>
    have e := KX a o hk
    rw [ha] at e
    cases e
    refine core (fun _ => none) (fun _ => .inl rfl) (.inr ⟨_, vs.toArray, _, hk, rfl, rfl, rfl, ?_, by simpa using rv⟩)
      (fun b u z => nomatch (show (none : Option HO) = some u from z)) (fun b z => absurd rfl z) fun z => absurd rfl z
    rw [List.size_toArray, lenV]
    exact Nat.le_trans hl h63
  | none =>
    refine core (upd (fun _ => none) a (.frz { cls := .type "list", data := .seq vs.toArray } (.lst (ns.map V.int))))
      (fun b => ?_) (.inl (.inr ⟨_, upd_same⟩)) (fun b u z => ?_) (fun b z => ?_) fun _ => hk
    · by_cases hb : b = a
      · subst hb
        exact .inr ⟨_, _, upd_same⟩
      · exact .inl (upd_ne hb)
    · by_cases hb : b = a
      · subst hb
        rw [upd_same] at z
        cases z
        exact ⟨ha, by rw [List.length_map]; exact Nat.le_trans hl h63, vs, _, rv, ha⟩
      · rw [upd_ne hb] at z
        cases z
    · exact Classical.byContradiction fun hb => z (upd_ne hb)
theorem walkG {l : PySem.W.OpenLaw} {k : Nat} {q : Program} {loose : List Str}
    {XP : (Str → Option Value) → Heap → Prop} {YP : World → Heap → Prop} {d : DefRec} {K : Params → PySem.W.Frag}
    {x : Str} (hn : l.most = some 63) (hdf : d.params.defaults = []) (hnm : d.name = "law") (hr : RoomG k callerA)
    (hY : ∀ (w : World) (h : Heap), YP w h → (K w.params).In h)
    (F : ∀ (w : World) (mg : Str → Option Value) (h : Heap), (K w.params).In h → h.Ns mainGlobals mg →
      ∀ base : Heap, (K w.params).In base → base.Ns mainGlobals mg → (∃ mm, base.Ns sysModules mm) →
        Has l.prog w (K w.params) mg base CX0 "law" [x] k (spLaw (K w.params)))
    (hq : importsNone q = true) :
    PySem.W.WalkO q loose XP YP l.row.toRowW d [] (fun f vs => PySem.call f vs) := by
  refine Att.attach_call hn hdf fun w s₀ s₁ mg mb fa o pm cd doc a vs ns G Y ho hd hcd hmg hobj hints hlen hg => ?_
  have KX := hY w _ Y
  rw [hnm] at hmg
  exact lawG KX G.T.g G.T.b G.T.builtins G.T.nolimit ((G.T.seer hq).mods.imp fun _ h => h.1) hg hobj hints hlen hr hmg (F w mg _ KX G.T.g)
theorem df_mk {K : PySem.W.Frag} {h : Heap} {mg : Str → Option Value} {x : Str} {st : Stmt} {ps : List Str} {f : Addr}
    {oc kV doc pm cdv ct : Value} {od an : Option Addr} {osl : Array (Option Value)} (X : K.In h) (G : h.Ns mainGlobals mg)
    (a : PySem.W.nsIn K mainGlobals x = some (some (.ref f)))
    (l : K.lookup f = some ⟨oc, od, .func (PySem.W.fnOf x x (defArgs st) (defBody st) (defScope st) .none kV doc pm an cdv ct), osl⟩)
    (c : PySem.W.codeIn K cdv x = true) (k : PySem.W.keepIn K (.ref f) = true)
    (b : ∀ (kV doc pm : Value) (an : Option Addr) (cdv ct : Value) (us : List Value), us.length = ps.length →
      bindArgs (PySem.W.fnOf x x (defArgs st) (defBody st) (defScope st) .none kV doc pm an cdv ct) ⟨us, []⟩ = pure (ps.zip us)) :
    Df K mg x st ps := by
  have F := fun_mk (st := st) l c k
  exact ⟨f, _, F, PySem.W.mg_of X G a, F.binds b⟩
theorem gstr_mk {K : PySem.W.Frag} {h : Heap} {mg : Str → Option Value} {x z : Str} {t : Tok} (X : K.In h) (G : h.Ns mainGlobals mg)
    (a : PySem.W.nsIn K mainGlobals x = some (some (.str z t))) : ∃ t, mg x = some (.str z t) := ⟨t, PySem.W.mg_of X G a⟩
theorem gint_mk {K : PySem.W.Frag} {h : Heap} {mg : Str → Option Value} {x : Str} {z : Int} {t : Tok} (X : K.In h) (G : h.Ns mainGlobals mg)
    (a : PySem.W.nsIn K mainGlobals x = some (some (.int z t))) : ∃ t, mg x = some (.int z t) := ⟨t, PySem.W.mg_of X G a⟩
end Aw
namespace Aw
open PySem PySem.Spec L2
/-- names of built-ins that the top leaves alone -/
structure Blt (mg : Str → Option Value) : Prop where
  len : mg "len" = none
  int : mg "int" = none
  abs : mg "abs" = none
  str : mg "str" = none
  bool : mg "bool" = none
  range : mg "range" = none
  isinstance : mg "isinstance" = none
  tuple : mg "tuple" = none
  list : mg "list" = none
  repr : mg "repr" = none
  zip : mg "zip" = none
  enumerate : mg "enumerate" = none
  sum : mg "sum" = none
  min : mg "min" = none
  max : mg "max" = none
  all : mg "all" = none
  any : mg "any" = none
  sorted : mg "sorted" = none
  dict : mg "dict" = none
/-- what may be written -/
def Mut : HO → Prop
  | .tup _ => False
  | .frz _ _ => False
  | _ => True
/-- all but what stands at M is kept -/
def Kp (M : List Addr) (H H' : Hp) : Prop :=
  ∀ b o, H b = some o → (b ∈ M → Mut o) ∧ (b ∉ M → H' b = some o)
/-- lists stand at M -/
def Ls (M : List Addr) (H : Hp) : Prop := ∀ b ∈ M, ∃ xs, H b = some (.lst xs)
theorem Kp.refl {M : List Addr} {H : Hp} (h : Ls M H) : Kp M H H := fun b o e => ⟨fun m => by
  obtain ⟨xs, q⟩ := h b m
  rw [e] at q
  cases q
  trivial, fun _ => e⟩
/-- what may be written stands at M -/
def Ms (M : List Addr) (H : Hp) : Prop := ∀ b ∈ M, ∃ o, H b = some o ∧ Mut o
theorem Kp.reflM {M : List Addr} {H : Hp} (h : Ms M H) : Kp M H H := fun b o e => ⟨fun m => by
  obtain ⟨o', q, z⟩ := h b m
  rw [e] at q
  cases q
  exact z, fun _ => e⟩
theorem Ms.nil {H : Hp} : Ms [] H := fun b m => by cases m
theorem Ms.cons {M : List Addr} {H : Hp} {a : Addr} {o : HO} (e : H a = some o) (z : Mut o) (h : Ms M H) : Ms (a :: M) H := fun b m => by
  rcases List.mem_cons.mp m with rfl | m
  · exact ⟨o, e, z⟩
  · exact h b m
theorem Kp.nil {H : Hp} : Kp [] H H := fun b o e => ⟨fun m => (by cases m), fun _ => e⟩
theorem Kp.trans {M : List Addr} {H H1 H2 : Hp} (a : Kp M H H1) (b : Kp M H1 H2) : Kp M H H2 := fun c o e =>
  ⟨(a c o e).1, fun n => (b c o ((a c o e).2 n)).2 n⟩
theorem Kp.sub {M M' : List Addr} {H H1 : Hp} (a : Kp M H H1) (h : Ls M' H) (s : ∀ b ∈ M, b ∈ M') : Kp M' H H1 := fun c o e =>
  ⟨fun m => by
    obtain ⟨xs, q⟩ := h c m
    rw [e] at q
    cases q
    trivial, fun n => (a c o e).2 fun m => n (s c m)⟩
theorem Kp.subM {M M' : List Addr} {H H1 : Hp} (a : Kp M H H1) (h : Ms M' H) (s : ∀ b ∈ M, b ∈ M') : Kp M' H H1 := fun c o e =>
  ⟨fun m => by
    obtain ⟨o', q, z⟩ := h c m
    rw [e] at q
    cases q
    exact z, fun n => (a c o e).2 fun m => n (s c m)⟩
theorem Kp.same {H H1 : Hp} (a : Kp [] H H1) : Same H H1 := fun b o e => (a b o e).2 (by simp)
theorem Kp.of {H H1 : Hp} (a : Same H H1) : Kp [] H H1 := fun b o e => ⟨fun m => (by cases m), fun _ => a b o e⟩
theorem Kp.get {M : List Addr} {H H1 : Hp} {b : Addr} {o : HO} (a : Kp M H H1) (e : H b = some o) (n : b ∉ M) : H1 b = some o := (a b o e).2 n
theorem Kp.tup {M : List Addr} {H H1 : Hp} {b : Addr} {xs : List V} (a : Kp M H H1) (e : H b = some (.tup xs)) : H1 b = some (.tup xs) :=
  (a b _ e).2 fun m => (a b _ e).1 m
/-- a new object -/
theorem Kp.new {M : List Addr} {H H1 : Hp} {p : Addr} {o : HO} (a : Kp M H H1) (n : H1 p = none) : Kp M H (upd H1 p o) := fun b u e =>
  ⟨(a b u e).1, fun m => by
    have q := (a b u e).2 m
    rw [upd_ne (ne_of_none q n)]
    exact q⟩
/-- a write at M -/
theorem Kp.write {M : List Addr} {H H1 : Hp} {p : Addr} {o : HO} (a : Kp M H H1) (m : p ∈ M) : Kp M H (upd H1 p o) := fun b u e =>
  ⟨(a b u e).1, fun n => by
    have q := (a b u e).2 n
    rw [upd_ne (fun z : b = p => n (by rw [z]; exact m))]
    exact q⟩
/-- what was not there ahead may be written -/
theorem Kp.own {M : List Addr} {H H1 : Hp} {p : Addr} {o : HO} (a : Kp M H H1) (n : H p = none) : Kp M H (upd H1 p o) := fun b u e =>
  ⟨(a b u e).1, fun m => by
    rw [upd_ne (ne_of_none e n)]
    exact (a b u e).2 m⟩
theorem Kp.free {M : List Addr} {H H1 : Hp} {p : Addr} (a : Kp M H H1) (l : Ls M H1) (n : H1 p = none) : H p = none := by
  cases q : H p with
  | none => rfl
  | some o =>
    by_cases m : p ∈ M
    · obtain ⟨xs, z⟩ := l p m
      rw [n] at z
      cases z
    · rw [(a p o q).2 m] at n
      cases n
theorem Kp.freeM {M : List Addr} {H H1 : Hp} {p : Addr} (a : Kp M H H1) (l : Ms M H1) (n : H1 p = none) : H p = none := by
  cases q : H p with
  | none => rfl
  | some o =>
    by_cases m : p ∈ M
    · obtain ⟨o', z, _⟩ := l p m
      rw [n] at z
      cases z
    · rw [(a p o q).2 m] at n
      cases n
theorem sqT_kp {K : PySem.W.Frag} {M : List Addr} {H H1 : Hp} {b : Addr} {xs : List V} (a : Kp M H H1) (h : SqT K H b xs) : SqT K H1 b xs := by
  rcases h with (h | ⟨o, h⟩) | h
  · exact .inl (.inl (a.tup h))
  · exact .inl (.inr ⟨o, (a b _ h).2 fun m => (a b _ h).1 m⟩)
  · exact .inr h
theorem sqL_kp {K : PySem.W.Frag} {M : List Addr} {H H1 : Hp} {b : Addr} {xs : List V} (a : Kp M H H1) (n : b ∉ M) (h : SqL K H b xs) : SqL K H1 b xs := by
  rcases h with (h | ⟨o, h⟩) | h
  · exact .inl (.inl (a.get h n))
  · exact .inl (.inr ⟨o, a.get h n⟩)
  · exact .inr h
/-- data without lists -/
inductive Dt (K : PySem.W.Frag) (H : Hp) : V → PyData → Prop
  | non : Dt K H .non .none
  | bl (b : Bool) : Dt K H (.bl b) (.bool b)
  | int (i : Int) : Dt K H (.int i) (.int i)
  | str (x : Str) : Dt K H (.str x) (.str x)
  | tup {a : Addr} {xs : List V} {ds : List PyData} : SqT K H a xs → xs.length = ds.length →
      (∀ (i : Nat) (v : V) (d : PyData), xs[i]? = some v → ds[i]? = some d → Dt K H v d) → Dt K H (.ref a) (.tuple ds)
theorem Dt.kp {K : PySem.W.Frag} {M : List Addr} {H H1 : Hp} {v : V} {d : PyData} (a : Kp M H H1) (h : Dt K H v d) : Dt K H1 v d := by
  induction h with
  | non => exact .non
  | bl b => exact .bl b
  | int i => exact .int i
  | str x => exact .str x
  | tup s l _ ih => exact .tup (sqT_kp a s) l ih
theorem Dt.dp {K : PySem.W.Frag} {H : Hp} {v : V} {d : PyData} (h : Dt K H v d) : Dp K H v d := by
  induction h with
  | non => exact .non
  | bl b => exact .bl b
  | int i => exact .int i
  | str x => exact .str x
  | @tup a xs ds s l _ ih =>
    refine .tup s ?_
    clear s
    induction xs generalizing ds with
    | nil =>
      cases ds with
      | nil => exact .nil
      | cons d ds => cases l
    | cons x xs ihx =>
      cases ds with
      | nil => cases l
      | cons d ds =>
        refine .cons (ih 0 x d rfl rfl) (ihx (by simpa using l) (fun i => ?_) fun i => ?_)
        · rename_i q
          exact q (i + 1)
        · exact ih (i + 1)
structure Deck (H : Hp) (d c : Addr) (n : Int) : Prop where
  hd : H d = some (.lst [.ref c, .int n])
  hc : ∃ cs : List Int, H c = some (.lst (cs.map V.int)) ∧ (∀ x ∈ cs, 0 ≤ x) ∧ cs.length ≤ 63
  ne : d ≠ c
  n0 : 0 ≤ n
theorem Deck.ls {H : Hp} {d c : Addr} {n : Int} (D : Deck H d c n) : Ls [d, c] H := by
  intro b m
  rcases List.mem_cons.mp m with rfl | m
  · exact ⟨_, D.hd⟩
  · obtain ⟨cs, h, _⟩ := D.hc
    rw [List.mem_singleton.mp m]
    exact ⟨_, h⟩
theorem Deck.ls3 {H : Hp} {d c l : Addr} {n : Int} {xs : List V} (D : Deck H d c n) (h : H l = some (.lst xs)) : Ls [d, c, l] H := by
  intro b m
  rcases List.mem_cons.mp m with rfl | m
  · exact ⟨_, D.hd⟩
  rcases List.mem_cons.mp m with rfl | m
  · obtain ⟨cs, h, _⟩ := D.hc
    exact ⟨_, h⟩
  · rw [List.mem_singleton.mp m]
    exact ⟨_, h⟩
theorem Deck.fresh {H : Hp} {d c p : Addr} {n : Int} (D : Deck H d c n) (h : H p = none) : p ≠ d ∧ p ≠ c := by
  obtain ⟨cs, hc, _⟩ := D.hc
  exact ⟨Ne.symm (ne_of_none D.hd h), Ne.symm (ne_of_none hc h)⟩
theorem Deck.kp {M : List Addr} {H H1 : Hp} {d c : Addr} {n : Int} (D : Deck H d c n) (k : Kp M H H1) (hd : d ∉ M) (hc : c ∉ M) : Deck H1 d c n := by
  obtain ⟨cs, h, a, b⟩ := D.hc
  exact ⟨k.get D.hd hd, ⟨cs, k.get h hc, a, b⟩, D.ne, D.n0⟩
/-- a draw -/
def spDraw : Sp := fun vs H Q _ => ∃ (d c : Addr) (n m : Int), vs = [.ref d, .int m] ∧ Deck H d c n ∧ n < 10 ^ 12 ∧ 1 ≤ m ∧ m < 2 ^ 30 ∧
  ∀ (H' : Hp) (r : Int), 0 ≤ r → r < m → Deck H' d c (n + 1) → Kp [d, c] H H' → Q (.int r) H'
theorem spDraw.use {H : Hp} {Q : VK} {E : XK} {d c : Addr} {n m : Int} (D : Deck H d c n) (hn : n < 10 ^ 12) (h1 : 1 ≤ m) (h2 : m < 2 ^ 30)
    (k : ∀ (H' : Hp) (r : Int), 0 ≤ r → r < m → Deck H' d c (n + 1) → Kp [d, c] H H' → Q (.int r) H') : spDraw [.ref d, .int m] H Q E :=
  ⟨d, c, n, m, rfl, D, hn, h1, h2, k⟩
/-- the deck is made -/
def spDeck (K : PySem.W.Frag) : Sp := fun vs H Q _ => ∃ (a : Addr) (ns : List Int), vs = [.ref a] ∧ SqL K H a (ns.map V.int) ∧ ns.length ≤ 63 ∧
  ∀ (H' : Hp) (d c : Addr), H d = none → H c = none → Deck H' d c 0 → Kp [] H H' → Q (.ref d) H'
/-- one of the items of a list, of a text -/
def spOneL (K : PySem.W.Frag) : Sp := fun vs H Q _ => ∃ (d c a : Addr) (n : Int) (xs : List V), vs = [.ref d, .ref a] ∧ Deck H d c n ∧ n < 10 ^ 12 ∧ SqL K H a xs ∧ a ≠ d ∧ a ≠ c ∧
  1 ≤ xs.length ∧ xs.length < 2 ^ 30 ∧ ∀ (H' : Hp) (i : Nat) (x : V), xs[i]? = some x → Deck H' d c (n + 1) → Kp [d, c] H H' → Q x H'
def spOneS : Sp := fun vs H Q _ => ∃ (d c : Addr) (n : Int) (z : Str), vs = [.ref d, .str z] ∧ Deck H d c n ∧ n < 10 ^ 12 ∧
  1 ≤ z.length ∧ z.length ≤ 1000 ∧ ∀ (H' : Hp) (k : Nat), k ∈ z.cps.toList → Deck H' d c (n + 1) → Kp [d, c] H H' → Q (.str ⟨#[k]⟩) H'
def spOne (K : PySem.W.Frag) : Sp := fun vs H Q E => spOneL K vs H Q E ∨ spOneS vs H Q E
theorem spOne.list {K : PySem.W.Frag} {H : Hp} {Q : VK} {E : XK} {d c a : Addr} {n : Int} {xs : List V} (D : Deck H d c n) (hn : n < 10 ^ 12) (s : SqL K H a xs) (h1 : a ≠ d) (h2 : a ≠ c)
    (h3 : 1 ≤ xs.length) (h4 : xs.length < 2 ^ 30) (k : ∀ (H' : Hp) (i : Nat) (x : V), xs[i]? = some x → Deck H' d c (n + 1) → Kp [d, c] H H' → Q x H') : spOne K [.ref d, .ref a] H Q E :=
  .inl ⟨d, c, a, n, xs, rfl, D, hn, s, h1, h2, h3, h4, k⟩
theorem spOne.text {K : PySem.W.Frag} {H : Hp} {Q : VK} {E : XK} {d c : Addr} {n : Int} {z : Str} (D : Deck H d c n) (hn : n < 10 ^ 12) (h3 : 1 ≤ z.length) (h4 : z.length ≤ 1000)
    (k : ∀ (H' : Hp) (i : Nat), i ∈ z.cps.toList → Deck H' d c (n + 1) → Kp [d, c] H H' → Q (.str ⟨#[i]⟩) H') : spOne K [.ref d, .str z] H Q E :=
  .inr ⟨d, c, n, z, rfl, D, hn, h3, h4, k⟩
end Aw
namespace Aw
open PySem PySem.Spec L2
section
variable {σ : L2.St} {H : Hp} {D : Ends} {Q : VK} {v x y : V} {i j : Nat} {t u : TS} {te ta tb tc : TE} {tt tu : TT} {ts : TA} {g : TG} {gs : TGs}
theorem r_seq (h : t { D with nx := u D } σ H) : tSeq t u D σ H := h
theorem r_next (h : D.nx σ H) : tNext D σ H := h
theorem r_asg (h : te σ H fun x H1 => g x σ H1 D.nx) : tAsg te g D σ H := h
theorem r_name {R : L2.St → Hp → Prop} (h : R (σ.set i (some v)) H) : gName i v σ H R := h
theorem r_sub {to ti : TE} {w : TSet} {R : L2.St → Hp → Prop} (h : to σ H fun o H1 => ti σ H1 fun i H2 => w o i v H2 fun H3 => R σ H3) : gSub to ti w v σ H R := h
theorem r_gtup {K : PySem.W.Frag} {n : Nat} {a : Addr} {xs : List V} {R : L2.St → Hp → Prop} (h : SqT K H a xs) (l : xs.length = n) (q : gs xs σ H R) : gTup K n gs (.ref a) σ H R := ⟨a, xs, rfl, h, l, q⟩
theorem r_gcons {R : L2.St → Hp → Prop} {xs : List V} (h : g x σ H fun σ' H' => gs xs σ' H' R) : gCons g gs (x :: xs) σ H R := ⟨x, xs, rfl, h⟩
theorem r_gnil {R : L2.St → Hp → Prop} (h : R σ H) : gNil [] σ H R := ⟨rfl, h⟩
theorem r_ifS (h : tt σ H fun b H1 => if b = true then t D σ H1 else u D σ H1) : tIfS tt t u D σ H := h
theorem r_ret (h : te σ H D.rt) : tRet te D σ H := h
theorem r_retN (h : D.rt .non H) : tRetN D σ H := h
theorem r_drop (h : te σ H fun _ H1 => D.nx σ H1) : tDrop te D σ H := h
theorem r_par (h : ts σ H fun vs H1 => ∃ v w, vs = [v, w] ∧ D.nx ((σ.set i (some v)).set j (some w)) H1) : tPar i j ts D σ H := h
theorem r_two {R : V → V → Prop} (h : R x y) : ∃ v w, [x, y] = [v, w] ∧ R v w := ⟨x, y, rfl, h⟩
theorem r_par3 {l : Nat} (h : ts σ H fun vs H1 => ∃ u v w, vs = [u, v, w] ∧ D.nx (((σ.set i (some u)).set j (some v)).set l (some w)) H1) : tPar3 i j l ts D σ H := h
theorem r_three {R : V → V → V → Prop} {z : V} (h : R x y z) : ∃ u v w, [x, y, z] = [u, v, w] ∧ R u v w := ⟨x, y, z, rfl, h⟩
theorem r_aug {ti : TIp} (e : σ[i]? = some (some x)) (h : te σ H fun y H1 => ti x y H1 fun z H2 => D.nx (σ.set i (some z)) H2) : tAug i te ti D σ H := ⟨x, e, h⟩
theorem r_ipI {f : Int → Int → Int} {a b : Int} (h : Q (.int (f a b)) H) : ipI f (.int a) (.int b) H Q := ⟨a, b, rfl, rfl, h⟩
theorem r_var (e : σ[i]? = some (some v)) (h : Q v H) : tVar i σ H Q := ⟨v, e, h⟩
theorem r_C (h : Q v H) : tC v σ H Q := h
theorem r_op {r : R2} (h : ta σ H fun x H1 => tb σ H1 fun y H2 => r x y H2 Q) : tOp r ta tb σ H Q := h
theorem r_un {r : V → Hp → VK → Prop} (h : ta σ H fun x H1 => r x H1 Q) : tUn r ta σ H Q := h
theorem r_I0 {f : Int → Int → V} {a b : Int} (h : Q (f a b) H) : rI0 f (.int a) (.int b) H Q := ⟨a, b, rfl, rfl, h⟩
theorem r_I {C : Int → Int → Prop} {f : Int → Int → V} {a b : Int} (h : Q (f a b) H) (c : C a b) : rI C f (.int a) (.int b) H Q := ⟨a, b, rfl, rfl, c, h⟩
theorem r_U {f : Int → V} {a : Int} (h : Q (f a) H) : rU f (.int a) H Q := ⟨a, rfl, h⟩
theorem r_tup (h : ts σ H fun xs H1 => xs.length ≤ sizeLine ∧ ∀ p, H1 p = none → Q (.ref p) (upd H1 p (.tup xs))) : tTup ts σ H Q := h
theorem r_lst (h : ts σ H fun xs H1 => xs.length ≤ sizeLine ∧ ∀ p, H1 p = none → Q (.ref p) (upd H1 p (.lst xs))) : tLst ts σ H Q := h
theorem r_nil {R : List V → Hp → Prop} (h : R [] H) : tNil σ H R := h
theorem r_cons {R : List V → Hp → Prop} (h : te σ H fun x H1 => ts σ H1 fun xs H2 => R (x :: xs) H2) : tCons te ts σ H R := h
theorem r_call {sp : Sp} {E : XK} (h : ts σ H fun vs H1 => sp (vs ++ []) H1 Q E) : tCall sp [] E ts σ H Q := h
theorem r_CB {r : List V → Hp → VK → Prop} (h : ts σ H fun vs H1 => r vs H1 Q) : tCB r ts σ H Q := h
theorem r_BM {K : PySem.W.Frag} {T : String} {r : V → List V → Hp → VK → Prop} {to : TE} (h : to σ H fun x H1 => tyV K T x H1 ∧ ts σ H1 fun xs H2 => r x xs H2 Q) : tBM K T r to ts σ H Q := h
theorem r_BM0 {K : PySem.W.Frag} {T : String} {r : V → List V → Hp → VK → Prop} {to : TE} (h : to σ H fun x H1 => tyV K T x H1 ∧ r x [] H1 Q) : tBM0 K T r to σ H Q := h
theorem r_tyL {K : PySem.W.Frag} {a : Addr} {xs : List V} {R : Prop} (h : H a = some (.lst xs)) (q : R) : tyV K "list" (.ref a) H ∧ R := ⟨.inl ⟨rfl, _, SqL.of h⟩, q⟩
theorem r_M1 {r : V → List V → Hp → VK → Prop} {to : TE} (h : to σ H fun x H1 => (∃ a, x = .str a) ∧ te σ H1 fun y H2 => r x [y] H2 Q) : tM1 r to te σ H Q := h
theorem r_isS {z : Str} {R : Prop} (h : R) : (∃ a, V.str z = .str a) ∧ R := ⟨⟨z, rfl⟩, h⟩
theorem r_if (h : tt σ H fun c H1 => if c = true then ta σ H1 Q else tb σ H1 Q) : tIf tt ta tb σ H Q := h
/-- both ways of a conditional expression meet -/
theorem r_ifJ (R : V → Hp → Prop) (h : ∀ Q' : VK, (∀ x H', R x H' → Q' x H') → tIf tt ta tb σ H Q') (k : ∀ x H', R x H' → Q x H') : tIf tt ta tb σ H Q := h Q k
/-- the ways of a statement meet -/
theorem r_seqJ (R : L2.St → Hp → Prop) (h : ∀ nx' : L2.St → Hp → Prop, (∀ σ' H', R σ' H' → nx' σ' H') → t { D with nx := nx' } σ H) (k : ∀ σ' H', R σ' H' → u D σ' H') : tSeq t u D σ H := h (u D) k
def Bl (R : Bool → Hp → Prop) : V → Hp → Prop := fun x H => ∃ k, x = .bl k ∧ R k H
theorem r_bl {R : Bool → Hp → Prop} {b : Bool} (h : R b H) : Bl R (.bl b) H := ⟨b, rfl, h⟩
theorem r_test {R : Bool → Hp → Prop} (h : te σ H (Bl R)) : tTest te σ H R := h
theorem r_B {R : Bool → Hp → Prop} (h : te σ H (Bl R)) : tB te σ H R := h
theorem r_and {R : Bool → Hp → Prop} (h : tt σ H fun c H1 => if c = true then tu σ H1 R else R false H1) : tAnd tt tu σ H R := h
theorem r_or {R : Bool → Hp → Prop} (h : tt σ H fun c H1 => if c = true then R true H1 else tu σ H1 R) : tOr tt tu σ H R := h
theorem r_orP {R : Bool → Hp → Prop} {p q : Bool} (h1 : ∀ R' : Bool → Hp → Prop, R' p H → tt σ H R') (h2 : ∀ R' : Bool → Hp → Prop, R' q H → tu σ H R') (h : R (p || q) H) : tOr tt tu σ H R := by
  refine h1 _ ?_
  cases p with
  | true => exact iteT h
  | false => exact iteF (h2 _ h)
theorem r_andP {R : Bool → Hp → Prop} {p q : Bool} (h1 : ∀ R' : Bool → Hp → Prop, R' p H → tt σ H R') (h2 : ∀ R' : Bool → Hp → Prop, R' q H → tu σ H R') (h : R (p && q) H) : tAnd tt tu σ H R := by
  refine h1 _ ?_
  cases p with
  | true => exact iteT (h2 _ h)
  | false => exact iteF h
theorem r_not {R : Bool → Hp → Prop} (h : tt σ H fun c H1 => R (!c) H1) : tNot tt σ H R := h
theorem r_andV (h : ta σ H (Bl fun c H1 => if c = true then tb σ H1 Q else Q (.bl false) H1)) : tAndV ta tb σ H Q := h
theorem r_orV (h : ta σ H (Bl fun c H1 => if c = true then Q (.bl true) H1 else tb σ H1 Q)) : tOrV ta tb σ H Q := h
theorem r_notV (h : ta σ H (Bl fun c H1 => Q (.bl (!c)) H1)) : tNotV ta σ H Q := h
theorem r_chain {r r' : R2} (h : ta σ H fun x H1 => tb σ H1 fun y H2 => r x y H2 (Bl fun k H3 => if k = true then tc σ H3 fun w' H4 => r' y w' H4 Q else Q (.bl false) H3)) : tChain r r' ta tb tc σ H Q := h
theorem r_eq (s : scal x y = true) (h : Q (.bl (decide (x = y))) H) : rEq x y H Q := ⟨s, h⟩
theorem r_ne (s : scal x y = true) (h : Q (.bl (!decide (x = y))) H) : rNe x y H Q := ⟨s, h⟩
theorem r_eqT (e : x = y) (s : scal x y = true) (h : Q (.bl true) H) : rEq x y H Q := ⟨s, by rw [decide_eq_true e]; exact h⟩
theorem r_eqF (e : x ≠ y) (s : scal x y = true) (h : Q (.bl false) H) : rEq x y H Q := ⟨s, by rw [decide_eq_false e]; exact h⟩
theorem r_neT (e : x ≠ y) (s : scal x y = true) (h : Q (.bl true) H) : rNe x y H Q := ⟨s, by rw [decide_eq_false e]; exact h⟩
theorem r_neF (e : x = y) (s : scal x y = true) (h : Q (.bl false) H) : rNe x y H Q := ⟨s, by rw [decide_eq_true e]; exact h⟩
theorem ifd {p A B : Prop} [Decidable p] (h1 : p → A) (h2 : ¬ p → B) : if decide p = true then A else B :=
  ite2 (fun c => h1 (of_decide_eq_true c)) fun c => h2 fun q => c (decide_eq_true q)
theorem ifn {p A B : Prop} [Decidable p] (h1 : ¬ p → A) (h2 : p → B) : if (!decide p) = true then A else B := by
  by_cases h : p
  · rw [decide_eq_true h]
    exact iteF (h2 h)
  · rw [decide_eq_false h]
    exact iteT (h1 h)
theorem ifT {A B : Prop} (h : A) : if true = true then A else B := iteT h
theorem ifF {A B : Prop} (h : B) : if false = true then A else B := iteF h
theorem ifnT {A B : Prop} (h : B) : if (!true) = true then A else B := iteF h
theorem ifnF {A B : Prop} (h : A) : if (!false) = true then A else B := iteT h
theorem c_pow {i j : Int} (h : i.natAbs < 2 ^ 64) (h1 : 0 ≤ j) (h2 : j ≤ 1000000) : CPow i j := ⟨h1, h2, h⟩
theorem c_div {i j : Int} (h : 0 < j) (h1 : j < 1073741824) : CDiv i j := ⟨h, h1⟩
theorem c_mulL {i j : Int} (h : -(2 ^ 64) < i) (h1 : i < 2 ^ 64) : CMul i j := .inl ⟨h, h1⟩
theorem c_mulR {i j : Int} (h : -(2 ^ 64) < j) (h1 : j < 2 ^ 64) : CMul i j := .inr ⟨h, h1⟩
def rAddS : R2 := fun x y H Q => ∃ i j, x = .str i ∧ y = .str j ∧ i.length + j.length ≤ sizeLine ∧ Q (.str (i ++ j)) H
theorem op_addS {X : Cx} : OpR X (binaryOp .Add) rAddS := op_add_str
theorem r_addS {a b : Str} (h : Q (.str (a ++ b)) H) (l : a.length + b.length ≤ sizeLine) : rAddS (.str a) (.str b) H Q := ⟨a, b, rfl, rfl, l, h⟩
theorem r_ixL {K : PySem.W.Frag} {a : Addr} {xs : List V} {k : Int} (h : SqL K H a xs) (e : atI xs k = some v) (q : Q v H) : rIxL K (.ref a) (.int k) H Q := ⟨a, xs, k, v, rfl, rfl, h, e, q⟩
theorem r_ixT {K : PySem.W.Frag} {a : Addr} {xs : List V} {k : Int} (h : SqT K H a xs) (e : atI xs k = some v) (q : Q v H) : rIxT K (.ref a) (.int k) H Q := ⟨a, xs, k, v, rfl, rfl, h, e, q⟩
theorem r_ixS {z : Str} {k : Int} {c : Nat} (l : z.length ≤ sizeLine) (e : atI z.cps.toList k = some c) (q : Q (.str ⟨#[c]⟩) H) : rIxS (.str z) (.int k) H Q := ⟨z, k, c, rfl, rfl, l, e, q⟩
theorem r_ixD {K : PySem.W.Frag} {w : World} {a : Addr} {z : Str} (h : KDct K w a z v) (q : Q v H) : rIxD K w (.ref a) (.str z) H Q := ⟨a, z, v, rfl, rfl, h, q⟩
theorem r_setL {R : Hp → Prop} {a : Addr} {xs : List V} {k : Int} {m : Nat} (h : H a = some (.lst xs)) (e : ixN xs.length k = some m) (q : R (upd H a (.lst (xs.set m v)))) : rSetL (.ref a) (.int k) v H R := ⟨a, xs, k, m, rfl, rfl, h, e, q⟩
theorem r_append {a : Addr} {xs : List V} (h : H a = some (.lst xs)) (q : Q .non (upd H a (.lst (xs ++ [x])))) (l : xs.length < sizeLine) : rAppend (.ref a) [x] H Q := ⟨a, xs, x, rfl, rfl, h, l, q⟩
theorem r_extend {a b : Addr} {xs zs : List V} (h : H a = some (.lst xs)) (h2 : H b = some (.lst zs)) (q : Q .non (upd H a (.lst (xs ++ zs)))) (l : xs.length + zs.length ≤ sizeLine) : rExtend (.ref a) [.ref b] H Q := ⟨a, b, xs, zs, rfl, rfl, h, h2, l, q⟩
theorem r_cat {a b : Addr} {xs zs : List V} (h : H a = some (.lst xs)) (h2 : H b = some (.lst zs)) (l : xs.length + zs.length ≤ sizeLine) (q : ∀ p, H p = none → Q (.ref p) (upd H p (.lst (xs ++ zs)))) : rCat (.ref a) (.ref b) H Q := ⟨a, b, xs, zs, rfl, rfl, h, h2, l, q⟩
theorem at_nn {α : Type} {xs : List α} {r : Int} {v : α} (h0 : 0 ≤ r) (h : xs[r.toNat]? = some v) : atI xs r = some v := by
  have q := atI_nat h
  rw [Int.toNat_of_nonneg h0] at q
  exact q
theorem r_sl {r : V → Option Int → Option Int → Hp → VK → Prop} {tl th : TO} (h : te σ H fun x H1 => tl σ H1 fun l H2 => th σ H2 fun u H3 => r x l u H3 Q) : tSl r te tl th σ H Q := h
theorem r_noPart {R : Option Int → Hp → Prop} (h : R none H) : tNoPart σ H R := h
def PartI (R : Option Int → Hp → Prop) : V → Hp → Prop := fun x H1 => ∃ i, x = .int i ∧ R (some i) H1
theorem r_part {R : Option Int → Hp → Prop} (h : te σ H (PartI R)) : tPart te σ H R := h
theorem r_partI {R : Option Int → Hp → Prop} {k : Int} (h : R (some k) H) : PartI R (.int k) H := ⟨k, rfl, h⟩
theorem r_slL {K : PySem.W.Frag} {a : Addr} {xs : List V} {lo hi : Option Int} (s : SqL K H a xs) (h : ∀ p, H p = none → Q (.ref p) (upd H p (.lst (cutV xs lo hi)))) : rSlL K (.ref a) lo hi H Q := ⟨a, xs, rfl, s, h⟩
theorem cutV_map {α : Type} (f : α → V) (xs : List α) (lo hi : Option Int) : ∃ ys : List α, cutV (xs.map f) lo hi = ys.map f ∧ ys.length ≤ xs.length ∧ ∀ y ∈ ys, y ∈ xs := by
  unfold cutV
  rw [List.length_map, ← List.map_drop, ← List.map_take]
  refine ⟨_, rfl, ?_, fun y hy => List.mem_of_mem_drop (List.mem_of_mem_take hy)⟩
  rw [List.length_take, List.length_drop]
  omega
theorem r_pnil {R : List (V × V) → Hp → Prop} (h : R [] H) : tPairs [] σ H R := h
theorem r_pcons {R : List (V × V) → Hp → Prop} {tk tv : TE} {r : List (TE × TE)} (h : tk σ H fun x H1 => tv σ H1 fun y H2 => tPairs r σ H2 fun ps H3 => R ((x, y) :: ps) H3) : tPairs ((tk, tv) :: r) σ H R := h
def DG (Q : VK) : V → V → Hp → Prop := fun x y H2 => ∃ a v, x = .ref a ∧ DGet H2 a y (some v) ∧ Q v H2
theorem r_dget {td ty : TE} (h : td σ H fun x H1 => ty σ H1 fun y H2 => DG Q x y H2) : tDGet td ty σ H Q := h
theorem r_DG {a : Addr} (h : DGet H a y (some v)) (q : Q v H) : DG Q (.ref a) y H := ⟨a, v, rfl, h, q⟩
theorem dget_k {a : Addr} {kvs : List (Key × V)} {z : Str} (e : H a = some (.dK kvs)) (q : valV kvs (Sum.inr z) = some v) : DGet H a (.str z) (some v) := by
  have h := DGet.k (k := Sum.inr z) e
  rw [q] at h
  exact h
/-- the turns of a walk -/
def Turns (J : It) (g : TG) (tb : TS) (D : Ends) (σ : L2.St) (H1 : Hp) : Prop := ∃ W : Nat → Nat → L2.St → Hp → Prop, (∃ m, W 0 m σ H1) ∧ ∀ i m σ H, W i m σ H →
  (J.stop i H ∧ D.nx σ H) ∨ (J.go i H ∧ ∃ N : L2.St → Hp → Prop, (∀ σ' H', N σ' H' → ∃ m', m' < m ∧ W (i + 1) m' σ' H') ∧ ∀ x H', J.yld i H x H' → g x σ H' fun σ2 H2 => tb { D with nx := N, ct := N, bk := D.nx } σ2 H2)
def ForT (K : PySem.W.Frag) (g : TG) (tb : TS) (D : Ends) (σ : L2.St) : V → Hp → Prop := fun x H1 => ∃ a, x = .ref a ∧ (∃ xs, SqT K H1 a xs) ∧ Turns (Itt K a) g tb D σ H1
def ForL (K : PySem.W.Frag) (g : TG) (tb : TS) (D : Ends) (σ : L2.St) : V → Hp → Prop := fun x H1 => ∃ a, x = .ref a ∧ (∃ xs, SqL K H1 a xs) ∧ Turns (Itl K a) g tb D σ H1
def ForR (g : TG) (tb : TS) (D : Ends) (σ : L2.St) : List V → Hp → Prop := fun vs H1 => ∃ j : Int, vs = [.int j] ∧ -(2 ^ 62) ≤ j ∧ j < 2 ^ 62 ∧ Turns (Itr 0 j.toNat) g tb D σ H1
def ForR2 (g : TG) (tb : TS) (D : Ends) (σ : L2.St) : List V → Hp → Prop := fun vs H1 => ∃ i j : Int, vs = [.int i, .int j] ∧ (-(2 ^ 62) ≤ i ∧ i < 2 ^ 62 ∧ -(2 ^ 62) ≤ j ∧ j < 2 ^ 62) ∧ Turns (Itr i (j - i).toNat) g tb D σ H1
section
variable {K : PySem.W.Frag} {tb : TS}
theorem r_forT (h : te σ H (ForT K g tb D σ)) : tFor (iTup K te) g tb D σ H := h
theorem r_forL (h : te σ H (ForL K g tb D σ)) : tFor (iList K te) g tb D σ H := h
theorem r_forR (h : ts σ H (ForR g tb D σ)) : tFor (iRng1 ts) g tb D σ H := h
theorem r_forR2 (h : ts σ H (ForR2 g tb D σ)) : tFor (iRng2 ts) g tb D σ H := h
theorem r_ForT {a : Addr} {xs : List V} (s : SqT K H a xs) (R : Nat → L2.St → Hp → Prop) (h0 : R 0 σ H) (hl : ∀ i σ H, R i σ H → SqT K H a xs)
    (hs : ∀ (i : Nat) x σ H, xs[i]? = some x → R i σ H → g x σ H fun σ2 H2 => tb { D with nx := R (i + 1), ct := R (i + 1), bk := D.nx } σ2 H2) (hd : ∀ σ H, R xs.length σ H → D.nx σ H) :
    ForT K g tb D σ (.ref a) H := ⟨a, rfl, ⟨xs, s⟩, for_tup R h0 (fun i σ H _ => hl i σ H) hs hd⟩
theorem r_ForL {a : Addr} {xs : List V} (s : SqL K H a xs) (R : Nat → L2.St → Hp → Prop) (h0 : R 0 σ H) (hl : ∀ i σ H, R i σ H → SqL K H a xs)
    (hs : ∀ (i : Nat) x σ H, xs[i]? = some x → R i σ H → g x σ H fun σ2 H2 => tb { D with nx := R (i + 1), ct := R (i + 1), bk := D.nx } σ2 H2) (hd : ∀ σ H, R xs.length σ H → D.nx σ H) :
    ForL K g tb D σ (.ref a) H := ⟨a, rfl, ⟨xs, s⟩, for_list R h0 (fun i σ H _ => hl i σ H) hs hd⟩
theorem r_ForR {n : Int} (R : Nat → L2.St → Hp → Prop) (h1 : -(2 ^ 62) ≤ n) (h2 : n < 2 ^ 62) (h0 : R 0 σ H)
    (hs : ∀ (i : Nat) σ H, i < n.toNat → R i σ H → g (.int (i : Int)) σ H fun σ2 H2 => tb { D with nx := R (i + 1), ct := R (i + 1), bk := D.nx } σ2 H2) (hd : ∀ σ H, R n.toNat σ H → D.nx σ H) :
    ForR g tb D σ [.int n] H := by
  refine ⟨n, rfl, h1, h2, for_range (lo := 0) (n := n.toNat) R h0 (fun i σ H hi p => ?_) hd⟩
  have z := hs i σ H hi p
  rw [← Int.zero_add (i : Int)] at z
  exact z
end
def LcTurns (J : It) (g : TG) (tt : TT) (te : TE) (vs : List Nat) (σ : L2.St) (Q : VK) (H1 : Hp) : Prop := ∀ D, H1 D = none → ∃ W : Nat → Nat → Hp → Prop, (∃ m, W 0 m (upd H1 D (.lst []))) ∧ ∀ i m H, W i m H →
  (J.stop i H ∧ Q (.ref D) H) ∨ (J.go i H ∧ ∃ Nx : Hp → Prop, (∀ H', Nx H' → ∃ m', m' < m ∧ W (i + 1) m' H') ∧ ∀ x H', J.yld i H x H' → g x (wipe σ vs) H' fun σ2 H2 => wipe σ2 vs = wipe σ vs ∧ tt σ2 H2 fun b H3 =>
    if b = true then te σ2 H3 fun y H4 => ∃ acc, H4 D = some (.lst acc) ∧ acc.length < sizeLine ∧ Nx (upd H4 D (.lst (acc ++ [y]))) else Nx H3)
def LcT (K : PySem.W.Frag) (g : TG) (tt : TT) (te : TE) (vs : List Nat) (σ : L2.St) (Q : VK) : V → Hp → Prop := fun x H1 => ∃ a, x = .ref a ∧ (∃ xs, SqT K H1 a xs) ∧ LcTurns (Itt K a) g tt te vs σ Q H1
def LcL (K : PySem.W.Frag) (g : TG) (tt : TT) (te : TE) (vs : List Nat) (σ : L2.St) (Q : VK) : V → Hp → Prop := fun x H1 => ∃ a, x = .ref a ∧ (∃ xs, SqL K H1 a xs) ∧ LcTurns (Itl K a) g tt te vs σ Q H1
def LcR (g : TG) (tt : TT) (te : TE) (vs : List Nat) (σ : L2.St) (Q : VK) : List V → Hp → Prop := fun us H1 => ∃ j : Int, us = [.int j] ∧ -(2 ^ 62) ≤ j ∧ j < 2 ^ 62 ∧ LcTurns (Itr 0 j.toNat) g tt te vs σ Q H1
section
variable {K : PySem.W.Frag} {tt : TT} {vs : List Nat} {ti : TE}
theorem r_lcT (h : ti σ H (LcT K g tt te vs σ Q)) : tLc (iTup K ti) g tt te vs σ H Q := h
theorem r_lcL (h : ti σ H (LcL K g tt te vs σ Q)) : tLc (iList K ti) g tt te vs σ H Q := h
theorem r_lcR (h : ts σ H (LcR g tt te vs σ Q)) : tLc (iRng1 ts) g tt te vs σ H Q := h
/-- the end of a turn of a comprehension: the element y is taken -/
def LcEnd (D : Addr) (N : Hp → Prop) : VK := fun y H4 => ∃ acc, H4 D = some (.lst acc) ∧ acc.length < sizeLine ∧ N (upd H4 D (.lst (acc ++ [y])))
theorem r_LcEnd {D : Addr} {N : Hp → Prop} {acc : List V} (h : H D = some (.lst acc)) (l : acc.length < sizeLine) (q : N (upd H D (.lst (acc ++ [y])))) : LcEnd D N y H := ⟨acc, h, l, q⟩
def LcTurn (tt : TT) (te : TE) (vs : List Nat) (σ : L2.St) (D : Addr) (N : Hp → Prop) : L2.St → Hp → Prop := fun σ2 H2 => wipe σ2 vs = wipe σ vs ∧ tt σ2 H2 fun b H3 => if b = true then te σ2 H3 (LcEnd D N) else N H3
theorem r_LcL {a : Addr} {xs : List V} (s : SqL K H a xs) (h : ∀ p, H p = none → ∃ R : Nat → Hp → Prop, R 0 (upd H p (.lst [])) ∧ (∀ i H, R i H → SqL K H a xs) ∧
    (∀ (i : Nat) x H, xs[i]? = some x → R i H → g x (wipe σ vs) H (LcTurn tt te vs σ p (R (i + 1)))) ∧ ∀ H, R xs.length H → Q (.ref p) H) : LcL K g tt te vs σ Q (.ref a) H := by
  refine ⟨a, rfl, ⟨xs, s⟩, fun p hp => ?_⟩
  obtain ⟨R, h0, hl, hs, hd⟩ := h p hp
  exact lc_list R h0 (fun i H _ => hl i H) hs hd
theorem r_LcT {a : Addr} {xs : List V} (s : SqT K H a xs) (h : ∀ p, H p = none → ∃ R : Nat → Hp → Prop, R 0 (upd H p (.lst [])) ∧ (∀ i H, R i H → SqT K H a xs) ∧
    (∀ (i : Nat) x H, xs[i]? = some x → R i H → g x (wipe σ vs) H (LcTurn tt te vs σ p (R (i + 1)))) ∧ ∀ H, R xs.length H → Q (.ref p) H) : LcT K g tt te vs σ Q (.ref a) H := by
  refine ⟨a, rfl, ⟨xs, s⟩, fun p hp => ?_⟩
  obtain ⟨R, h0, hl, hs, hd⟩ := h p hp
  exact lc_tup R h0 (fun i H _ => hl i H) hs hd
theorem r_LcR {n : Int} (h1 : -(2 ^ 62) ≤ n) (h2 : n < 2 ^ 62) (h : ∀ p, H p = none → ∃ R : Nat → Hp → Prop, R 0 (upd H p (.lst [])) ∧
    (∀ (i : Nat) H, i < n.toNat → R i H → g (.int (i : Int)) (wipe σ vs) H (LcTurn tt te vs σ p (R (i + 1)))) ∧ ∀ H, R n.toNat H → Q (.ref p) H) : LcR g tt te vs σ Q [.int n] H := by
  refine ⟨n, rfl, h1, h2, fun p hp => ?_⟩
  obtain ⟨R, h0, hs, hd⟩ := h p hp
  refine lc_range (lo := 0) (n := n.toNat) R h0 (fun i H hi q => ?_) hd
  have z := hs i H hi q
  rw [← Int.zero_add (i : Int)] at z
  exact z
theorem r_LcTurn {D : Addr} {N : Hp → Prop} {σ2 : L2.St} (e : wipe σ2 vs = wipe σ vs) (h : tt σ2 H fun b H3 => if b = true then te σ2 H3 (LcEnd D N) else N H3) : LcTurn tt te vs σ D N σ2 H := ⟨e, h⟩
theorem r_yes {R : Bool → Hp → Prop} (h : R true H) : tYes σ H R := h
end
theorem r_in {K : PySem.W.Frag} {a : Addr} {xs : List V} (h : SqL K H a xs ∨ SqT K H a xs) (f1 : flatV x = true) (f2 : xs.all flatV = true) (q : Q (.bl (inV x xs)) H) : rIn K false x (.ref a) H Q :=
  ⟨a, xs, rfl, h, f1, f2, by rw [if_neg Bool.false_ne_true]; exact q⟩
theorem kpW {a : Addr} {xs : List V} {o : HO} (h : H a = some (.lst xs)) : Kp [a] H (upd H a o) :=
  (Kp.refl (M := [a]) fun b m => ⟨xs, by rw [List.mem_singleton.mp m]; exact h⟩).write (by simp)
end
section
variable {X : Cx} {H : Hp} {Q : VK}
def qAbs : List V → Hp → VK → Prop := fun xs H Q => ∃ i, xs = [.int i] ∧ Q (.int (if i < 0 then -i else i)) H
theorem c_abs : CallR X (.builtin "abs") qAbs := call_abs
theorem r_abs {i : Int} (h : Q (.int (if i < 0 then -i else i)) H) : qAbs [.int i] H Q := ⟨i, rfl, h⟩
def qInt : List V → Hp → VK → Prop := fun xs H Q => (∃ i, xs = [.int i] ∧ Q (.int i) H) ∨ ∃ k, xs = [.bl k] ∧ Q (.int (if k then 1 else 0)) H
theorem c_int : CallR X (.type "int") qInt := call_int1
theorem r_int {i : Int} (h : Q (.int i) H) : qInt [.int i] H Q := .inl ⟨i, rfl, h⟩
theorem r_intB {b : Bool} (h : Q (.int (if b then 1 else 0)) H) : qInt [.bl b] H Q := .inr ⟨b, rfl, h⟩
def qLen (K : PySem.W.Frag) : List V → Hp → VK → Prop := fun xs H Q => ∃ x n, xs = [x] ∧ LenV K x H n ∧ Q (.int n) H
theorem c_len : CallR X (.builtin "len") (qLen X.K) := call_len
theorem r_lenL {K : PySem.W.Frag} {a : Addr} {xs : List V} (h : SqL K H a xs) (q : Q (.int (xs.length : Nat)) H) : qLen K [.ref a] H Q := ⟨_, _, rfl, .inl ⟨_, h, rfl⟩, q⟩
theorem r_lenT {K : PySem.W.Frag} {a : Addr} {xs : List V} (h : SqT K H a xs) (q : Q (.int (xs.length : Nat)) H) : qLen K [.ref a] H Q := ⟨_, _, rfl, .inr ⟨_, h, rfl⟩, q⟩
theorem r_lenS {K : PySem.W.Frag} {z : Str} (q : Q (.int (z.length : Nat)) H) (h : z.length ≤ sizeLine) : qLen K [.str z] H Q := ⟨_, _, rfl, ⟨h, rfl⟩, q⟩
def qStr : List V → Hp → VK → Prop := fun xs H Q => (∃ i, xs = [.int i] ∧ i.natAbs.log2 < 1920 ∧ Q (.str (toString i)) H) ∨ ∃ a, xs = [.str a] ∧ Q (.str a) H
theorem r_strI {i : Int} (h : Q (.str (toString i)) H) (l : i.natAbs.log2 < 1920) : qStr [.int i] H Q := .inl ⟨i, rfl, l, h⟩
theorem r_strS {z : Str} (h : Q (.str z) H) : qStr [.str z] H Q := .inr ⟨z, rfl, h⟩
def qTup (K : PySem.W.Frag) : List V → Hp → VK → Prop := fun xs H Q => ∃ p ys, xs = [.ref p] ∧ ((SqL K H p ys ∧ ∀ l, H l = none → Q (.ref l) (upd H l (.tup ys))) ∨ (SqT K H p ys ∧ Q (.ref p) H))
theorem c_tup : CallR X (.type "tuple") (qTup X.K) := call_tuple_of
theorem r_tupL {K : PySem.W.Frag} {a : Addr} {xs : List V} (s : SqL K H a xs) (h : ∀ l, H l = none → Q (.ref l) (upd H l (.tup xs))) : qTup K [.ref a] H Q := ⟨a, xs, rfl, .inl ⟨s, h⟩⟩
end
section
variable {X : Cx} {x : Str} {pos : Pos}
theorem pe_ty {T : String} (hg : Gl X x) (hm : X.mg x = none) (hv : bootBuiltins x = some (.type T)) (hn : x ≠ "__name__" := by decide) (hd : (x == ("__debug__" : Str)) = false := by decide) : PE X (.Name x pos) (tC (.ty T)) := pe_bltn hg hm hv rfl hn hd
theorem pe_gref {a : Addr} (hg : Gl X x) (hm : X.mg x = some (.ref a)) (hd : (x == ("__debug__" : Str)) = false := by decide) : PE X (.Name x pos) (tC (.ref a)) := pe_glob hg hm rfl hd
theorem pe_gint {i : Int} {t : Tok} (hg : Gl X x) (hm : X.mg x = some (.int i t)) (hd : (x == ("__debug__" : Str)) = false := by decide) : PE X (.Name x pos) (tC (.int i)) := pe_glob hg hm ⟨t, rfl⟩ hd
theorem pe_gstr {z : Str} {t : Tok} (hg : Gl X x) (hm : X.mg x = some (.str z t)) (hd : (x == ("__debug__" : Str)) = false := by decide) : PE X (.Name x pos) (tC (.str z)) := pe_glob hg hm ⟨t, rfl⟩ hd
end
def tyD : PyData → String
  | .none => "NoneType"
  | .bool _ => "bool"
  | .int _ => "int"
  | .str _ => "str"
  | .list _ => "list"
  | .tuple _ => "tuple"
  | .dict _ => "dict"
def isaD (d : PyData) (n : String) : Bool := tyD d == n || (tyD d == "bool" && n == "int")
def qIs (K : PySem.W.Frag) : List V → Hp → VK → Prop := fun xs H Q => ∃ (x : V) (d : PyData) (n : String), xs = [x, .ty n] ∧ Dp K H x d ∧
  n ∈ ["int", "bool", "str", "tuple", "list", "dict"] ∧ Q (.bl (isaD d n)) H
theorem tyX_T {K : PySem.W.Frag} {H : Hp} {a : Addr} {xs : List V} (h : SqT K H a xs) : TyX K H (.ref a) (.type "tuple") := by
  rcases h with (h | ⟨o, h⟩) | ⟨o, its, n, h, c, _⟩
  · exact .base (.tup h)
  · exact .fTuple h
  · exact .kTuple h c
section
variable {X : Cx} {H : Hp} {Q : VK}
def types : List String := ["int", "bool", "str", "tuple", "list", "dict"]
theorem kitAll : ∀ t ∈ "NoneType" :: types, ∀ n ∈ types, kitB t n = some (t == n || (t == "bool" && n == "int")) := by decide +kernel
theorem kitD (K : PySem.W.Frag) (d : PyData) (n : String) (h : n ∈ types) : PySem.W.kitOne K (.type (tyD d)) (.type n) = some (isaD d n) := by
  refine kit_ty (kitAll _ ?_ n h)
  cases d <;> simp [tyD, types]
theorem r_isT {K : PySem.W.Frag} {x : V} {d : PyData} {n : String} (h : Dp K H x d) (e : isaD d n = true) (hn : n ∈ types) (q : Q (.bl true) H) : qIs K [x, .ty n] H Q := ⟨x, d, n, rfl, h, hn, by rw [e]; exact q⟩
theorem r_isF {K : PySem.W.Frag} {x : V} {d : PyData} {n : String} (h : Dp K H x d) (e : isaD d n = false) (hn : n ∈ types) (q : Q (.bl false) H) : qIs K [x, .ty n] H Q := ⟨x, d, n, rfl, h, hn, by rw [e]; exact q⟩
end
end Aw
namespace Aw
open PySem PySem.Spec L2
/-- a text of at most n signs -/
structure Sok (x : Str) (n : Nat) : Prop where
  ok : PyData.strOk x = true
  len : x.length ≤ n
theorem Sok.app {x y : Str} {m n : Nat} (a : Sok x m) (b : Sok y n) : Sok (x ++ y) (m + n) := by
  refine ⟨?_, ?_⟩
  · have h1 := a.ok
    have h2 := b.ok
    unfold PyData.strOk at *
    rw [Str.cps_append, Array.all_append, h1, h2]
    rfl
  · rw [Str.length_append]
    have := a.len
    have := b.len
    omega
theorem Sok.mono {x : Str} {m n : Nat} (a : Sok x m) (h : m ≤ n) : Sok x n := ⟨a.ok, Nat.le_trans a.len h⟩
theorem Sok.lit {x : Str} {n : Nat} (h : (PyData.strOk x && decide (x.length ≤ n)) = true) : Sok x n := by
  rw [Bool.and_eq_true, decide_eq_true_eq] at h
  exact ⟨h.1, h.2⟩
theorem Sok.repr {x : Str} {n : Nat} (a : Sok x n) : (reprText x).length ≤ 10 * n + 2 := by
  have h := PySem.StrLaws.reprText_len x (fun c hc => by
    have q := a.ok
    unfold PyData.strOk at q
    rw [Array.all_eq_true_iff_forall_mem] at q
    have := of_decide_eq_true (q c (Array.mem_def.mpr hc))
    omega)
  have := a.len
  omega
/-- small ints as texts -/
theorem Sok.num : ∀ i : Int, -99 ≤ i → i ≤ 99 → Sok (Str.ofString (toString i)) 3 := by
  have h : ∀ n : Fin 199, (PyData.strOk (Str.ofString (toString ((n.val : Int) - 99))) && decide ((Str.ofString (toString ((n.val : Int) - 99))).length ≤ 3)) = true := by
    decide +kernel
  intro i h1 h2
  have q := h ⟨(i + 99).toNat, by omega⟩
  have e : (((i + 99).toNat : Nat) : Int) - 99 = i := by omega
  simp only [e] at q
  exact Sok.lit q
theorem log2_small {i : Int} (h1 : -(2 ^ 64) < i) (h2 : i < 2 ^ 64) : i.natAbs.log2 < 1920 := by
  by_cases h : i.natAbs = 0
  · rw [h]
    decide
  · exact Nat.lt_of_lt_of_le ((Nat.log2_lt h).mpr (show i.natAbs < 2 ^ 64 by omega)) (by decide)
structure Shw (d : PyData) (k n : Nat) : Prop where
  sh : d.showable = true
  nd : d.hasDict = false
  dep : d.depth ≤ k
  len : d.shown.length ≤ n
theorem Shw.mono {d : PyData} {k n k' n' : Nat} (h : Shw d k n) (hk : k ≤ k') (hn : n ≤ n') : Shw d k' n' := ⟨h.sh, h.nd, Nat.le_trans h.dep hk, Nat.le_trans h.len hn⟩
theorem Shw.str {x : Str} {m k : Nat} (h : Sok x m) : Shw (.str x) k (10 * m + 2) :=
  ⟨by rw [PyData.showable], by rw [PyData.hasDict], by rw [PyData.depth]; exact Nat.zero_le _, by rw [PyData.shown]; exact h.repr⟩
theorem Shw.non {k : Nat} : Shw .none k 4 :=
  ⟨by rw [PyData.showable], by rw [PyData.hasDict], by rw [PyData.depth]; exact Nat.zero_le _, by rw [PyData.shown]; decide +kernel⟩
theorem Shw.bool {b : Bool} {k : Nat} : Shw (.bool b) k 5 :=
  ⟨by rw [PyData.showable], by rw [PyData.hasDict], by rw [PyData.depth]; exact Nat.zero_le _, by rw [PyData.shown]; cases b <;> decide +kernel⟩
theorem shownAll_len {ds : List PyData} {k n : Nat} (h : ∀ d ∈ ds, Shw d k n) : PyData.showableAll ds = true ∧ PyData.hasDictAll ds = false ∧ PyData.depthAll ds ≤ k ∧ (PyData.shownAll ds).length = ds.length ∧
    ((PyData.shownAll ds).map (·.length)).sum ≤ ds.length * n := by
  induction ds with
  | nil => exact ⟨by rw [PyData.showableAll], by rw [PyData.hasDictAll], by rw [PyData.depthAll]; exact Nat.zero_le _, by rw [PyData.shownAll]; rfl, by rw [PyData.shownAll]; exact Nat.zero_le _⟩
  | cons d r ih =>
    obtain ⟨a1, a2, a3, a4, a5⟩ := ih fun d hd => h d (List.mem_cons_of_mem _ hd)
    have q := h d (List.mem_cons_self ..)
    refine ⟨by rw [PyData.showableAll, q.sh, a1]; rfl, by rw [PyData.hasDictAll, q.nd, a2]; rfl, by rw [PyData.depthAll]; exact Nat.max_le.mpr ⟨q.dep, a3⟩, by rw [PyData.shownAll, List.length_cons, List.length_cons, a4], ?_⟩
    have := q.len
    rw [PyData.shownAll, List.map_cons, List.sum_cons, List.length_cons, Nat.add_mul, Nat.one_mul]
    omega
theorem Shw.list {ds : List PyData} {k n : Nat} (h : ∀ d ∈ ds, Shw d k n) : Shw (.list ds) (k + 1) (ds.length * (n + 2) + 3) := by
  obtain ⟨a1, a2, a3, a4, a5⟩ := shownAll_len h
  refine ⟨by rw [PyData.showable]; exact a1, by rw [PyData.hasDict]; exact a2, by rw [PyData.depth]; omega, ?_⟩
  rw [PyData.shown]
  have q := listText_len_le (PyData.shownAll ds)
  rw [a4] at q
  rw [Nat.mul_add]
  omega
theorem Shw.tup {ds : List PyData} {k n : Nat} (h : ∀ d ∈ ds, Shw d k n) : Shw (.tuple ds) (k + 1) (ds.length * (n + 2) + 3) := by
  obtain ⟨a1, a2, a3, a4, a5⟩ := shownAll_len h
  refine ⟨by rw [PyData.showable]; exact a1, by rw [PyData.hasDict]; exact a2, by rw [PyData.depth]; omega, ?_⟩
  rw [PyData.shown]
  have q := tupleText_len_le (PyData.shownAll ds)
  rw [a4] at q
  rw [Nat.mul_add]
  omega
structure DtL (K : PySem.W.Frag) (H : Hp) (vs : List V) (ds : List PyData) : Prop where
  len : vs.length = ds.length
  all : ∀ (i : Nat) (v : V) (d : PyData), vs[i]? = some v → ds[i]? = some d → Dt K H v d
theorem DtL.nil {K : PySem.W.Frag} {H : Hp} : DtL K H [] [] := ⟨rfl, fun i v d e => by simp at e⟩
theorem DtL.kp {K : PySem.W.Frag} {M : List Addr} {H H1 : Hp} {vs : List V} {ds : List PyData} (h : DtL K H vs ds) (a : Kp M H H1) : DtL K H1 vs ds := ⟨h.len, fun i v d e e' => (h.all i v d e e').kp a⟩
theorem DtL.snoc {K : PySem.W.Frag} {H : Hp} {vs : List V} {ds : List PyData} {v : V} {d : PyData} (h : DtL K H vs ds) (hv : Dt K H v d) : DtL K H (vs ++ [v]) (ds ++ [d]) := by
  refine ⟨by rw [List.length_append, List.length_append, h.len]; rfl, fun i u e q q' => ?_⟩
  by_cases hi : i < vs.length
  · rw [List.getElem?_append_left hi] at q
    rw [List.getElem?_append_left (by rw [← h.len]; exact hi)] at q'
    exact h.all i u e q q'
  · rw [List.getElem?_append_right (by omega)] at q
    rw [List.getElem?_append_right (by rw [← h.len]; omega), ← h.len] at q'
    have hlt := (List.getElem?_eq_some_iff.mp q).1
    rw [List.length_singleton] at hlt
    obtain h0 : i - vs.length = 0 := by omega
    rw [h0] at q q'
    cases q
    cases q'
    exact hv
theorem DtL.cons {K : PySem.W.Frag} {H : Hp} {vs : List V} {ds : List PyData} {v : V} {d : PyData} (hv : Dt K H v d) (h : DtL K H vs ds) : DtL K H (v :: vs) (d :: ds) := by
  refine ⟨by rw [List.length_cons, List.length_cons, h.len], fun i u e q q' => ?_⟩
  cases i with
  | zero =>
    cases q
    cases q'
    exact hv
  | succ i => exact h.all i u e (by simpa using q) (by simpa using q')
theorem DtL.tup {K : PySem.W.Frag} {H : Hp} {vs : List V} {ds : List PyData} {a : Addr} (h : DtL K H vs ds) (e : H a = some (.tup vs)) : Dt K H (.ref a) (.tuple ds) := .tup (SqT.of e) h.len h.all
section
variable {K : PySem.W.Frag} {H : Hp} {v : V}
theorem Dt.isInt {i : Int} (h : Dt K H v (.int i)) : v = .int i := by cases h; rfl
theorem Dt.isStr {x : Str} (h : Dt K H v (.str x)) : v = .str x := by cases h; rfl
theorem Dt.isNone (h : Dt K H v .none) : v = .non := by cases h; rfl
theorem Dt.isTup {ds : List PyData} (h : Dt K H v (.tuple ds)) : ∃ (a : Addr) (xs : List V), v = .ref a ∧ SqT K H a xs ∧ xs.length = ds.length ∧
    ∀ (i : Nat) (v : V) (d : PyData), xs[i]? = some v → ds[i]? = some d → Dt K H v d := by
  cases h with
  | tup s l q => exact ⟨_, _, rfl, s, l, q⟩
theorem Dt.is0 (h : Dt K H v (.tuple [])) : ∃ a : Addr, v = .ref a ∧ SqT K H a [] := by
  obtain ⟨a, xs, rfl, s, l, q⟩ := h.isTup
  obtain rfl : xs = [] := List.length_eq_zero_iff.mp l
  exact ⟨a, rfl, s⟩
theorem Dt.is1 {d : PyData} (h : Dt K H v (.tuple [d])) : ∃ (a : Addr) (x : V), v = .ref a ∧ SqT K H a [x] ∧ Dt K H x d := by
  obtain ⟨a, xs, rfl, s, l, q⟩ := h.isTup
  match xs, l, s, q with
  | [x], _, s, q => exact ⟨a, x, rfl, s, q 0 x d rfl rfl⟩
theorem Dt.is2 {d e : PyData} (h : Dt K H v (.tuple [d, e])) : ∃ (a : Addr) (x y : V), v = .ref a ∧ SqT K H a [x, y] ∧ Dt K H x d ∧ Dt K H y e := by
  obtain ⟨a, xs, rfl, s, l, q⟩ := h.isTup
  match xs, l, s, q with
  | [x, y], _, s, q => exact ⟨a, x, y, rfl, s, q 0 x d rfl rfl, q 1 y e rfl rfl⟩
theorem Dt.is3 {d e f : PyData} (h : Dt K H v (.tuple [d, e, f])) : ∃ (a : Addr) (x y z : V), v = .ref a ∧ SqT K H a [x, y, z] ∧ Dt K H x d ∧ Dt K H y e ∧ Dt K H z f := by
  obtain ⟨a, xs, rfl, s, l, q⟩ := h.isTup
  match xs, l, s, q with
  | [x, y, z], _, s, q => exact ⟨a, x, y, z, rfl, s, q 0 x d rfl rfl, q 1 y e rfl rfl, q 2 z f rfl rfl⟩
theorem Dt.is4 {d e f g : PyData} (h : Dt K H v (.tuple [d, e, f, g])) : ∃ (a : Addr) (x y z u : V), v = .ref a ∧ SqT K H a [x, y, z, u] ∧ Dt K H x d ∧ Dt K H y e ∧ Dt K H z f ∧ Dt K H u g := by
  obtain ⟨a, xs, rfl, s, l, q⟩ := h.isTup
  match xs, l, s, q with
  | [x, y, z, u], _, s, q => exact ⟨a, x, y, z, u, rfl, s, q 0 x d rfl rfl, q 1 y e rfl rfl, q 2 z f rfl rfl, q 3 u g rfl rfl⟩
theorem Dt.mk0 {a : Addr} (h : H a = some (.tup [])) : Dt K H (.ref a) (.tuple []) := .tup (SqT.of h) rfl fun i v d e => by simp at e
theorem Dt.mk1 {a : Addr} {x : V} {d : PyData} (h : H a = some (.tup [x])) (h0 : Dt K H x d) : Dt K H (.ref a) (.tuple [d]) :=
  .tup (SqT.of h) rfl fun i v d' e e' => by
    match i, e, e' with
    | 0, e, e' => cases e; cases e'; exact h0
theorem Dt.mk2 {a : Addr} {x y : V} {d e : PyData} (h : H a = some (.tup [x, y])) (h0 : Dt K H x d) (h1 : Dt K H y e) : Dt K H (.ref a) (.tuple [d, e]) :=
  .tup (SqT.of h) rfl fun i v d' e e' => by
    match i, e, e' with
    | 0, e, e' => cases e; cases e'; exact h0
    | 1, e, e' => cases e; cases e'; exact h1
theorem Dt.mk3 {a : Addr} {x y z : V} {d e f : PyData} (h : H a = some (.tup [x, y, z])) (h0 : Dt K H x d) (h1 : Dt K H y e) (h2 : Dt K H z f) : Dt K H (.ref a) (.tuple [d, e, f]) :=
  .tup (SqT.of h) rfl fun i v d' e e' => by
    match i, e, e' with
    | 0, e, e' => cases e; cases e'; exact h0
    | 1, e, e' => cases e; cases e'; exact h1
    | 2, e, e' => cases e; cases e'; exact h2
theorem Dt.mk4 {a : Addr} {x y z u : V} {d e f g : PyData} (h : H a = some (.tup [x, y, z, u])) (h0 : Dt K H x d) (h1 : Dt K H y e) (h2 : Dt K H z f) (h3 : Dt K H u g) : Dt K H (.ref a) (.tuple [d, e, f, g]) :=
  .tup (SqT.of h) rfl fun i v d' e e' => by
    match i, e, e' with
    | 0, e, e' => cases e; cases e'; exact h0
    | 1, e, e' => cases e; cases e'; exact h1
    | 2, e, e' => cases e; cases e'; exact h2
    | 3, e, e' => cases e; cases e'; exact h3
end
end Aw
namespace Aw
open PySem PySem.Spec L2
def rNil (K : PySem.W.Frag) (neg : Bool) : R2 := fun x y H Q => ∃ (a b : Addr) (xs : List V), x = .ref a ∧ y = .ref b ∧
  ((SqL K H a xs ∧ SqL K H b []) ∨ (SqT K H a xs ∧ SqT K H b [])) ∧ Q (.bl (xs.isEmpty != neg)) H
section
variable {X : Cx} {H : Hp} {Q : VK}
theorem vals_nil {us : List Value} (r : Vals [] us) : us = [] := by cases r; rfl
theorem op_eqNil (hu : X.A.units + 64 < cLine) : OpR X (compareOp .Eq) (rNil X.K false) := by
  intro pins s σ H x y v u Q I rx ry h
  obtain ⟨a, b, xs, rfl, rfl, h, q⟩ := h
  cases (show v = Value.ref a from rx)
  cases (show u = Value.ref b from ry)
  have hu' : X.A.units < cLine := by omega
  rcases h with ⟨ha, hb⟩ | ⟨ha, hb⟩
  · obtain ⟨its, r, ⟨o, n, e, c, _, d⟩, _⟩ := I.list ha
    obtain ⟨its2, r2, ⟨o2, n2, e2, c2, _, d2⟩, _⟩ := I.list hb
    obtain rfl := vals_nil r2
    have hl : s.heap.IsList a its.toArray := ⟨o, e, c, n, d⟩
    have hl2 : s.heap.IsList b #[] := ⟨o2, e2, c2, n2, d2⟩
    cases xs with
    | nil =>
      obtain rfl := vals_nil r
      exact PySem.SeqAt.eq_listAt (e := fun _ => true) hl hl2 rfl hu' (fun j h1 => absurd h1 (by simp)) ⟨.bl true, H, I, rfl, q⟩
    | cons x xs =>
      cases r with
      | cons r0 r1 => exact PySem.SeqAt.eq_list_lengthsAt hl hl2 (by simp) hu' ⟨.bl false, H, I, rfl, q⟩
  · obtain ⟨its, r, ⟨o, e, c, n, d⟩, _⟩ := I.tuple ha
    obtain ⟨its2, r2, ⟨o2, e2, c2, n2, d2⟩, _⟩ := I.tuple hb
    obtain rfl := vals_nil r2
    have hl : s.heap.IsTuple a its.toArray := ⟨o, e, c, n, d⟩
    have hl2 : s.heap.IsTuple b #[] := ⟨o2, e2, c2, n2, d2⟩
    refine PySem.SeqAt.eq_tupleAt (e := fun _ => true) hl hl2 hu' (fun j h1 h2 => absurd h2 (by simp)) ?_
    cases xs with
    | nil =>
      obtain rfl := vals_nil r
      exact ⟨.bl true, H, I, rfl, q⟩
    | cons x xs =>
      cases r with
      | cons r0 r1 => exact ⟨.bl false, H, I, rfl, q⟩
theorem op_neNil (hu : X.A.units + 64 < cLine) : OpR X (compareOp .NotEq) (rNil X.K true) := by
  intro pins s σ H x y v u Q I rx ry h
  obtain ⟨a, b, xs, rfl, rfl, h, q⟩ := h
  cases (show v = Value.ref a from rx)
  cases (show u = Value.ref b from ry)
  have hu' : X.A.units < cLine := by omega
  rcases h with ⟨ha, hb⟩ | ⟨ha, hb⟩
  · obtain ⟨its, r, ⟨o, n, e, c, _, d⟩, _⟩ := I.list ha
    obtain ⟨its2, r2, ⟨o2, n2, e2, c2, _, d2⟩, _⟩ := I.list hb
    obtain rfl := vals_nil r2
    have hl : s.heap.IsList a its.toArray := ⟨o, e, c, n, d⟩
    have hl2 : s.heap.IsList b #[] := ⟨o2, e2, c2, n2, d2⟩
    cases xs with
    | nil =>
      obtain rfl := vals_nil r
      exact PySem.SeqAt.RcNeAt.lists (e := fun _ => true) hl hl2 rfl hu' (fun j h1 => absurd h1 (by simp)) _ _ _ _ ⟨.bl false, H, I, rfl, q⟩
    | cons x xs =>
      cases r with
      | cons r0 r1 => exact PySem.SeqAt.RcNeAt.lists_lengths hl hl2 (by simp) hu' _ _ _ _ ⟨.bl true, H, I, rfl, q⟩
  · obtain ⟨its, r, ⟨o, e, c, n, d⟩, _⟩ := I.tuple ha
    obtain ⟨its2, r2, ⟨o2, e2, c2, n2, d2⟩, _⟩ := I.tuple hb
    obtain rfl := vals_nil r2
    have hl : s.heap.IsTuple a its.toArray := ⟨o, e, c, n, d⟩
    have hl2 : s.heap.IsTuple b #[] := ⟨o2, e2, c2, n2, d2⟩
    refine PySem.SeqAt.RcNeAt.tuples (e := fun _ => true) hl hl2 hu' (fun j h1 h2 => absurd h2 (by simp)) _ _ _ _ ?_
    cases xs with
    | nil =>
      obtain rfl := vals_nil r
      exact ⟨.bl false, H, I, rfl, q⟩
    | cons x xs =>
      cases r with
      | cons r0 r1 => exact ⟨.bl true, H, I, rfl, q⟩
theorem r_eqNL {K : PySem.W.Frag} {a b : Addr} {xs : List V} (h1 : SqL K H a xs) (h2 : SqL K H b []) (q : Q (.bl xs.isEmpty) H) : rNil K false (.ref a) (.ref b) H Q := ⟨a, b, xs, rfl, rfl, .inl ⟨h1, h2⟩, by simpa using q⟩
theorem r_eqNT {K : PySem.W.Frag} {a b : Addr} {xs : List V} (h1 : SqT K H a xs) (h2 : SqT K H b []) (q : Q (.bl xs.isEmpty) H) : rNil K false (.ref a) (.ref b) H Q := ⟨a, b, xs, rfl, rfl, .inr ⟨h1, h2⟩, by simpa using q⟩
theorem r_neNL {K : PySem.W.Frag} {a b : Addr} {xs : List V} (h1 : SqL K H a xs) (h2 : SqL K H b []) (q : Q (.bl (!xs.isEmpty)) H) : rNil K true (.ref a) (.ref b) H Q := ⟨a, b, xs, rfl, rfl, .inl ⟨h1, h2⟩, by simpa using q⟩
theorem r_neNT {K : PySem.W.Frag} {a b : Addr} {xs : List V} (h1 : SqT K H a xs) (h2 : SqT K H b []) (q : Q (.bl (!xs.isEmpty)) H) : rNil K true (.ref a) (.ref b) H Q := ⟨a, b, xs, rfl, rfl, .inr ⟨h1, h2⟩, by simpa using q⟩
end
def keyD : Key → PyData
  | .inl i => .int i
  | .inr x => .str x
/-- data, the lists and dicts of which are none of M -/
inductive Dw (M : List Addr) (K : PySem.W.Frag) (H : Hp) : V → PyData → Prop
  | non : Dw M K H .non .none
  | bl (b : Bool) : Dw M K H (.bl b) (.bool b)
  | int (i : Int) : Dw M K H (.int i) (.int i)
  | str (x : Str) : Dw M K H (.str x) (.str x)
  | tup {a : Addr} {xs : List V} {ds : List PyData} : SqT K H a xs → xs.length = ds.length →
      (∀ (i : Nat) (v : V) (d : PyData), xs[i]? = some v → ds[i]? = some d → Dw M K H v d) → Dw M K H (.ref a) (.tuple ds)
  | lst {a : Addr} {xs : List V} {ds : List PyData} : H a = some (.lst xs) → a ∉ M → xs.length = ds.length →
      (∀ (i : Nat) (v : V) (d : PyData), xs[i]? = some v → ds[i]? = some d → Dw M K H v d) → Dw M K H (.ref a) (.list ds)
  | dct {a : Addr} {kvs : List (Key × V)} {ps : List (PyData × PyData)} : H a = some (.dK kvs) → a ∉ M → kvs.length = ps.length →
      (∀ (i : Nat) (kv : Key × V) (p : PyData × PyData), kvs[i]? = some kv → ps[i]? = some p → p.1 = keyD kv.1) →
      (∀ (i : Nat) (kv : Key × V) (p : PyData × PyData), kvs[i]? = some kv → ps[i]? = some p → Dw M K H kv.2 p.2) → Dw M K H (.ref a) (.dict ps)
section
variable {K : PySem.W.Frag} {M : List Addr} {H H1 : Hp} {v : V} {d : PyData}
theorem Dw.kp (a : Kp M H H1) (h : Dw M K H v d) : Dw M K H1 v d := by
  induction h with
  | non => exact .non
  | bl b => exact .bl b
  | int i => exact .int i
  | str x => exact .str x
  | tup s l _ ih => exact .tup (sqT_kp a s) l ih
  | lst e n l _ ih => exact .lst (a.get e n) n l ih
  | dct e n l q _ ih => exact .dct (a.get e n) n l q ih
theorem Dw.kp0 (a : Kp [] H H1) (h : Dw M K H v d) : Dw M K H1 v d := by
  induction h with
  | non => exact .non
  | bl b => exact .bl b
  | int i => exact .int i
  | str x => exact .str x
  | tup s l _ ih => exact .tup (sqT_kp a s) l ih
  | lst e n l _ ih => exact .lst (a.get e (by simp)) n l ih
  | dct e n l q _ ih => exact .dct (a.get e (by simp)) n l q ih
theorem Dw.sub {M' : List Addr} (s : ∀ a ∈ M', a ∈ M) (h : Dw M K H v d) : Dw M' K H v d := by
  induction h with
  | non => exact .non
  | bl b => exact .bl b
  | int i => exact .int i
  | str x => exact .str x
  | tup s l _ ih => exact .tup s l ih
  | lst e n l _ ih => exact .lst e (fun m => n (s _ m)) l ih
  | dct e n l q _ ih => exact .dct e (fun m => n (s _ m)) l q ih
theorem Dw.nil (h : Dw M K H v d) : Dw [] K H v d := h.sub (by simp)
theorem Dt.dw (h : Dt K H v d) : Dw M K H v d := by
  induction h with
  | non => exact .non
  | bl b => exact .bl b
  | int i => exact .int i
  | str x => exact .str x
  | tup s l _ ih => exact .tup s l ih
theorem Dw.isTup {ds : List PyData} (h : Dw M K H v (.tuple ds)) : ∃ (a : Addr) (xs : List V), v = .ref a ∧ SqT K H a xs ∧ xs.length = ds.length ∧
    ∀ (i : Nat) (v : V) (d : PyData), xs[i]? = some v → ds[i]? = some d → Dw M K H v d := by
  cases h with
  | tup s l q => exact ⟨_, _, rfl, s, l, q⟩
theorem Dw.isStr {x : Str} (h : Dw M K H v (.str x)) : v = .str x := by cases h; rfl
theorem Dw.isInt {i : Int} (h : Dw M K H v (.int i)) : v = .int i := by cases h; rfl
theorem Dw.ty (h : Dw M K H v d) : TyX K H v (.type (tyD d)) := by
  cases h with
  | non => exact .base .non
  | bl b => exact .base (.bl b)
  | int i => exact .base (.int i)
  | str z => exact .base (.str z)
  | tup s _ _ => exact tyX_T s
  | lst e _ _ _ => exact .base (.lst e)
  | dct e _ _ _ _ => exact .base (.dK e)
end
def qIs2 (K : PySem.W.Frag) : List V → Hp → VK → Prop := fun xs H Q => ∃ (x : V) (d : PyData) (n : String), xs = [x, .ty n] ∧ TyX K H x (.type (tyD d)) ∧
  n ∈ types ∧ Q (.bl (isaD d n)) H
theorem c_is2 {X : Cx} : CallR X (.builtin "isinstance") (qIs2 X.K) := by
  intro pins s σ H xs us Q I r h
  obtain ⟨x, d, n, rfl, hd, hn, q⟩ := h
  exact call_isi pins s σ H _ us Q I r ⟨x, _, _, _, _, rfl, .ty n, hd, kitD X.K d n hn, q⟩
section
variable {K : PySem.W.Frag} {M : List Addr} {H : Hp} {Q : VK} {x : V} {d : PyData} {n : String}
theorem r_is2 (h : Dw M K H x d) (hn : n ∈ types) (q : Q (.bl (isaD d n)) H) : qIs2 K [x, .ty n] H Q := ⟨x, d, n, rfl, h.ty, hn, q⟩
theorem r_is2T (h : Dw M K H x d) (e : isaD d n = true) (hn : n ∈ types) (q : Q (.bl true) H) : qIs2 K [x, .ty n] H Q := ⟨x, d, n, rfl, h.ty, hn, by rw [e]; exact q⟩
theorem r_is2F (h : Dw M K H x d) (e : isaD d n = false) (hn : n ∈ types) (q : Q (.bl false) H) : qIs2 K [x, .ty n] H Q := ⟨x, d, n, rfl, h.ty, hn, by rw [e]; exact q⟩
end
theorem sign_in (x : Str) (c : Nat) : (!(Builtin.Str.occurrences x ⟨#[c]⟩ 0 x.length 1).isEmpty) = decide (c ∈ x.cps.toList) := StrLaws.found_one x c
def rInC : R2 := fun x y H Q => ∃ (c : Nat) (z : Str), x = .str ⟨#[c]⟩ ∧ y = .str z ∧ Q (.bl (decide (c ∈ z.cps.toList))) H
def rNotInC : R2 := fun x y H Q => ∃ (c : Nat) (z : Str), x = .str ⟨#[c]⟩ ∧ y = .str z ∧ Q (.bl (!decide (c ∈ z.cps.toList))) H
section
variable {X : Cx} {H : Hp} {Q : VK} {σ : L2.St}
theorem op_notinC : OpR X (compareOp .NotIn) rNotInC := by
  intro pins s σ H x y v u Q I rx ry h
  obtain ⟨c, z, rfl, rfl, q⟩ := h
  exact op_notin_str pins s σ H _ _ v u Q I rx ry ⟨_, _, rfl, rfl, by rw [sign_in]; exact q⟩
theorem r_inC {c : Nat} {z : Str} (q : Q (.bl (decide (c ∈ z.cps.toList))) H) : rInC (.str ⟨#[c]⟩) (.str z) H Q := ⟨c, z, rfl, rfl, q⟩
theorem r_notinC {c : Nat} {z : Str} (q : Q (.bl (!decide (c ∈ z.cps.toList))) H) : rNotInC (.str ⟨#[c]⟩) (.str z) H Q := ⟨c, z, rfl, rfl, q⟩
def RevL (K : PySem.W.Frag) (Q : VK) : V → Hp → Prop := fun x H1 => ∃ a xs, x = .ref a ∧ SqL K H1 a xs ∧ ∀ p, H1 p = none → Q (.ref p) (upd H1 p (.lst xs.reverse))
theorem r_revL {K : PySem.W.Frag} {te : TE} (h : te σ H (RevL K Q)) : tRevL K te σ H Q := h
theorem r_RevL {K : PySem.W.Frag} {a : Addr} {xs : List V} (s : SqL K H a xs) (h : ∀ p, H p = none → Q (.ref p) (upd H p (.lst xs.reverse))) : RevL K Q (.ref a) H := ⟨a, xs, rfl, s, h⟩
theorem r_pop {a : Addr} {xs : List V} {y : V} (h : H a = some (.lst (xs ++ [y]))) (q : Q y (upd H a (.lst xs))) : rPop (.ref a) [] H Q :=
  ⟨a, _, y, rfl, rfl, h, by simp, by rw [List.dropLast_concat]; exact q⟩
def LcS (g : TG) (tt : TT) (te : TE) (vs : List Nat) (σ : L2.St) (Q : VK) : V → Hp → Prop := fun v H1 => ∃ x, v = .str x ∧ LcTurns (Its x) g tt te vs σ Q H1
section
variable {g : TG} {tt : TT} {te ti : TE} {vs : List Nat}
theorem r_lcS (h : ti σ H (LcS g tt te vs σ Q)) : tLc (iStr ti) g tt te vs σ H Q := h
theorem r_LcS {x : Str} (h : ∀ p, H p = none → ∃ R : Nat → Hp → Prop, R 0 (upd H p (.lst [])) ∧
    (∀ (i : Nat) (c : Nat) H, x.cps.toList[i]? = some c → R i H → g (.str ⟨#[c]⟩) (wipe σ vs) H (LcTurn tt te vs σ p (R (i + 1)))) ∧ ∀ H, R x.cps.toList.length H → Q (.ref p) H) : LcS g tt te vs σ Q (.str x) H := by
  refine ⟨x, rfl, fun p hp => ?_⟩
  obtain ⟨R, h0, hs, hd⟩ := h p hp
  refine ⟨fun i m H' => i + m = x.cps.size ∧ R i H', ⟨x.cps.size, by omega, h0⟩, fun i m H' ⟨e, r⟩ => ?_⟩
  by_cases hi : i < x.cps.size
  · refine .inr ⟨hi, R (i + 1), fun H2 r2 => ⟨m - 1, by omega, by omega, r2⟩, fun v H2 hy => ?_⟩
    obtain ⟨rfl, c, hc, rfl⟩ := hy
    exact hs i c _ (by rw [Array.getElem?_toList]; exact hc) r
  · refine .inl ⟨by show x.cps.size ≤ i; omega, hd H' ?_⟩
    have e : i = x.cps.toList.length := by rw [Array.length_toList]; omega
    rw [← e]
    exact r
/-- the signs of a text that are not f -/
theorem r_LcSf {x : Str} {f : Nat → Bool} {i : Nat} (hz : x.length ≤ 16777216) (ht : ∀ (c : Nat) (H' : Hp) (R : Bool → Hp → Prop), R (f c) H' → tt ((wipe σ vs).set i (some (.str ⟨#[c]⟩))) H' R)
    (he : ∀ (c : Nat) (H' : Hp) (R : VK), R (.str ⟨#[c]⟩) H' → te ((wipe σ vs).set i (some (.str ⟨#[c]⟩))) H' R) (hw : ∀ v : V, wipe ((wipe σ vs).set i (some v)) vs = wipe σ vs)
    (h : ∀ p, H p = none → Q (.ref p) (upd H p (.lst ((x.cps.toList.filter f).map fun c => V.str ⟨#[c]⟩)))) : LcS (gName i) tt te vs σ Q (.str x) H := by
  refine r_LcS fun p hp => ⟨fun n H' => H' = upd H p (.lst (((x.cps.toList.take n).filter f).map fun c => V.str ⟨#[c]⟩)), rfl, ?_, ?_⟩
  · rintro n c H' hc rfl
    refine r_name (r_LcTurn (hw _) (ht c _ _ ?_))
    have htk : x.cps.toList.take (n + 1) = x.cps.toList.take n ++ [c] := by rw [List.take_add_one, hc]; rfl
    cases hf : f c with
    | true =>
      refine ifT (he c _ _ (r_LcEnd upd_same ?_ ?_))
      · rw [List.length_map, sizeLine_eq]
        have a := List.length_filter_le f (x.cps.toList.take n)
        rw [List.length_take] at a
        have b := (List.getElem?_eq_some_iff.mp hc).1
        have e : x.cps.toList.length = x.length := by rw [Array.length_toList]; rfl
        omega
      · show _ = upd H p (.lst (((x.cps.toList.take (n + 1)).filter f).map fun c => V.str ⟨#[c]⟩))
        rw [htk, List.filter_append, List.filter_cons_of_pos (by exact hf), List.filter_nil, List.map_append]
        funext b
        by_cases hb : b = p
        · rw [hb, upd_same, upd_same]
          rfl
        · rw [upd_ne hb, upd_ne hb, upd_ne hb]
    | false =>
      refine ifF ?_
      show _ = upd H p (.lst (((x.cps.toList.take (n + 1)).filter f).map fun c => V.str ⟨#[c]⟩))
      rw [htk, List.filter_append, List.filter_cons_of_neg (by rw [hf]; exact Bool.false_ne_true), List.filter_nil, List.append_nil]
  · rintro H' rfl
    rw [List.take_length]
    exact h p hp
end
theorem r_while {c : TT} {tb : TS} {D : Ends} (Pv : Nat → L2.St → Hp → Prop) (m : Nat) (h0 : Pv m σ H)
    (hs : ∀ m σ H, Pv m σ H → c σ H fun b H1 => if b = true then ∃ N : L2.St → Hp → Prop, (∀ σ' H', N σ' H' → ∃ m', m' < m ∧ Pv m' σ' H') ∧ tb { D with nx := N, ct := N, bk := D.nx } σ H1 else D.nx σ H1) : tWhile c tb D σ H :=
  ⟨Pv, ⟨m, h0⟩, hs⟩
theorem r_turn {tb : TS} {D : Ends} {Pv : Nat → L2.St → Hp → Prop} {m : Nat} (h : tb { D with nx := fun σ' H' => ∃ m', m' < m ∧ Pv m' σ' H', ct := fun σ' H' => ∃ m', m' < m ∧ Pv m' σ' H', bk := D.nx } σ H) :
    ∃ N : L2.St → Hp → Prop, (∀ σ' H', N σ' H' → ∃ m', m' < m ∧ Pv m' σ' H') ∧ tb { D with nx := N, ct := N, bk := D.nx } σ H := ⟨_, fun _ _ z => z, h⟩
def DG2 (a : Addr) (Q : VK) : V → V → Hp → Prop := fun y z H3 => ∃ o, DGet H3 a y o ∧ Q (o.getD z) H3
def DG2a (ty tx : TE) (σ : L2.St) (Q : VK) : V → Hp → Prop := fun x H1 => ∃ a, x = .ref a ∧ IsD H1 a ∧ ty σ H1 fun y H2 => tx σ H2 fun z H3 => DG2 a Q y z H3
theorem r_dget2 {td ty tx : TE} (h : td σ H (DG2a ty tx σ Q)) : tDGet2 td ty tx σ H Q := h
theorem r_DG2a {ty tx : TE} {a : Addr} {kvs : List (Key × V)} (e : H a = some (.dK kvs)) (h : ty σ H fun y H2 => tx σ H2 fun z H3 => DG2 a Q y z H3) : DG2a ty tx σ Q (.ref a) H := ⟨a, rfl, .inl ⟨kvs, .inl e⟩, h⟩
theorem r_DG2 {a : Addr} {kvs : List (Key × V)} {z : V} {x : Str} (e : H a = some (.dK kvs)) (q : Q ((valV kvs (Sum.inr x)).getD z) H) : DG2 a Q (.str x) z H := ⟨_, DGet.k (k := Sum.inr x) e, q⟩
section
variable {K : PySem.W.Frag} {g : TG} {tt : TT} {te : TE} {ts : TA} {vs : List Nat} {tb : TS} {D : Ends}
def LcR2 (g : TG) (tt : TT) (te : TE) (vs : List Nat) (σ : L2.St) (Q : VK) : List V → Hp → Prop := fun us H1 => ∃ i j : Int, us = [.int i, .int j] ∧ (-(2 ^ 62) ≤ i ∧ i < 2 ^ 62 ∧ -(2 ^ 62) ≤ j ∧ j < 2 ^ 62) ∧ LcTurns (Itr i (j - i).toNat) g tt te vs σ Q H1
theorem r_lcR2 (h : ts σ H (LcR2 g tt te vs σ Q)) : tLc (iRng2 ts) g tt te vs σ H Q := h
def ForE (K : PySem.W.Frag) (g : TG) (tb : TS) (D : Ends) (σ : L2.St) : List V → Hp → Prop := fun us H1 => ∃ a xs, us = [.ref a] ∧ SqL K H1 a xs ∧ Turns (Ite K a) g tb D σ H1
theorem r_forE (h : ts σ H (ForE K g tb D σ)) : tFor (iEnum K ts) g tb D σ H := by
  refine cast ?_ h
  rfl
end
theorem ix_tupK {X : Cx} {K : PySem.W.Frag} (h : X.K = K) : IxR X (rIxT K) := by
  subst h
  exact ix_tup
end
/-- an expression that makes data and keeps all that is there -/
def CD (K : PySem.W.Frag) (σ : L2.St) (H0 : Hp) (te : TE) (d : PyData) : Prop := ∀ (H : Hp) (Q : VK), Kp [] H0 H → (∀ H' v, Kp [] H H' → Dt K H' v d → Q v H') → te σ H Q
def CDs (K : PySem.W.Frag) (σ : L2.St) (H0 : Hp) (ts : TA) (ds : List PyData) : Prop := ∀ (H : Hp) (R : List V → Hp → Prop), Kp [] H0 H → (∀ H' vs, Kp [] H H' → DtL K H' vs ds → R vs H') → ts σ H R
section
variable {K : PySem.W.Frag} {σ : L2.St} {H0 : Hp} {te : TE} {ts : TA} {d : PyData} {ds : List PyData}
theorem cd_str {x : Str} : CD K σ H0 (tC (.str x)) (.str x) := fun H Q _ h => h H _ Kp.nil (.str x)
theorem cd_int {x : Int} : CD K σ H0 (tC (.int x)) (.int x) := fun H Q _ h => h H _ Kp.nil (.int x)
theorem cd_non : CD K σ H0 (tC .non) .none := fun H Q _ h => h H _ Kp.nil .non
theorem cd_var {i : Nat} {v : V} (e : σ[i]? = some (some v)) (hv : Dt K H0 v d) : CD K σ H0 (tVar i) d := fun H Q k h => ⟨v, e, h H _ Kp.nil (hv.kp k)⟩
theorem cds_nil : CDs K σ H0 tNil [] := fun H R _ h => h H _ Kp.nil DtL.nil
theorem cds_cons (a : CD K σ H0 te d) (b : CDs K σ H0 ts ds) : CDs K σ H0 (tCons te ts) (d :: ds) := fun H R k h =>
  a H _ k fun H1 v k1 hv => b H1 _ (k.trans k1) fun H2 vs k2 hs => h H2 (v :: vs) (k1.trans k2) (DtL.cons (hv.kp k2) hs)
theorem cd_tup (b : CDs K σ H0 ts ds) (hz : ds.length ≤ 16777216) : CD K σ H0 (tTup ts) (.tuple ds) := fun H Q k h =>
  b H _ k fun H1 vs k1 hs => ⟨by rw [hs.len, sizeLine_eq]; exact hz, fun p hp => h _ _ (k1.new hp) ((hs.kp (Kp.nil.new hp)).tup upd_same)⟩
theorem CD.use {H : Hp} {Q : VK} (a : CD K σ H te d) (h : ∀ H' v, Kp [] H H' → Dt K H' v d → Q v H') : te σ H Q := a H Q Kp.nil h
theorem CDs.use {H : Hp} {R : List V → Hp → Prop} (a : CDs K σ H ts ds) (h : ∀ H' vs, Kp [] H H' → DtL K H' vs ds → R vs H') : ts σ H R := a H R Kp.nil h
end
theorem DtL.app {K : PySem.W.Frag} {H : Hp} {vs us : List V} {ds es : List PyData} (h : DtL K H vs ds) (g : DtL K H us es) : DtL K H (vs ++ us) (ds ++ es) := by
  refine ⟨by rw [List.length_append, List.length_append, h.len, g.len], fun i u e q q' => ?_⟩
  by_cases hi : i < vs.length
  · rw [List.getElem?_append_left hi] at q
    rw [List.getElem?_append_left (by rw [← h.len]; exact hi)] at q'
    exact h.all i u e q q'
  · rw [List.getElem?_append_right (by omega)] at q
    rw [List.getElem?_append_right (by rw [← h.len]; omega), ← h.len] at q'
    exact g.all _ u e q q'
theorem DtL.rep {K : PySem.W.Frag} {H : Hp} {vs : List V} {ds : List PyData} (h : DtL K H vs ds) : ∀ n : Nat, DtL K H (List.replicate n vs).flatten (List.replicate n ds).flatten
  | 0 => DtL.nil
  | n + 1 => by
    rw [List.replicate_succ, List.replicate_succ, List.flatten_cons, List.flatten_cons]
    exact h.app (DtL.rep h n)
theorem Dt.items {K : PySem.W.Frag} {H : Hp} {v : V} {ds : List PyData} (h : Dt K H v (.tuple ds)) : ∃ (a : Addr) (xs : List V), v = .ref a ∧ SqT K H a xs ∧ DtL K H xs ds := by
  obtain ⟨a, xs, e, s, l, q⟩ := h.isTup
  exact ⟨a, xs, e, s, l, q⟩
theorem op_neNilK {X : Cx} {K : PySem.W.Frag} (h : X.K = K) (hu : X.A.units + 64 < cLine) : OpR X (compareOp .NotEq) (rNil K true) := by
  subst h
  exact op_neNil hu
end Aw
namespace Aw
open PySem PySem.Spec L2
section
variable {X : Cx} {pins : List (Addr × Obj)} {σ : L2.St} {H : Hp} {s : Shared}
theorem readsAll_of {h : Heap} : ∀ {xs : List V} {ds : List PyData} {its : List Value}, xs.length = ds.length → Vals xs its →
    (∀ (i : Nat) (v : V) (d : PyData), xs[i]? = some v → ds[i]? = some d → ∀ u, RelV v u → ∃ as, Reads h u d as ∧ sysModules ∉ as) → ∃ as, ReadsAll h its ds as ∧ sysModules ∉ as
  | [], [], _, _, r, _ => by
    cases r
    exact ⟨[], .nil, by simp⟩
  | x :: xs, d :: ds, _, l, r, f => by
    cases r with
    | cons r0 r1 =>
      obtain ⟨as, a1, a2⟩ := f 0 x d rfl rfl _ r0
      obtain ⟨bs, b1, b2⟩ := readsAll_of (by simpa using l) r1 fun i v d e e' => f (i + 1) v d (by simpa using e) (by simpa using e')
      exact ⟨as ++ bs, .cons a1 b1, fun m => (List.mem_append.mp m).elim a2 b2⟩
  | [], _ :: _, _, l, _, _ => by cases l
  | _ :: _, [], _, l, _, _ => by cases l
theorem Dw.reads {M : List Addr} {v : V} {d : PyData} (I : Inv X pins σ H s) (hM : H sysModules = none) (h : Dw M X.K H v d) : ∀ u, RelV v u → ∃ as, Reads s.heap u d as ∧ sysModules ∉ as := by
  induction h with
  | non => intro u r; cases r; exact ⟨_, Reads.none, by simp⟩
  | bl b => intro u r; cases r; exact ⟨_, Reads.bool b, by simp⟩
  | int i => intro u r; obtain ⟨t, rfl⟩ := r; exact ⟨_, Reads.int i t, by simp⟩
  | str x => intro u r; obtain ⟨t, rfl⟩ := r; exact ⟨_, Reads.str x t, by simp⟩
  | tup hs l _ ih =>
    intro u r
    cases r
    obtain ⟨its, rv, ⟨o, ho, hc, n, hd⟩, _⟩ := I.tuple hs
    obtain ⟨as, a1, a2⟩ := readsAll_of l rv ih
    exact ⟨_, Reads.tuple ho hc hd a1, a2⟩
  | @lst a xs ds he _ l _ ih =>
    intro u r
    cases r
    obtain ⟨its, rv, ⟨o, n, ho, hc, _, hd⟩, _⟩ := I.list (SqL.of he)
    obtain ⟨as, a1, a2⟩ := readsAll_of l rv ih
    refine ⟨_, Reads.list ho hc hd a1, fun m => ?_⟩
    rcases List.mem_cons.mp m with z | z
    · rw [z, he] at hM
      cases hM
    · exact a2 z
  | @dct a kvs ps he _ l hk _ ih =>
    intro u r
    cases r
    obtain ⟨_, hsm, vs, kv, o, es, ep, ho, hx, hd, _, pr, _⟩ := dk_of I.hok he
    have keys : ∀ {es : List DictEntry} {kvs : List (Key × V)} {vs : List (Key × Value)} {ps : List (PyData × PyData)}, PySem.Pairs (mixKind X.prog X.w) es vs → KV kvs vs → kvs.length = ps.length →
        (∀ (i : Nat) (kv : Key × V) (p : PyData × PyData), kvs[i]? = some kv → ps[i]? = some p → p.1 = keyD kv.1) →
        (∀ (i : Nat) (kv : Key × V) (p : PyData × PyData), kvs[i]? = some kv → ps[i]? = some p → ∀ u, RelV kv.2 u → ∃ as, Reads s.heap u p.2 as ∧ sysModules ∉ as) →
        (∃ as, ReadsAll s.heap (es.map (·.key)) (ps.map (·.1)) as ∧ sysModules ∉ as) ∧ (∃ as, ReadsAll s.heap (es.map (·.val)) (ps.map (·.2)) as ∧ sysModules ∉ as) := by
      intro es kvs vs ps pr
      induction pr generalizing kvs ps with
      | nil =>
        intro kv l hk ih
        cases kv
        have : ps = [] := List.length_eq_zero_iff.mp l.symm
        subst this
        exact ⟨⟨[], .nil, by simp⟩, ⟨[], .nil, by simp⟩⟩
      | @cons e q es qs h1 h2 h3 ihp =>
        intro kv l hk ih
        cases kv with
        | @cons p q' kvs' _ hpq hr =>
        cases ps with
        | nil => cases l
        | cons pp ps =>
          obtain ⟨⟨as, a1, a2⟩, ⟨bs, b1, b2⟩⟩ := ihp hr (by simpa using l) (fun i kv p e e' => hk (i + 1) kv p (by simpa using e) (by simpa using e')) (fun i kv p e e' => ih (i + 1) kv p (by simpa using e) (by simpa using e'))
          have hk0 := hk 0 _ _ rfl rfl
          obtain ⟨e1, e2⟩ := hpq
          obtain ⟨cs, c1, c2⟩ := ih 0 _ _ rfl rfl _ e2
          refine ⟨⟨[] ++ as, ?_, by simpa using a2⟩, ⟨cs ++ bs, ?_, fun m => (List.mem_append.mp m).elim c2 b2⟩⟩
          · refine ReadsAll.cons ?_ a1
            show Reads s.heap e.key pp.1 []
            rw [hk0, e1]
            rcases keyIs_shape h1 with ⟨i, t, z1, z2⟩ | ⟨x, t, z1, z2⟩
            · rw [z1, z2]
              exact Reads.int i t
            · rw [z1, z2]
              exact Reads.str x t
          · refine ReadsAll.cons ?_ b1
            show Reads s.heap e.val pp.2 cs
            rw [h2]
            exact c1
    obtain ⟨⟨as, a1, a2⟩, ⟨bs, b1, b2⟩⟩ := keys pr kv l hk ih
    refine ⟨_, Reads.dict ho hx.1 hd a1 b1, fun m => ?_⟩
    rcases List.mem_append.mp m with m | m
    · rcases List.mem_cons.mp m with z | z
      · rw [← z] at hsm
        exact absurd hsm (by decide)
      · exact a2 z
    · exact b2 m
end
/-- data that is shown, with dicts -/
structure ShwD (d : PyData) (k n : Nat) : Prop where
  sh : d.showable = true
  dep : d.depth ≤ k
  len : d.shown.length ≤ n
theorem Shw.toD {d : PyData} {k n : Nat} (h : Shw d k n) : ShwD d k n := ⟨h.sh, h.dep, h.len⟩
def qRepr3 (K : PySem.W.Frag) : List V → Hp → VK → Prop := fun xs H Q => ∃ x d, xs = [x] ∧
    Dw [] K H x d ∧ d.showable = true ∧ d.depth ≤ 100 ∧ d.shown.length ≤ sizeLine ∧ Q (.str d.shown) H
theorem c_repr3 {X : Cx} {k : Nat} (hr : RoomG k X.A) (hM : ∃ mm, X.base.Ns sysModules mm) : CallR X (.builtin "repr") (qRepr3 X.K) := by
  intro pins s σ H xs us Q I r h
  obtain ⟨x, d, rfl, hd, h1, h3, h4, q⟩ := h
  have hS : H sysModules = none := by
    obtain ⟨mm, o, es, ep, e, _⟩ := hM
    exact (I.bs _ _ e).2
  have go : ∀ a : Addr, x = .ref a → wpAny (model X.prog X.w) X.A (call (.builtin "repr") us) (EP X pins σ Q) X.xe s := by
    intro a e
    subst e
    obtain ⟨u, rfl, r1⟩ := vals1 r
    cases (show u = Value.ref a from r1)
    obtain ⟨as, rd, hn⟩ := hd.reads I hS _ r1
    have hu := hr.r.un
    refine repr_of_reads' rd h1 (fun _ => hn) hr.g (by omega) (fun _ _ e => e) (fun h' u tk hk => ?_) h4
    exact ⟨.str d.shown, H, I.kept hk, ⟨_, rfl⟩, q⟩
  cases hd with
  | non =>
    obtain ⟨u, rfl, r1⟩ := vals1 r
    cases (show u = Value.none from r1)
    refine PySem.P.repr_of_none ⟨.str _, H, I.tok _, ⟨_, rfl⟩, ?_⟩
    rw [PyData.shown] at q
    exact q
  | bl b =>
    obtain ⟨u, rfl, r1⟩ := vals1 r
    cases (show u = Value.bool b from r1)
    refine PySem.P.repr_of_bool ⟨.str _, H, I.tok _, ⟨_, rfl⟩, ?_⟩
    rw [PyData.shown] at q
    exact q
  | int i =>
    obtain ⟨u, rfl, r1⟩ := vals1 r
    obtain ⟨t, rfl⟩ := (show ∃ t, u = Value.int i t from r1)
    rw [PyData.showable] at h1
    refine PySem.P.repr_of_int (of_decide_eq_true h1) ⟨.str _, H, I.tok _, ⟨_, rfl⟩, ?_⟩
    rw [PyData.shown] at q
    exact q
  | str z =>
    obtain ⟨u, rfl, r1⟩ := vals1 r
    obtain ⟨t, rfl⟩ := (show ∃ t, u = Value.str z t from r1)
    rw [PyData.shown] at q h4
    exact PySem.P.repr_of_str ⟨.str _, H, I.tok _, ⟨_, rfl⟩, q⟩ h4
  | tup _ _ _ => exact go _ rfl
  | lst _ _ _ _ => exact go _ rfl
  | dct _ _ _ _ _ => exact go _ rfl
theorem r_repr3 {K : PySem.W.Frag} {H : Hp} {Q : VK} {x : V} {d : PyData} {k n : Nat} (h : Dw [] K H x d) (s : ShwD d k n) (hk : k ≤ 100) (hn : n ≤ 16777216) (q : Q (.str d.shown) H) : qRepr3 K [x] H Q :=
  ⟨x, d, rfl, h, s.sh, Nat.le_trans s.dep hk, by rw [sizeLine_eq]; exact Nat.le_trans s.len hn, q⟩
theorem RoomG.make {k : Nat} {A : Around} (h : RoomG (k + 1) A) (C : Addr) (us : List Value) (kw : List (Str × Value)) : RoomG k (A.under (.builtin "type.__call__" ⟨.ref C :: us, kw⟩)) := ⟨h.r.make C us kw, h.g⟩
/-- a method of the class at C keeps its promise -/
def HasM (P : Program) (w : World) (K : PySem.W.Frag) (mg : Str → Option Value) (base : Heap) (CX : CXT) (C : Addr) (m : Str) (ps : List Str) (k : Nat) (sp : Sp) : Prop :=
  ∃ (f : Addr) (fd : FuncData), (∃ oc od osl, K.lookup f = some ⟨oc, od, .func fd, osl⟩) ∧ Meth K C m f ∧ Binds K fd ps [] ∧ FnG P w K mg base CX k f fd ps sp
/-- a method of the class at C stands in the top -/
def DfM (K : PySem.W.Frag) (C : Addr) (m q : Str) (st : Stmt) (ps : List Str) : Prop :=
  ∃ (f : Addr) (fd : FuncData), Fun K m q st f fd ∧ Meth K C m f ∧ Binds K fd ps []
section
variable {P : Program} {w : World} {K : PySem.W.Frag} {mg : Str → Option Value} {base : Heap} {CX : CXT} {C : Addr} {m q : Str} {st : Stmt} {ps N : List Str} {j k : Nat} {sp sp' : Sp}
theorem HasM.mono (h : HasM P w K mg base CX C m ps j sp) (z : j ≤ k) : HasM P w K mg base CX C m ps k sp := by
  obtain ⟨f, fd, a, b, c, d⟩ := h
  exact ⟨f, fd, a, b, c, d.mono z⟩
theorem HasM.imp (h : HasM P w K mg base CX C m ps k sp) (z : ∀ vs H Q E, sp' vs H Q E → sp vs H Q E) : HasM P w K mg base CX C m ps k sp' := by
  obtain ⟨f, fd, a, b, c, d⟩ := h
  exact ⟨f, fd, a, b, c, fun vs H Q E y => d.len _ _ _ _ (z _ _ _ _ y), fun A o s H ar us vs Q E hr he hb hv hs => d.run A o s H ar us vs Q E hr he hb hv (z _ _ _ _ hs)⟩
theorem DfM.void (d : DfM K C m q st ps) (h : ∀ vs H Q E, ¬ sp vs H Q E) : HasM P w K mg base CX C m ps 0 sp := by
  obtain ⟨f, fd, F, mm, b⟩ := d
  have lk : ∃ oc od osl, K.lookup f = some ⟨oc, od, .func fd, osl⟩ := by
    obtain ⟨oc, od, kV, doc, pm, an, cdv, ct, osl, rfl, lk, hcd⟩ := F.ex
    exact ⟨oc, od, osl, lk⟩
  exact ⟨f, fd, lk, mm, b, fun vs H Q E z => absurd z (h _ _ _ _), fun A o s H ar us vs Q E hr he hb hv hs => absurd hs (h _ _ _ _)⟩
theorem DfM.has (d : DfM K C m q st ps) (S : FnScope N ps (defScope st)) (len : ∀ vs H Q E, sp vs H Q E → vs.length = ps.length)
    (hb : ∀ (f : Addr) (cdv : Value) (A : Around) (outer : List Env) (s : Shared) (H : Hp) (vs : List V) (Q : VK) (E : XK),
      RoomG k (A.deeper (PyProof.Rows.envOfC q (defScope st) s.heap.objs.size f cdv)) → sp vs H Q E →
      ∃ t, PSs (cxOf CX0 P w K mg base N q (defScope st) f cdv A outer s H E).nox (defBody st) t ∧
        t { nx := fun _ H' => Q .non H', rt := Q } (start N vs) H) : HasM P w K mg base CX0 C m ps (k + 1) sp := by
  obtain ⟨f, fd, F, mm, b⟩ := d
  obtain ⟨oc, od, kV, doc, pm, an, cdv, ct, osl, rfl, lk, hcd⟩ := F.ex
  refine ⟨f, _, ⟨oc, od, osl, lk⟩, mm, b, fnG_of lk hcd S len fun A outer s H vs Q E hr hsp => ?_⟩
  obtain ⟨t, h, q⟩ := hb f cdv A outer s H vs Q E hr hsp
  exact ⟨t, h.nox, q⟩
end
section
variable {X : Cx} {CX : CXT} {k : Nat} {C : Addr} {ps : List Str} {sp : Sp} {E : XK} {x m : Str} {p pos apos : Pos} {e o : Expr} {es : List Expr} {ta : TE} {t : TA}
/-- o.m(e, ..) -/
theorem pe_m {pl : Sem Bool} (F : HasM X.prog X.w X.K X.mg X.base CX C m ps k sp) (c : Cls X.K C) (hr : RoomG k X.A) (hx : Passes CX X E) (he : PE X o ta) (ha : PA X (e :: es) t)
    (hst : starEach (e :: es) X.env = (false, eval e X.env) :: starEach es X.env := by rfl) (hpl : (backTo pos (starEach es X.env)).any (·.1) = false := by rfl)
    (ht : eval (.Call (.Attribute o m apos) (e :: es) [] pos) X.env = (do
      let ov ← eval o X.env
      standAt apos.atName
      let (f, first) ← holding [ov] (getMethod ov m pl)
      callWith pos f first (backTo pos (starEach (e :: es) X.env)) (backToKw pos (keywordEach [] X.env))) := by rfl) :
    PE X (.Call (.Attribute o m apos) (e :: es) [] pos) (tMeth C m sp [] E ta t) := by
  obtain ⟨f, fd, _, hm, hb, F⟩ := F
  refine ⟨fun pins s σ H Q I h => ?_⟩
  refine PySem.W.methodCall_KW (pl := pl) (thn (he.run pins s σ H _ I h) fun u s1 ⟨x, H1, I1, rx, a, dx, fs, ex, ea, l, q⟩ => ?_) ht
  subst ex
  obtain rfl : u = Value.ref a := rx
  refine getmeth_ok I1 ea c hm l ?_
  refine PySem.W.callWith_K (first := [.ref a]) (h₀ := X.base) I.ok.mod.kin hm.kp (thn (ha.run pos pins s1 σ H1 _ I1 q) fun us s2 ⟨vs, H2, I2, r, q2⟩ => ⟨I2.kIn, ?_⟩) hst hpl
  have q2 : sp (.ref a :: (vs ++ [])) H2 Q E := q2
  rw [List.append_nil] at q2
  exact runG (us := .ref a :: us) (vs := .ref a :: vs) F hr hb hx I2 (.cons rfl r) q2
theorem runMake {f : Addr} {fd : FuncData} {pins : List (Addr × Obj)} {σ : L2.St} {H : Hp} {s : Shared} {Q : VK} {us : List Value} {vs : List V} (M : Mk X.K C f) (F : FnG X.prog X.w X.K X.mg X.base CX k f fd ps sp) (hr : RoomG (k + 1) X.A) (hb : Binds X.K fd ps [])
    (hx : Passes CX X E) (I : Inv X pins σ H s) (r : Vals vs us)
    (h : ∀ x dx, H x = none → H dx = none → dx ≠ x → sp (.ref x :: vs) (upd (upd H dx (.own x)) x (.ins C dx [])) (fun v H2 => v = .non ∧ Q (.ref x) H2) E) :
    wpAny (model X.prog X.w) X.A (call (.ref C) us) (EP X pins σ Q) X.xe s := by
  have hq := h (s.heap.objs.size + 1) s.heap.objs.size (I.hok.fresh (Nat.le_succ _)) (I.hok.fresh (Nat.le_refl _)) (Nat.ne_of_lt (Nat.lt_succ_self _))
  have I2 := Inv.made (C := C) I
  have r2 : Vals (V.ref (s.heap.objs.size + 1) :: vs) (Value.ref (s.heap.objs.size + 1) :: us) := .cons rfl r
  have hl : (Value.ref (s.heap.objs.size + 1) :: us ++ []).length = ps.length := by
    have e := r2.length
    rw [F.len _ _ _ _ hq] at e
    rw [List.append_nil]
    exact e.symm
  have bb := hb _ (Value.ref (s.heap.objs.size + 1) :: us) I2.kIn hl
  rw [List.append_nil] at bb
  refine wpAny_call (make_map (f := f) I.kIn M.makes M.init (beq_iff_eq.mp M.fn) (codeAny_mono (F.run _ X.stack _ _ ⟨Value.ref (s.heap.objs.size + 1) :: us, []⟩ (Value.ref (s.heap.objs.size + 1) :: us) _ _ E (hr.make C us [])
    (I2.env0.make C us []) bb r2 hq) fun r s' hq' => ?_))
  cases r with
  | error e => exact hx pins σ _ _ e s' I2 hq'
  | ok fl =>
    cases fl with
    | ret u =>
      obtain ⟨v, H', I3, rv, ev, q3⟩ := I2.after hq'
      subst ev
      exact ⟨rv, ⟨V.ref (s.heap.objs.size + 1), H', I3, rfl, q3⟩⟩
    | next => exact False.elim hq'
    | brk => exact False.elim hq'
    | cont => exact False.elim hq'
/-- a class of the top and its __init__ -/
def HasC (P : Program) (w : World) (K : PySem.W.Frag) (mg : Str → Option Value) (base : Heap) (CX : CXT) (x : Str) (C : Addr) (ps : List Str) (k : Nat) (sp : Sp) : Prop :=
  ∃ (f : Addr) (fd : FuncData), Mk K C f ∧ mg x = some (.ref C) ∧ Binds K fd ps [] ∧ FnG P w K mg base CX k f fd ps sp
theorem pe_new (F : HasC X.prog X.w X.K X.mg X.base CX x C ps k sp) (hr : RoomG (k + 1) X.A) (hg : Gl X x) (hx : Passes CX X E)
    (ha : PA X (e :: es) t) (hdb : (x == ("__debug__" : Str)) = false := by decide) (he : starEach (e :: es) X.env = (false, eval e X.env) :: starEach es X.env := by rfl) (hpl : (backTo pos (starEach es X.env)).any (·.1) = false := by rfl) :
    PE X (.Call (.Name x p) (e :: es) [] pos) (tMake C sp [] E t) := by
  obtain ⟨f, fd, M, hm, hb, F⟩ := F
  refine ⟨fun pins s σ H Q I h => ?_⟩
  refine wpAny_Call_Name_kw (ld_glob I hg hm ?_ hdb)
  refine PySem.W.callWith_K (h₀ := X.base) I.ok.mod.kin M.kp (thn (ha.run pos pins s σ H _ I h) fun us s1 ⟨vs, H1, I1, r, q⟩ => ⟨I1.kIn, ?_⟩) he hpl
  refine runMake M F hr hb hx I1 r fun x dx a b c => ?_
  have z : sp (.ref x :: (vs ++ [])) _ _ _ := q x dx a b c
  rw [List.append_nil] at z
  exact z
end
end Aw
namespace Aw
open PySem PySem.Spec L2
section
variable {σ : L2.St} {H : Hp} {D : Ends} {Q : VK} {v x y : V} {te td ty tv ta : TE} {tt : TT} {ts : TA} {g : TG} {tb : TS} {vs : List Nat} {K : PySem.W.Frag}
def FldQ (K : PySem.W.Frag) (f : Str) (Q : VK) : V → Hp → Prop := fun x H1 => ∃ a C dx fs v, x = .ref a ∧ H1 a = some (.ins C dx fs) ∧ Cls K C ∧ NoAttr K C f ∧ fs.lookup f = some v ∧ Q v H1
theorem r_fld {f : Str} (h : ta σ H (FldQ K f Q)) : tFld K ta f σ H Q := h
theorem r_Fld {f : Str} {a C dx : Addr} {fs : List (Str × V)} (e : H a = some (.ins C dx fs)) (c : Cls K C) (n : NoAttr K C f) (l : fs.lookup f = some v) (q : Q v H) : FldQ K f Q (.ref a) H := ⟨a, C, dx, fs, v, rfl, e, c, n, l, q⟩
def SFldQ (K : PySem.W.Frag) (f : Str) (y : V) (D : Ends) (σ : L2.St) : V → Hp → Prop := fun x H2 => ∃ a C dx fs, x = .ref a ∧ H2 a = some (.ins C dx fs) ∧ Cls K C ∧ NoAttr K C f ∧ fs.length < 1000 ∧ D.nx σ (upd H2 a (.ins C dx (putF f y fs)))
theorem r_sfld {f : Str} (h : tv σ H fun y H1 => ta σ H1 (SFldQ K f y D σ)) : sFld K ta tv f D σ H := h
theorem r_SFld {f : Str} {a C dx : Addr} {fs : List (Str × V)} (e : H a = some (.ins C dx fs)) (c : Cls K C) (n : NoAttr K C f) (l : fs.length < 1000) (q : D.nx σ (upd H a (.ins C dx (putF f y fs)))) : SFldQ K f y D σ (.ref a) H := ⟨a, C, dx, fs, rfl, e, c, n, l, q⟩
def MethQ (C : Addr) (m : Str) (sp : Sp) (E : XK) (ts : TA) (σ : L2.St) (Q : VK) : V → Hp → Prop := fun x H1 => ∃ a dx fs, x = .ref a ∧ H1 a = some (.ins C dx fs) ∧ fs.lookup m = none ∧ ts σ H1 fun vs H2 => sp (x :: (vs ++ [])) H2 Q E
theorem r_meth {C : Addr} {m : Str} {sp : Sp} {E : XK} (h : ta σ H (MethQ C m sp E ts σ Q)) : tMeth C m sp [] E ta ts σ H Q := h
theorem r_Meth {C a dx : Addr} {m : Str} {sp : Sp} {E : XK} {fs : List (Str × V)} (e : H a = some (.ins C dx fs)) (l : fs.lookup m = none) (q : ts σ H fun vs H2 => sp (.ref a :: (vs ++ [])) H2 Q E) : MethQ C m sp E ts σ Q (.ref a) H := ⟨a, dx, fs, rfl, e, l, q⟩
theorem r_make {C : Addr} {sp : Sp} {E : XK} (h : ts σ H fun vs H1 => ∀ x dx, H1 x = none → H1 dx = none → dx ≠ x → sp (.ref x :: (vs ++ [])) (upd (upd H1 dx (.own x)) x (.ins C dx [])) (fun v H2 => v = .non ∧ Q (.ref x) H2) E) : tMake C sp [] E ts σ H Q := h
def DPutQ (D : Ends) (σ : L2.St) (v : V) : V → V → Hp → Prop := fun x y H3 => ∃ a H4, x = .ref a ∧ DPut H3 a y v H4 ∧ D.nx σ H4
theorem r_dput (h : tv σ H fun v H1 => td σ H1 fun x H2 => ty σ H2 fun y H3 => DPutQ D σ v x y H3) : sDPut td ty tv D σ H := h
theorem r_DPut {a : Addr} {kvs : List (Key × V)} {k : Key} (e : H a = some (.dK kvs)) (l : kvs.length < sizeLine) (q : D.nx σ (upd H a (.dK (putK kvs k v)))) : DPutQ D σ v (.ref a) (kV k) H := ⟨a, _, rfl, DPut.k e l, q⟩
def DInQ (Q : VK) : V → V → Hp → Prop := fun y x H2 => ∃ a o, x = .ref a ∧ DGet H2 a y o ∧ Q (.bl o.isSome) H2
theorem r_din (h : ty σ H fun y H1 => td σ H1 fun x H2 => DInQ Q y x H2) : tDIn ty td σ H Q := h
theorem r_DIn {a : Addr} {kvs : List (Key × V)} {z : Str} (e : H a = some (.dK kvs)) (q : Q (.bl (valV kvs (Sum.inr z)).isSome) H) : DInQ Q (.str z) (.ref a) H := ⟨a, _, rfl, DGet.k (k := Sum.inr z) e, q⟩
def DG1 (a : Addr) (Q : VK) : V → Hp → Prop := fun y H2 => ∃ o, DGet H2 a y o ∧ Q (o.getD .non) H2
def DG1a (ty : TE) (σ : L2.St) (Q : VK) : V → Hp → Prop := fun x H1 => ∃ a, x = .ref a ∧ IsD H1 a ∧ ty σ H1 (DG1 a Q)
theorem r_dget1 (h : td σ H (DG1a ty σ Q)) : tDGet1 td ty σ H Q := h
theorem r_DG1a {a : Addr} {kvs : List (Key × V)} (e : H a = some (.dK kvs)) (h : ty σ H (DG1 a Q)) : DG1a ty σ Q (.ref a) H := ⟨a, rfl, .inl ⟨kvs, .inl e⟩, h⟩
theorem r_DG1 {a : Addr} {kvs : List (Key × V)} {z : Str} (e : H a = some (.dK kvs)) (q : Q ((valV kvs (Sum.inr z)).getD .non) H) : DG1 a Q (.str z) H := ⟨_, DGet.k (k := Sum.inr z) e, q⟩
theorem r_DG2i {a : Addr} {kvs : List (Key × V)} {z : V} {i : Int} (e : H a = some (.dK kvs)) (q : Q ((valV kvs (Sum.inl i)).getD z) H) : DG2 a Q (.int i) z H := ⟨_, DGet.k (k := Sum.inl i) e, q⟩
def DPop1Q (a : Addr) (Q : VK) : V → Hp → Prop := fun y H2 => ∃ kvs k v, H2 a = some (.dK kvs) ∧ y = kV k ∧ valV kvs k = some v ∧ Q v (upd H2 a (.dK (dropK kvs k)))
def DPop1a (ty : TE) (σ : L2.St) (Q : VK) : V → Hp → Prop := fun x H1 => ∃ a, x = .ref a ∧ IsD H1 a ∧ ty σ H1 (DPop1Q a Q)
theorem r_dpop1 (h : td σ H (DPop1a ty σ Q)) : tDPop1 td ty σ H Q := h
theorem r_DPop1a {a : Addr} {kvs : List (Key × V)} (e : H a = some (.dK kvs)) (h : ty σ H (DPop1Q a Q)) : DPop1a ty σ Q (.ref a) H := ⟨a, rfl, .inl ⟨kvs, .inl e⟩, h⟩
theorem r_DPop1 {a : Addr} {kvs : List (Key × V)} {z : Str} (e : H a = some (.dK kvs)) (l : valV kvs (Sum.inr z) = some v) (q : Q v (upd H a (.dK (dropK kvs (Sum.inr z))))) : DPop1Q a Q (.str z) H := ⟨kvs, Sum.inr z, v, e, rfl, l, q⟩
def qDict : List V → Hp → VK → Prop := fun xs H Q => ∃ (a : Addr) (kvs : List (Key × V)), xs = [.ref a] ∧ Rd H a (.dK kvs) ∧ ∀ p, H p = none → Q (.ref p) (upd H p (.dK kvs))
theorem c_dict {X : Cx} : CallR X (.type "dict") qDict := call_dictD
theorem r_dict {a : Addr} {kvs : List (Key × V)} (e : H a = some (.dK kvs)) (h : ∀ p, H p = none → Q (.ref p) (upd H p (.dK kvs))) : qDict [.ref a] H Q := ⟨a, kvs, rfl, .inl e, h⟩
/-- {k: v} -/
theorem r_disp1 {tk tw : TE} (h : ∀ p, H p = none → tk σ (upd H p (.dK [])) fun y H1 => tw σ H1 fun z H2 => H2 p = some (.dK []) ∧ ∃ k : Key, y = kV k ∧ Q (.ref p) (upd H2 p (.dK [(k, z)]))) : tDisp [(tk, tw)] σ H Q := by
  intro p hp
  refine r_pcons ?_
  have q := h p hp
  exact cast (by rfl) (show tk σ (upd H p (.dK [])) fun y H1 => tw σ H1 fun z H2 => tPairs [] σ H2 fun ps H3 => H3 p = some (.dK []) ∧ ∃ kvs : List (Key × V), (y, z) :: ps = kvs.map (fun kv => (kV kv.1, kv.2)) ∧ kvs.length ≤ 15 ∧ Q (.ref p) (upd H3 p (.dK (mergeK [] kvs))) from by
    refine cast ?_ q
    congr 1
    funext y H1
    congr 1
    funext z H2
    refine propext ⟨fun ⟨e, k, ek, q⟩ => r_pnil ⟨e, [(k, z)], by rw [ek]; rfl, by simp, q⟩, fun ⟨e, kvs, ek, _, q⟩ => ⟨e, ?_⟩⟩
    match kvs, ek with
    | [kv], ek =>
      simp only [List.map_cons, List.map_nil, List.cons.injEq, Prod.mk.injEq, and_true] at ek
      obtain ⟨e1, e2⟩ := ek
      subst e2
      exact ⟨kv.1, e1, q⟩)
def ForK (g : TG) (tb : TS) (D : Ends) (σ : L2.St) : V → Hp → Prop := fun x H1 => ∃ d o, x = .ref d ∧ ((∃ kvs, H1 d = some (.frz o (.dK kvs)) ∧ Turns (Itk d o kvs) g tb D σ H1) ∨ ∃ kvs, H1 d = some (.frz o (.dT kvs)) ∧ Turns (Itkt d o kvs) g tb D σ H1)
theorem r_forK (h : te σ H (ForK g tb D σ)) : tFor (iKeys te) g tb D σ H := h
theorem r_ForK {d : Addr} {o : Obj} {kvs : List (Key × V)} (s : H d = some (.frz o (.dK kvs))) (R : Nat → L2.St → Hp → Prop) (h0 : R 0 σ H) (hl : ∀ i σ H, R i σ H → H d = some (.frz o (.dK kvs)))
    (hs : ∀ (i : Nat) k v σ H, kvs[i]? = some (k, v) → R i σ H → g (kV k) σ H fun σ2 H2 => tb { D with nx := R (i + 1), ct := R (i + 1), bk := D.nx } σ2 H2) (hd : ∀ σ H, R kvs.length σ H → D.nx σ H) :
    ForK g tb D σ (.ref d) H := by
  refine ⟨d, o, rfl, .inl ⟨kvs, s, fun i m σ H => i + m = kvs.length ∧ R i σ H, ⟨kvs.length, by omega, h0⟩, fun i m σ H ⟨e, r⟩ => ?_⟩⟩
  have sl := hl i σ H r
  by_cases hi : i < kvs.length
  · refine .inr ⟨⟨sl, hi⟩, R (i + 1), fun σ' H' r' => ⟨m - 1, by omega, by omega, r'⟩, fun v H' hy => ?_⟩
    obtain ⟨rfl, k, u, hk, rfl⟩ := hy
    exact hs i k u σ _ hk r
  · refine .inl ⟨⟨sl, by omega⟩, hd σ H ?_⟩
    have e2 : i = kvs.length := by omega
    rw [← e2]
    exact r
def LcV (g : TG) (tt : TT) (te : TE) (vs : List Nat) (σ : L2.St) (Q : VK) : V → Hp → Prop := fun x H1 => ∃ d o kvs, x = .ref d ∧ H1 d = some (.frz o (.dK kvs)) ∧ LcTurns (Itd d o kvs) g tt te vs σ Q H1
theorem r_lcV {ti : TE} (h : ti σ H (LcV g tt te vs σ Q)) : tLc (iVals ti) g tt te vs σ H Q := h
/-- the values of a dict of ints that are f -/
theorem r_LcVf {d : Addr} {o : Obj} {kvs : List (Key × V)} {ms : List Int} {f : Int → Bool} {i : Nat} (s : H d = some (.frz o (.dK kvs))) (hm : kvs.map (·.2) = ms.map V.int) (hz : ms.length ≤ 16777216)
    (ht : ∀ (c : Int) (H' : Hp) (R : Bool → Hp → Prop), R (f c) H' → tt ((wipe σ vs).set i (some (.int c))) H' R) (he : ∀ (c : Int) (H' : Hp) (R : VK), R (.int c) H' → te ((wipe σ vs).set i (some (.int c))) H' R)
    (hw : ∀ v : V, wipe ((wipe σ vs).set i (some v)) vs = wipe σ vs) (h : ∀ p, H p = none → Q (.ref p) (upd H p (.lst ((ms.filter f).map V.int)))) : LcV (gName i) tt te vs σ Q (.ref d) H := by
  refine ⟨d, o, kvs, rfl, s, fun p hp => ?_⟩
  have hdp : d ≠ p := ne_of_none s hp
  have hlen : kvs.length = ms.length := by have := congrArg List.length hm; simpa using this
  refine ⟨fun n m H' => n + m = kvs.length ∧ H' = upd H p (.lst (((ms.take n).filter f).map V.int)), ⟨kvs.length, by omega, rfl⟩, fun n m H' ⟨e, e2⟩ => ?_⟩
  subst e2
  have sl : upd H p (.lst (((ms.take n).filter f).map V.int)) d = some (.frz o (.dK kvs)) := by rw [upd_ne hdp]; exact s
  by_cases hi : n < kvs.length
  · refine .inr ⟨⟨sl, hi⟩, fun H' => H' = upd H p (.lst (((ms.take (n + 1)).filter f).map V.int)), fun H' e' => ⟨m - 1, by omega, by omega, e'⟩, fun v H' hy => ?_⟩
    obtain ⟨rfl, k, hk⟩ := hy
    have hnm : n < ms.length := by omega
    obtain ⟨c, hc⟩ : ∃ c, ms[n]? = some c := ⟨ms[n], List.getElem?_eq_getElem hnm⟩
    have hv : v = .int c := by
      have q : (kvs.map (·.2))[n]? = some v := by rw [List.getElem?_map, hk]; rfl
      rw [hm, List.getElem?_map, hc] at q
      exact (Option.some.inj q).symm
    subst hv
    refine r_name (r_LcTurn (hw _) (ht c _ _ ?_))
    have htk : ms.take (n + 1) = ms.take n ++ [c] := by rw [List.take_add_one, hc]; rfl
    cases hf : f c with
    | true =>
      refine ifT (he c _ _ (r_LcEnd upd_same ?_ ?_))
      · rw [List.length_map, sizeLine_eq]
        have a := List.length_filter_le f (ms.take n)
        rw [List.length_take] at a
        omega
      · show _ = upd H p (.lst (((ms.take (n + 1)).filter f).map V.int))
        rw [htk, List.filter_append, List.filter_cons_of_pos (by exact hf), List.filter_nil, List.map_append, upd_upd]
        rfl
    | false =>
      refine ifF ?_
      show _ = upd H p (.lst (((ms.take (n + 1)).filter f).map V.int))
      rw [htk, List.filter_append, List.filter_cons_of_neg (by rw [hf]; exact Bool.false_ne_true), List.filter_nil, List.append_nil]
  · refine .inl ⟨⟨sl, by omega⟩, ?_⟩
    have e2 : n = ms.length := by omega
    rw [e2, List.take_length]
    exact h p hp
theorem r_lock {t : TS} {d : Addr} {u : HO} (e : H d = some u) (m : L2.Mut (some u)) (h : ∀ od, t ⟨fun σ' H' => H' d = some (.frz od u) ∧ D.nx σ' (upd H' d u), fun v H' => H' d = some (.frz od u) ∧ D.rt v (upd H' d u), fun σ' H' => H' d = some (.frz od u) ∧ D.bk σ' (upd H' d u), fun σ' H' => H' d = some (.frz od u) ∧ D.ct σ' (upd H' d u)⟩ σ (upd H d (.frz od u))) :
    tLock t D σ H := ⟨d, u, e, m, h⟩
theorem r_lockE {t : TE} {d : Addr} {u : HO} (e : H d = some u) (m : L2.Mut (some u)) (h : ∀ od, t σ (upd H d (.frz od u)) fun v H' => H' d = some (.frz od u) ∧ Q v (upd H' d u)) : tLockE t σ H Q := ⟨d, u, e, m, h⟩
theorem Kp.unlock {M : List Addr} {H' : Hp} {d : Addr} {u : HO} {od : Obj} (k : Kp M (upd H d (.frz od u)) H') (e : H d = some u) (n : d ∉ M) : Kp M H (upd H' d u) := fun b o eb => by
  by_cases hb : b = d
  · subst hb
    rw [e] at eb
    cases eb
    exact ⟨fun m => absurd m n, fun _ => upd_same⟩
  · have q := k b o (by rw [upd_ne hb]; exact eb)
    exact ⟨q.1, fun m => by rw [upd_ne hb]; exact q.2 m⟩
end
def tListVals (te : TE) : TE := fun σ H Q => te σ H fun x H1 => ∃ (d : Addr) (kvs : List (Key × V)), x = .ref d ∧ H1 d = some (.dK kvs) ∧ ∀ p, H1 p = none → Q (.ref p) (upd H1 p (.lst (kvs.map (·.2))))
def ListValsQ (Q : VK) : V → Hp → Prop := fun x H1 => ∃ (d : Addr) (kvs : List (Key × V)), x = .ref d ∧ H1 d = some (.dK kvs) ∧ ∀ p, H1 p = none → Q (.ref p) (upd H1 p (.lst (kvs.map (·.2))))
theorem r_listVals {te : TE} {σ : L2.St} {H : Hp} {Q : VK} (h : te σ H (ListValsQ Q)) : tListVals te σ H Q := h
def ListItemsQ (Q : VK) : V → Hp → Prop := fun x H1 => LiI.rItemsL x H1 Q
theorem r_listItems {te : TE} {σ : L2.St} {H : Hp} {Q : VK} (h : te σ H (ListItemsQ Q)) : LiI.tListItems te σ H Q := h
/-- what was made behind the beginning may have been written -/
theorem Kp.outs {N M : List Addr} {H H1 H2 : Hp} (k1 : Kp N H H1) (hM : ∀ b ∈ M, H b = none ∨ b ∈ N) (k2 : Kp M H1 H2) : Kp N H H2 := by
  intro c o ec
  refine ⟨(k1 c o ec).1, fun n => (k2 c o ((k1 c o ec).2 n)).2 fun m => ?_⟩
  rcases hM c m with z | z
  · rw [z] at ec
    cases ec
  · exact n z
theorem Kp.own1 {H H1 H2 : Hp} {p : Addr} (k1 : Kp [] H H1) (hp : H p = none) (k2 : Kp [p] H1 H2) : Kp [] H H2 := k1.outs (fun b m => .inl (by rw [List.mem_singleton.mp m]; exact hp)) k2
theorem cr_sumK {X : Cx} {K : PySem.W.Frag} (h : X.K = K) (hc : X.calm = true) : CallR X (.builtin "sum") (rSum K) := by
  subst h
  exact cr_sum hc
theorem pi_tupK {X : Cx} {K : PySem.W.Frag} {tg l : Expr} {tl : TE} (h : X.K = K) (hl : PE X l tl) : PI X tg l (iTup K tl) := by
  subst h
  exact pi_tup hl
theorem c_is2K {X : Cx} {K : PySem.W.Frag} (h : X.K = K) : CallR X (.builtin "isinstance") (qIs2 K) := by
  subst h
  exact c_is2
theorem kpW2 {H : Hp} {a : Addr} {u o : HO} (h : H a = some u) (m : Mut u) : Kp [a] H (upd H a o) := (Kp.reflM (Ms.cons h m Ms.nil)).write (by simp)
end Aw
namespace Aw
open PySem PySem.Spec L2
inductive Ex where
  | int (i : Int)
  | name (x : Str)
  | bin (o : Str) (a b : Ex)
def opSign (o : Str) : Str := if o = "plus" then " + " else if o = "minus" then " - " else " * "
def Ex.d : Ex → PyData
  | .int i => .int i
  | .name x => .str x
  | .bin o a b => .tuple [.str o, a.d, b.d]
def Ex.text : Ex → Str
  | .int i => Str.ofString (toString i)
  | .name x => x
  | .bin o a b => "(" ++ a.text ++ opSign o ++ b.text ++ ")"
def IsOp (o : Str) : Prop := o = "plus" ∨ o = "minus" ∨ o = "times"
def Ex.ok : Nat → Ex → Prop
  | 0, _ => False
  | _ + 1, .int i => -99 ≤ i ∧ i ≤ 99
  | _ + 1, .name x => Sok x 8
  | n + 1, .bin o a b => IsOp o ∧ a.ok n ∧ b.ok n
theorem Ex.ok.succ : ∀ {n : Nat} {e : Ex}, e.ok n → e.ok (n + 1)
  | 0, _, h => h.elim
  | _ + 1, .int _, h => h
  | _ + 1, .name _, h => h
  | _ + 1, .bin _ _ _, h => ⟨h.1, h.2.1.succ, h.2.2.succ⟩
theorem Ex.ok.mono {m n : Nat} {e : Ex} (h : e.ok m) (q : m ≤ n) : e.ok n := by
  induction q with
  | refl => exact h
  | step _ ih => exact ih.succ
inductive Ts where
  | not (t : Ts)
  | given (x : Str)
  | rest (e : Ex) (b r : Int)
  | less (a b : Ex)
def Ts.d : Ts → PyData
  | .not t => .tuple [.str "not", t.d]
  | .given x => .tuple [.str "given", .str x]
  | .rest e b r => .tuple [.str "rest", e.d, .int b, .int r]
  | .less a b => .tuple [.str "less", a.d, b.d]
def numT (i : Int) : Str := Str.ofString (toString i)
def Ts.text : Ts → Str
  | .not t => "not " ++ t.text
  | .given x => "set " ++ x
  | .rest e b r => "rest " ++ numT r ++ " of " ++ numT b ++ " " ++ e.text
  | .less a b => a.text ++ " < " ++ b.text
def Ts.ok : Nat → Ts → Prop
  | 0, .not _ => False
  | n + 1, .not t => t.ok n
  | _, .given x => Sok x 8
  | _, .rest e b r => e.ok 3 ∧ 0 ≤ b ∧ b ≤ 99 ∧ 0 ≤ r ∧ r ≤ 99
  | _, .less a b => a.ok 3 ∧ b.ok 3
inductive Pl where
  | set (x : Str) (e : Ex)
  | unset (x : Str)
  | tell (e : Ex)
  | say (w : Str)
  | stop (w : Str)
def Pl.d : Pl → PyData
  | .set x e => .tuple [.str "set", .str x, e.d]
  | .unset x => .tuple [.str "unset", .str x]
  | .tell e => .tuple [.str "tell", e.d]
  | .say w => .tuple [.str "say", .str w]
  | .stop w => .tuple [.str "stop", .str w]
def Pl.text : Pl → Str
  | .set x e => "set " ++ x ++ " " ++ e.text
  | .unset x => "unset" ++ " " ++ x
  | .tell e => "tell " ++ e.text
  | .say w => "say" ++ " " ++ w
  | .stop w => "stop" ++ " " ++ w
def Pl.ok : Pl → Prop
  | .set x e => Sok x 8 ∧ e.ok 3
  | .unset x => Sok x 8
  | .tell e => e.ok 3
  | .say w => Sok w 8
  | .stop w => Sok w 8
inductive Sm where
  | pl (s : Pl)
  | ifs (t : Ts) (y n : List Sm)
  | rep (k : Int) (b : List Sm)
mutual
def Sm.d : Sm → PyData
  | .pl s => s.d
  | .ifs t y n => .tuple [.str "if", t.d, .tuple (Sm.ds y), .tuple (Sm.ds n)]
  | .rep k b => .tuple [.str "repeat", .int k, .tuple (Sm.ds b)]
def Sm.ds : List Sm → List PyData
  | [] => []
  | s :: r => s.d :: Sm.ds r
end
theorem Sm.ds_map : ∀ b : List Sm, Sm.ds b = b.map Sm.d
  | [] => rfl
  | s :: r => by rw [Sm.ds, Sm.ds_map r, List.map_cons]
mutual
def Sm.lines (ah : Str) : Sm → List Str
  | .pl s => [ah ++ s.text]
  | .ifs t y n => (ah ++ ("if " ++ t.text)) :: ((if y.isEmpty then [ah ++ "  " ++ "pass"] else Sm.all (ah ++ "  ") y) ++
      (if n.isEmpty then [] else (ah ++ "else") :: Sm.all (ah ++ "  ") n))
  | .rep k b => (ah ++ ("repeat" ++ " " ++ numT k)) :: (if b.isEmpty then [ah ++ "  " ++ "pass"] else Sm.all (ah ++ "  ") b)
def Sm.all (ah : Str) : List Sm → List Str
  | [] => []
  | s :: r => Sm.lines ah s ++ Sm.all ah r
end
mutual
def Sm.size : Sm → Nat
  | .pl _ => 1
  | .ifs _ y n => 1 + Sm.sizes y + Sm.sizes n
  | .rep _ b => 1 + Sm.sizes b
def Sm.sizes : List Sm → Nat
  | [] => 0
  | s :: r => Sm.size s + Sm.sizes r
end
theorem Sm.sizes_app : ∀ a b : List Sm, Sm.sizes (a ++ b) = Sm.sizes a + Sm.sizes b
  | [], b => by rw [List.nil_append, Sm.sizes, Nat.zero_add]
  | s :: r, b => by rw [List.cons_append, Sm.sizes, Sm.sizes, Sm.sizes_app r b, Nat.add_assoc]
def Sm.ok : Nat → Sm → Prop
  | _, .pl s => s.ok
  | 0, .ifs _ _ _ => False
  | 0, .rep _ _ => False
  | n + 1, .ifs t y z => t.ok 2 ∧ (∀ s ∈ y, Sm.ok n s) ∧ (∀ s ∈ z, Sm.ok n s)
  | n + 1, .rep k b => 0 ≤ k ∧ k ≤ 8 ∧ ∀ s ∈ b, Sm.ok n s
theorem depth_tup {ds : List PyData} {n : Nat} (h : ∀ d ∈ ds, d.depth ≤ n) : (PyData.tuple ds).depth ≤ n + 1 := by
  have q : PyData.depthAll ds ≤ n := by
    induction ds with
    | nil => exact Nat.zero_le _
    | cons d r ih =>
      rw [PyData.depthAll]
      exact Nat.max_le.mpr ⟨h d (List.mem_cons_self ..), ih fun d hd => h d (List.mem_cons_of_mem _ hd)⟩
  rw [PyData.depth]
  omega
theorem lay_tup {ds : List PyData} (h : ∀ d ∈ ds, d.canLay0 = true) : (PyData.tuple ds).canLay0 = true := by
  rw [PyData.canLay0]
  induction ds with
  | nil => rfl
  | cons d r ih =>
    rw [PyData.canLayAll0, h d (List.mem_cons_self ..), ih fun d hd => h d (List.mem_cons_of_mem _ hd)]
    rfl
/-- data that may be compared -/
structure Cmp (d : PyData) (n : Nat) : Prop where
  lay : d.canLay0 = true
  dep : d.depth ≤ n
theorem Cmp.tup {ds : List PyData} {n : Nat} (h : ∀ d ∈ ds, Cmp d n) : Cmp (.tuple ds) (n + 1) :=
  ⟨lay_tup fun d hd => (h d hd).lay, depth_tup fun d hd => (h d hd).dep⟩
theorem Cmp.mono {d : PyData} {m n : Nat} (h : Cmp d m) (q : m ≤ n) : Cmp d n := ⟨h.lay, Nat.le_trans h.dep q⟩
theorem Cmp.str {x : Str} {k n : Nat} (h : Sok x k) : Cmp (.str x) n := ⟨by rw [PyData.canLay0]; exact h.ok, by rw [PyData.depth]; exact Nat.zero_le _⟩
theorem Cmp.int {i : Int} {n : Nat} : Cmp (.int i) n := ⟨by rw [PyData.canLay0], by rw [PyData.depth]; exact Nat.zero_le _⟩
theorem Cmp.nil {n : Nat} : Cmp (.tuple []) (n + 1) := Cmp.tup fun _ h => nomatch h
def Pl.word : Pl → Str
  | .set _ _ => "set"
  | .unset _ => "unset"
  | .tell _ => "tell"
  | .say _ => "say"
  | .stop _ => "stop"
theorem Pl.head {K : PySem.W.Frag} {H : Hp} {v : V} {s : Pl} (h : Dt K H v s.d) : ∃ (p : Addr) (ys : List V), v = .ref p ∧ SqT K H p ys ∧ atI ys 0 = some (.str s.word) := by
  cases s with
  | set x e =>
    obtain ⟨p, a, b, c, rfl, hT, h1, _, _⟩ := Dt.is3 h
    obtain rfl := Dt.isStr h1
    exact ⟨p, _, rfl, hT, rfl⟩
  | unset x =>
    obtain ⟨p, a, b, rfl, hT, h1, _⟩ := Dt.is2 h
    obtain rfl := Dt.isStr h1
    exact ⟨p, _, rfl, hT, rfl⟩
  | tell e =>
    obtain ⟨p, a, b, rfl, hT, h1, _⟩ := Dt.is2 h
    obtain rfl := Dt.isStr h1
    exact ⟨p, _, rfl, hT, rfl⟩
  | say x =>
    obtain ⟨p, a, b, rfl, hT, h1, _⟩ := Dt.is2 h
    obtain rfl := Dt.isStr h1
    exact ⟨p, _, rfl, hT, rfl⟩
  | stop x =>
    obtain ⟨p, a, b, rfl, hT, h1, _⟩ := Dt.is2 h
    obtain rfl := Dt.isStr h1
    exact ⟨p, _, rfl, hT, rfl⟩
end Aw
namespace Aw
open PySem PySem.Spec L2
structure Nms (H : Hp) (a : Addr) (xs : List Str) : Prop where
  h : H a = some (.lst (xs.map V.str))
  ne : 1 ≤ xs.length
  ok : ∀ x ∈ xs, Sok x 8
  len : xs.length ≤ 100
theorem Nms.kp {M : List Addr} {H H1 : Hp} {a : Addr} {xs : List Str} (h : Nms H a xs) (k : Kp M H H1) (n : a ∉ M) : Nms H1 a xs := ⟨k.get h.h n, h.ne, h.ok, h.len⟩
theorem Nms.item {H : Hp} {a : Addr} {xs : List Str} (h : Nms H a xs) {i : Nat} {x : V} (e : (xs.map V.str)[i]? = some x) : ∃ z : Str, x = .str z ∧ Sok z 8 := by
  rw [List.getElem?_map] at e
  obtain ⟨z, hz, rfl⟩ := Option.map_eq_some_iff.mp e
  exact ⟨z, rfl, h.ok z (List.mem_of_getElem? hz)⟩
def eDraws : Nat → Nat
  | 0 => 0
  | n + 1 => 3 + 2 * eDraws n
theorem eDraws_le : ∀ {m : Nat}, m ≤ 3 → eDraws m ≤ 21
  | 0, _ => by decide
  | 1, _ => by decide
  | 2, _ => by decide
  | 3, _ => by decide
theorem Ts.ok.succ : ∀ {n : Nat} {t : Ts}, t.ok n → t.ok (n + 1)
  | n + 1, .not t, h => Ts.ok.succ (n := n) (t := t) h
  | n, .given x, h => by cases n <;> exact h
  | n, .rest e b r, h => by cases n <;> exact h
  | n, .less a b, h => by cases n <;> exact h
theorem Ts.ok.mono {m n : Nat} {t : Ts} (h : t.ok m) (q : m ≤ n) : t.ok n := by
  induction q with
  | refl => exact h
  | step _ ih => exact ih.succ
/-- what is left: places, weight, rests, comparings -/
def Lft (H : Hp) (l : Addr) (a b r s : Int) : Prop := H l = some (.lst [.int a, .int b, .int r, .int s])
theorem Sm.ok.succ : ∀ (n : Nat) (s : Sm), s.ok n → s.ok (n + 1) := by
  intro n
  induction n with
  | zero =>
    intro s h
    cases s with
    | pl s => exact h
    | ifs t y z => exact h.elim
    | rep k b => exact h.elim
  | succ n ih =>
    intro s h
    cases s with
    | pl s => exact h
    | ifs t y z => exact ⟨h.1, fun s hs => ih s (h.2.1 s hs), fun s hs => ih s (h.2.2 s hs)⟩
    | rep k b => exact ⟨h.1, h.2.1, fun s hs => ih s (h.2.2 s hs)⟩
theorem Sm.ok.mono {m n : Nat} {s : Sm} (h : s.ok m) (q : m ≤ n) : s.ok n := by
  induction q with
  | refl => exact h
  | step _ ih => exact Sm.ok.succ _ _ ih
theorem Sm.ds_snoc (b : List Sm) (s : Sm) : Sm.ds (b ++ [s]) = Sm.ds b ++ [s.d] := by rw [Sm.ds_map, Sm.ds_map, List.map_append]; rfl
theorem Sm.sizes_snoc (b : List Sm) (s : Sm) : Sm.sizes (b ++ [s]) = Sm.sizes b + s.size := by rw [Sm.sizes_app, Sm.sizes, Sm.sizes, Nat.add_zero]
theorem Sok.iff {x : Str} {n : Nat} : Sok x n ↔ (∀ c ∈ x.cps.toList, c < 1114112) ∧ x.cps.toList.length ≤ n := by
  constructor
  · intro h
    have q := h.ok
    unfold PyData.strOk at q
    rw [Array.all_eq_true_iff_forall_mem] at q
    exact ⟨fun c hc => of_decide_eq_true (q c (Array.mem_def.mpr hc)), by rw [Array.length_toList]; exact h.len⟩
  · intro h
    refine ⟨?_, ?_⟩
    · unfold PyData.strOk
      rw [Array.all_eq_true_iff_forall_mem]
      exact fun c hc => decide_eq_true (h.1 c (Array.mem_def.mp hc))
    · have q := h.2
      rw [Array.length_toList] at q
      exact q
theorem joinL_ok {S : List Nat} {m s : Nat} (hS : S.length ≤ s) (h1 : ∀ c ∈ S, c < 1114112) : ∀ ps : List (List Nat), (∀ p ∈ ps, p.length ≤ m ∧ ∀ c ∈ p, c < 1114112) →
    (TL.joinL S ps).length ≤ ps.length * (m + s) ∧ ∀ c ∈ TL.joinL S ps, c < 1114112
  | [], _ => ⟨Nat.zero_le _, fun c h => (nomatch h)⟩
  | [p], h => by
    obtain ⟨a, b⟩ := h p (List.mem_cons_self ..)
    rw [TL.joinL]
    exact ⟨by rw [List.length_singleton, Nat.one_mul]; omega, b⟩
  | p :: q :: r, h => by
    obtain ⟨a, b⟩ := h p (List.mem_cons_self ..)
    obtain ⟨a2, b2⟩ := joinL_ok hS h1 (q :: r) fun p' hp' => h p' (List.mem_cons_of_mem _ hp')
    rw [TL.joinL]
    refine ⟨?_, fun c hc => ?_⟩
    · rw [List.length_append, List.length_append, List.length_cons, Nat.add_mul, Nat.one_mul]
      omega
    · rcases List.mem_append.mp hc with hc | hc
      · exact b c hc
      · rcases List.mem_append.mp hc with hc | hc
        · exact h1 c hc
        · exact b2 c hc
theorem Sok.join {sep : Str} {ys : List Str} {m s : Nat} (hs : Sok sep s) (h : ∀ y ∈ ys, Sok y m) : Sok (Txt.join sep ys) (ys.length * (m + s)) := by
  rw [Sok.iff] at *
  rw [TL.join_eq]
  have e : (Str.join sep ys).cps.toList = TL.joinL sep.cps.toList (ys.map fun y => y.cps.toList) := TL.tl_join sep ys
  rw [e]
  obtain ⟨a, b⟩ := joinL_ok (m := m) hs.2 hs.1 (ys.map fun y => y.cps.toList) fun p hp => by
    obtain ⟨y, hy, rfl⟩ := List.mem_map.mp hp
    have q := Sok.iff.mp (h y hy)
    exact ⟨q.2, q.1⟩
  rw [List.length_map] at a
  exact ⟨b, a⟩
end Aw
namespace Aw
open PySem PySem.Spec L2
def LETT : Str := "abcdefghijklmnopqrstuvwxyz"
def SGN : Str := "abcdefghijklmnopqrstuvwxyz0123456789"
def KEPTS : List Str := ["unset", "tell", "say", "stop", "if", "else", "repeat", "pass", "rest", "of", "set", "not", "program"]
def isSgn (c : Nat) : Bool := decide (c ∈ SGN.cps.toList)
def isLet (c : Nat) : Bool := decide (c ∈ LETT.cps.toList)
def isWordS (x : Str) : Bool := decide (1 ≤ x.length) && decide (x.length ≤ 8) && !decide (x = "unsure") && x.cps.toList.all isSgn
def isNameS (x : Str) : Bool := decide (1 ≤ x.length) && decide (x.length ≤ 8) && isLet (x.cps.toList.headD 0) && x.cps.toList.all isSgn && !KEPTS.contains x
theorem inV_strs (x : Str) : ∀ ys : List Str, inV (.str x) (ys.map V.str) = ys.contains x
  | [] => rfl
  | y :: r => by
    have q := inV_strs x r
    unfold inV at q ⊢
    rw [List.map_cons, List.any_cons, q, List.contains_cons]
    congr 1
    show decide (y = x) = decide (x = y)
    exact decide_eq_decide.mpr ⟨Eq.symm, Eq.symm⟩
theorem filter_all {α : Type} (f : α → Bool) : ∀ l : List α, (l.filter fun c => !f c).isEmpty = l.all f
  | [] => rfl
  | c :: r => by
    cases h : f c with
    | true => rw [List.filter_cons_of_neg (by rw [h]; decide), List.all_cons, h, Bool.true_and]; exact filter_all f r
    | false => rw [List.filter_cons_of_pos (by rw [h]; decide), List.all_cons, h, Bool.false_and]; rfl
def isWord : PyData → Bool
  | .str x => isWordS x
  | _ => false
def isName : PyData → Bool
  | .str x => isNameS x
  | _ => false
def isWhole (lo hi : Int) : PyData → Bool
  | .int i => decide (lo ≤ i) && decide (i ≤ hi)
  | _ => false
def isExprL (f : PyData → Bool) : List PyData → Bool
  | [.str w, a, b] => f b && (if w = "times" then isWhole (-9) 9 a else (decide (w = "plus") || decide (w = "minus")) && f a)
  | _ => false
def isExprW (f : PyData → Bool) : PyData → Bool
  | .tuple ds => isExprL f ds
  | d => isName d || isWhole (-99) 99 d
def isExpr : Nat → PyData → Bool
  | 0 => fun _ => false
  | n + 1 => isExprW (isExpr n)
theorem isStr_of {a : PyData} (h : isaD a "str" = true) : ∃ x, a = .str x := by
  cases a <;> first | exact ⟨_, rfl⟩ | (exfalso; revert h; simp [isaD, tyD]; done)
theorem inV_two (x a b : Str) : inV (.str x) [.str a, .str b] = (decide (x = a) || decide (x = b)) := by
  have q := inV_strs x [a, b]
  rw [show [a, b].map V.str = [.str a, .str b] from rfl] at q
  rw [q]
  by_cases h1 : x = a <;> by_cases h2 : x = b <;> simp [h1, h2]
theorem isExprL_len {f : PyData → Bool} {ds : List PyData} (h : ds.length ≠ 3) : isExprL f ds = false := by
  unfold isExprL
  split
  · exact absurd rfl h
  · rfl
theorem isExprL_str {f : PyData → Bool} {a b c : PyData} (h : isaD a "str" = false) : isExprL f [a, b, c] = false := by
  cases a <;> first | rfl | (exfalso; revert h; simp [isaD, tyD]; done)
def isRestL : List PyData → Bool
  | [_, a, .int b, c] => isExpr 3 a && isWhole 2 6 (.int b) && isWhole 0 (b - 1) c
  | _ => false
theorem isRestL_len {ds : List PyData} (h : ds.length ≠ 4) : isRestL ds = false := by
  unfold isRestL
  split
  · exact absurd rfl h
  · rfl
theorem isRestL4 (x a b c : PyData) : isRestL [x, a, b, c] = (isExpr 3 a && (isWhole 2 6 b && (match b with | .int i => isWhole 0 (i - 1) c | _ => false))) := by
  cases b with
  | int i => rw [isRestL, Bool.and_assoc]
  | _ => simp [isRestL, isWhole]
def two (f : PyData → PyData → Bool) : List PyData → Bool
  | [a, b] => f a b
  | _ => false
def one (f : PyData → Bool) : List PyData → Bool
  | [a] => f a
  | _ => false
theorem two_len {f : PyData → PyData → Bool} {r : List PyData} (h : r.length ≠ 2) : two f r = false := by
  unfold two
  split
  · exact absurd rfl h
  · rfl
theorem one_len {f : PyData → Bool} {r : List PyData} (h : r.length ≠ 1) : one f r = false := by
  unfold one
  split
  · exact absurd rfl h
  · rfl
def isTestL (f : PyData → Bool) (w : Str) (r : List PyData) : Bool :=
  if w = "less" then two (fun a b => isExpr 3 a && isExpr 3 b) r
  else if w = "rest" then isRestL (.str w :: r)
  else if w = "given" then one isName r
  else if w = "not" then one f r
  else false
def isTestW (f : PyData → Bool) : PyData → Bool
  | .tuple (.str w :: r) => isTestL f w r
  | _ => false
def isTest : Nat → PyData → Bool
  | 0 => isTestW fun _ => false
  | n + 1 => isTestW (isTest n)
theorem isTest_F (n : Nat) (d : PyData) : ∃ F : PyData → Bool, isTest n d = isTestW F d ∧ ((n = 0 ∧ F = fun _ => false) ∨ ∃ m, n = m + 1 ∧ F = isTest m) := by
  cases n with
  | zero => exact ⟨_, rfl, .inl ⟨rfl, rfl⟩⟩
  | succ m => exact ⟨_, rfl, .inr ⟨m, rfl, rfl⟩⟩
theorem isTestW_str {f : PyData → Bool} {a : PyData} {r : List PyData} (h : isaD a "str" = false) : isTestW f (.tuple (a :: r)) = false := by
  cases a <;> first | rfl | (exfalso; revert h; simp [isaD, tyD]; done)
def isPlainL (w : Str) (r : List PyData) : Bool :=
  if w = "set" then two (fun a b => isName a && isExpr 3 b) r
  else if w = "unset" then one isName r
  else if w = "tell" then one (isExpr 3) r
  else if w = "say" ∨ w = "stop" then one isWord r
  else false
def isTupD : PyData → Bool
  | .tuple _ => true
  | _ => false
theorem isa_tup (d : PyData) : isaD d "tuple" = isTupD d := by
  cases d <;> simp [isaD, tyD, isTupD]
def three (f : PyData → PyData → PyData → Bool) : List PyData → Bool
  | [a, b, c] => f a b c
  | _ => false
theorem three_len {f : PyData → PyData → PyData → Bool} {r : List PyData} (h : r.length ≠ 3) : three f r = false := by
  unfold three
  split
  · exact absurd rfl h
  · rfl
theorem two_view {f : PyData → PyData → Bool} {r : List PyData} (h : two f r = true) : ∃ a b, r = [a, b] ∧ f a b = true := by
  unfold two at h
  split at h
  · exact ⟨_, _, rfl, h⟩
  · cases h
theorem one_view {f : PyData → Bool} {r : List PyData} (h : one f r = true) : ∃ a, r = [a] ∧ f a = true := by
  unfold one at h
  split at h
  · exact ⟨_, rfl, h⟩
  · cases h
theorem three_view {f : PyData → PyData → PyData → Bool} {r : List PyData} (h : three f r = true) : ∃ a b c, r = [a, b, c] ∧ f a b c = true := by
  unfold three at h
  split at h
  · exact ⟨_, _, _, rfl, h⟩
  · cases h
def isStmtL (w : Str) (r : List PyData) : Bool :=
  if w = "if" then three (fun t y z => isTest 2 t && (isTupD y && isTupD z)) r
  else if w = "repeat" then two (fun k b => isWhole 0 8 k && isTupD b) r
  else isPlainL w r
def isStmt : PyData → Bool
  | .tuple (.str w :: r) => isStmtL w r
  | _ => false
theorem isStmt_str {a : PyData} {r : List PyData} (h : isaD a "str" = false) : isStmt (.tuple (a :: r)) = false := by
  cases a <;> first | rfl | (exfalso; revert h; simp [isaD, tyD]; done)
mutual
def dsz : PyData → Nat
  | .none => 1
  | .bool _ => 1
  | .int _ => 1
  | .str x => 1 + x.length
  | .list ds => 1 + dszs ds
  | .tuple ds => 1 + dszs ds
  | .dict _ => 1
def dszs : List PyData → Nat
  | [] => 0
  | d :: r => dsz d + dszs r
end
theorem dsz_pos (d : PyData) : 1 ≤ dsz d := by cases d <;> (rw [dsz]; try omega)
theorem dszs_app : ∀ a b : List PyData, dszs (a ++ b) = dszs a + dszs b
  | [], b => by rw [List.nil_append, dszs, Nat.zero_add]
  | s :: r, b => by rw [List.cons_append, dszs, dszs, dszs_app r b, Nat.add_assoc]
theorem dszs_len : ∀ b : List PyData, b.length ≤ dszs b
  | [] => Nat.zero_le _
  | d :: r => by have := dszs_len r; have := dsz_pos d; rw [dszs, List.length_cons]; omega
def tupOf : PyData → List PyData
  | .tuple ds => ds
  | _ => []
/-- the blocks of a statement -/
def blks : PyData → List (List PyData)
  | .tuple (.str w :: r) => if w = "if" then (match r with
      | [_, y, z] => [tupOf y, tupOf z]
      | _ => [])
    else if w = "repeat" then (match r with
      | [_, b] => [tupOf b]
      | _ => [])
    else []
  | _ => []
def inner (d : PyData) : List PyData := (blks d).flatten
theorem dsz_tupOf (d : PyData) : dszs (tupOf d) + 1 ≤ dsz d := by
  cases d <;> simp [tupOf, dsz, dszs]; omega
theorem inner_size (d : PyData) : dszs (inner d) + 1 ≤ dsz d := by
  have h0 := dsz_pos d
  unfold inner
  unfold blks
  split
  · rename_i w r
    split
    · split
      · rename_i t y z
        have a := dsz_tupOf y
        have b := dsz_tupOf z
        have c := dsz_pos t
        simp only [List.flatten_cons, List.flatten_nil, List.append_nil, dszs_app, dsz, dszs]
        omega
      · rw [List.flatten_nil, dszs]
        omega
    · split
      · split
        · rename_i t b
          have a := dsz_tupOf b
          simp only [List.flatten_cons, List.flatten_nil, List.append_nil, dszs_app, dsz, dszs]
          omega
        · rw [List.flatten_nil, dszs]
          omega
      · rw [List.flatten_nil, dszs]
        omega
  · rw [List.flatten_nil, dszs]
    omega
/-- the stack, its top first -/
def ordLoop : Nat → List (Nat × PyData) → Nat → Option (Nat × Str)
  | _, [], _ => none
  | 0, _ :: _, _ => none
  | f + 1, (dep, d) :: st, pl => if dep > 3 then some (pl, "nest") else if isStmt d = false then some (pl, "statement")
      else ordLoop f ((inner d).map (fun e => (dep + 1, e)) ++ st) (pl + 1)
def stSize (st : List (Nat × PyData)) : Nat := dszs (st.map (·.2))
theorem stSize_cons (n : Nat) (d : PyData) (st : List (Nat × PyData)) : stSize ((n, d) :: st) = dsz d + stSize st := by
  unfold stSize
  rw [List.map_cons, dszs]
theorem stSize_app (a b : List (Nat × PyData)) : stSize (a ++ b) = stSize a + stSize b := by
  unfold stSize
  rw [List.map_append, dszs_app]
theorem stSize_map (n : Nat) (ds : List PyData) : stSize (ds.map fun e => (n, e)) = dszs ds := by
  unfold stSize
  rw [List.map_map]
  have e : ((·.2) ∘ fun e : PyData => (n, e)) = id := rfl
  rw [e, List.map_id]
theorem ordLoop_fuel : ∀ (f g : Nat) (st : List (Nat × PyData)) (pl : Nat), stSize st ≤ f → stSize st ≤ g → ordLoop f st pl = ordLoop g st pl := by
  intro f
  induction f with
  | zero =>
    intro g st pl h1 h2
    cases st with
    | nil => cases g <;> rfl
    | cons p st =>
      obtain ⟨n, d⟩ := p
      rw [stSize_cons] at h1
      have := dsz_pos d
      omega
  | succ f ih =>
    intro g st pl h1 h2
    cases st with
    | nil => cases g <;> rfl
    | cons p st =>
      obtain ⟨n, d⟩ := p
      rw [stSize_cons] at h1 h2
      have := dsz_pos d
      have hi := inner_size d
      cases g with
      | zero => omega
      | succ g =>
        rw [ordLoop, ordLoop, ih g _ _ (by rw [stSize_app, stSize_map]; omega) (by rw [stSize_app, stSize_map]; omega)]
def ordErr (ds : List PyData) : Option (Nat × Str) := ordLoop (dszs ds) (ds.map fun e => (0, e)) 0
def Ex.vd : Nat → Ex → Prop
  | 0, _ => False
  | _ + 1, .int i => -99 ≤ i ∧ i ≤ 99
  | _ + 1, .name x => isNameS x = true
  | n + 1, .bin o a b => b.vd n ∧ ((o = "times" ∧ ∃ i : Int, a = .int i ∧ -9 ≤ i ∧ i ≤ 9) ∨ ((o = "plus" ∨ o = "minus") ∧ a.vd n))
def Ts.vd : Nat → Ts → Prop
  | 0, .not _ => False
  | n + 1, .not t => t.vd n
  | _, .given x => isNameS x = true
  | _, .rest e b r => e.vd 3 ∧ 2 ≤ b ∧ b ≤ 6 ∧ 0 ≤ r ∧ r ≤ b - 1
  | _, .less a b => a.vd 3 ∧ b.vd 3
def Pl.vd : Pl → Prop
  | .set x e => isNameS x = true ∧ e.vd 3
  | .unset x => isNameS x = true
  | .tell e => e.vd 3
  | .say w => isWordS w = true
  | .stop w => isWordS w = true
def Sm.vd : Nat → Sm → Prop
  | _, .pl s => s.vd
  | 0, .ifs t y z => t.vd 2 ∧ y = [] ∧ z = []
  | 0, .rep k b => 0 ≤ k ∧ k ≤ 8 ∧ b = []
  | n + 1, .ifs t y z => t.vd 2 ∧ (∀ s ∈ y, Sm.vd n s) ∧ (∀ s ∈ z, Sm.vd n s)
  | n + 1, .rep k b => 0 ≤ k ∧ k ≤ 8 ∧ ∀ s ∈ b, Sm.vd n s
theorem name_view {d : PyData} (h : isName d = true) : ∃ x, d = .str x ∧ isNameS x = true := by
  unfold isName at h
  split at h
  · exact ⟨_, rfl, h⟩
  · cases h
theorem word_view {d : PyData} (h : isWord d = true) : ∃ x, d = .str x ∧ isWordS x = true := by
  unfold isWord at h
  split at h
  · exact ⟨_, rfl, h⟩
  · cases h
theorem whole_view {d : PyData} {lo hi : Int} (h : isWhole lo hi d = true) : ∃ i, d = .int i ∧ lo ≤ i ∧ i ≤ hi := by
  unfold isWhole at h
  split at h
  · simp only [Bool.and_eq_true, decide_eq_true_eq] at h
    exact ⟨_, rfl, h.1, h.2⟩
  · cases h
theorem tup_view {d : PyData} (h : isTupD d = true) : ∃ ds, d = .tuple ds := by
  unfold isTupD at h
  split at h
  · exact ⟨_, rfl⟩
  · cases h
theorem expr_view : ∀ {n : Nat} {d : PyData}, isExpr n d = true → ∃ e : Ex, d = e.d ∧ e.vd n := by
  intro n
  induction n with
  | zero =>
    intro d h
    rw [isExpr] at h
    cases h
  | succ n ih =>
    intro d h
    rw [isExpr] at h
    unfold isExprW at h
    split at h
    · unfold isExprL at h
      split at h
      · rename_i w a b
        rw [Bool.and_eq_true] at h
        obtain ⟨h1, h2⟩ := h
        obtain ⟨eb, rfl, vb⟩ := ih h1
        split at h2
        · rename_i hw
          subst hw
          unfold isWhole at h2
          split at h2
          · rename_i i
            simp only [Bool.and_eq_true, decide_eq_true_eq] at h2
            exact ⟨.bin "times" (.int i) eb, rfl, vb, .inl ⟨rfl, i, rfl, h2.1, h2.2⟩⟩
          · cases h2
        · simp only [Bool.and_eq_true, Bool.or_eq_true, decide_eq_true_eq] at h2
          obtain ⟨h2, h3⟩ := h2
          obtain ⟨ea, rfl, va⟩ := ih h3
          exact ⟨.bin w ea eb, rfl, vb, .inr ⟨h2, va⟩⟩
      · cases h
    · rw [Bool.or_eq_true] at h
      rcases h with h | h
      · obtain ⟨x, rfl, hx⟩ := name_view h
        exact ⟨.name x, rfl, hx⟩
      · obtain ⟨i, rfl, h1, h2⟩ := whole_view h
        exact ⟨.int i, rfl, h1, h2⟩
theorem testL_view {f : PyData → Bool} {w : Str} {r : List PyData} (h : isTestL f w r = true) :
    (∃ a b : Ex, w = "less" ∧ r = [a.d, b.d] ∧ a.vd 3 ∧ b.vd 3) ∨ (∃ (e : Ex) (b c : Int), w = "rest" ∧ r = [e.d, .int b, .int c] ∧ e.vd 3 ∧ 2 ≤ b ∧ b ≤ 6 ∧ 0 ≤ c ∧ c ≤ b - 1) ∨
    (∃ x, w = "given" ∧ r = [.str x] ∧ isNameS x = true) ∨ (∃ a, w = "not" ∧ r = [a] ∧ f a = true) := by
  unfold isTestL at h
  split at h
  · rename_i hw
    obtain ⟨a, b, rfl, hh⟩ := two_view h
    clear h
    have h := hh
    rw [Bool.and_eq_true] at h
    obtain ⟨a, rfl, va⟩ := expr_view h.1
    obtain ⟨b, rfl, vb⟩ := expr_view h.2
    exact .inl ⟨a, b, hw, rfl, va, vb⟩
  split at h
  · rename_i hw
    unfold isRestL at h
    split at h
    · rename_i hr
      cases hr
      simp only [Bool.and_eq_true] at h
      obtain ⟨⟨h1, h2⟩, h3⟩ := h
      obtain ⟨e, rfl, ve⟩ := expr_view h1
      obtain ⟨i, hi, b1, b2⟩ := whole_view h2
      cases hi
      obtain ⟨j, rfl, c1, c2⟩ := whole_view h3
      exact .inr (.inl ⟨e, _, j, hw, rfl, ve, b1, b2, c1, c2⟩)
    · cases h
  split at h
  · rename_i hw
    obtain ⟨a, rfl, hh⟩ := one_view h
    clear h
    have h := hh
    obtain ⟨x, rfl, hx⟩ := name_view h
    exact .inr (.inr (.inl ⟨x, hw, rfl, hx⟩))
  split at h
  · rename_i hw
    obtain ⟨a, rfl, hh⟩ := one_view h
    clear h
    have h := hh
    exact .inr (.inr (.inr ⟨_, hw, rfl, h⟩))
  · cases h
theorem testW_view {n : Nat} {f : PyData → Bool} {d : PyData} (hf : ∀ a, f a = true → ∃ t : Ts, a = t.d ∧ (Ts.not t).vd n) (h : isTestW f d = true) : ∃ t : Ts, d = t.d ∧ t.vd n := by
  unfold isTestW at h
  split at h
  · rcases testL_view h with ⟨a, b, rfl, rfl, va, vb⟩ | ⟨e, b, c, rfl, rfl, q⟩ | ⟨x, rfl, rfl, q⟩ | ⟨a, rfl, rfl, q⟩
    · exact ⟨.less a b, rfl, by cases n <;> exact ⟨va, vb⟩⟩
    · exact ⟨.rest e b c, rfl, by cases n <;> exact q⟩
    · exact ⟨.given x, rfl, by cases n <;> exact q⟩
    · obtain ⟨t, rfl, ht⟩ := hf a q
      exact ⟨.not t, rfl, ht⟩
  · cases h
theorem test_view : ∀ {n : Nat} {d : PyData}, isTest n d = true → ∃ t : Ts, d = t.d ∧ t.vd n
  | 0, d, h => testW_view (fun a q => by cases q) h
  | n + 1, d, h => testW_view (fun a q => test_view (n := n) q) h
theorem plain_view {w : Str} {r : List PyData} (h : isPlainL w r = true) : ∃ p : Pl, .tuple (.str w :: r) = p.d ∧ p.vd := by
  unfold isPlainL at h
  split at h
  · rename_i hw
    subst hw
    obtain ⟨a, b, rfl, hh⟩ := two_view h
    clear h
    have h := hh
    rw [Bool.and_eq_true] at h
    obtain ⟨x, rfl, hx⟩ := name_view h.1
    obtain ⟨e, rfl, he⟩ := expr_view h.2
    exact ⟨.set x e, rfl, hx, he⟩
  split at h
  · rename_i hw
    subst hw
    obtain ⟨a, rfl, hh⟩ := one_view h
    clear h
    have h := hh
    obtain ⟨x, rfl, hx⟩ := name_view h
    exact ⟨.unset x, rfl, hx⟩
  split at h
  · rename_i hw
    subst hw
    obtain ⟨a, rfl, hh⟩ := one_view h
    clear h
    have h := hh
    obtain ⟨e, rfl, he⟩ := expr_view h
    exact ⟨.tell e, rfl, he⟩
  split at h
  · rename_i hw
    obtain ⟨a, rfl, hh⟩ := one_view h
    clear h
    have h := hh
    obtain ⟨x, rfl, hx⟩ := word_view h
    rcases hw with rfl | rfl
    · exact ⟨.say x, rfl, hx⟩
    · exact ⟨.stop x, rfl, hx⟩
  · cases h
theorem Pl.hd (p : Pl) : ∃ u r, p.d = .tuple (.str u :: r) ∧ u ≠ "if" ∧ u ≠ "repeat" := by
  cases p <;> exact ⟨_, _, rfl, by decide +kernel, by decide +kernel⟩
/-- what a statement is -/
theorem stmt_view {d : PyData} (h : isStmt d = true) : (∃ p : Pl, d = p.d ∧ p.vd ∧ blks d = []) ∨ (∃ (t : Ts) (y z : List PyData), d = .tuple [.str "if", t.d, .tuple y, .tuple z] ∧ t.vd 2 ∧ blks d = [y, z]) ∨
    (∃ (k : Int) (b : List PyData), d = .tuple [.str "repeat", .int k, .tuple b] ∧ 0 ≤ k ∧ k ≤ 8 ∧ blks d = [b]) := by
  unfold isStmt at h
  split at h
  · unfold isStmtL at h
    split at h
    · rename_i hw
      subst hw
      obtain ⟨a, b, c, rfl, hh⟩ := three_view h
      clear h
      have h := hh
      simp only [Bool.and_eq_true] at h
      obtain ⟨t, rfl, ht⟩ := test_view h.1
      obtain ⟨y, rfl⟩ := tup_view h.2.1
      obtain ⟨z, rfl⟩ := tup_view h.2.2
      exact .inr (.inl ⟨t, y, z, rfl, ht, rfl⟩)
    split at h
    · rename_i hw
      subst hw
      obtain ⟨a, b, rfl, hh⟩ := two_view h
      clear h
      have h := hh
      simp only [Bool.and_eq_true] at h
      obtain ⟨k, rfl, k1, k2⟩ := whole_view h.1
      obtain ⟨b, rfl⟩ := tup_view h.2
      exact .inr (.inr ⟨k, b, rfl, k1, k2, rfl⟩)
    · rename_i w r n1 n2
      obtain ⟨p, e, hp⟩ := plain_view h
      refine .inl ⟨p, e, hp, ?_⟩
      unfold blks
      simp only [if_neg n1, if_neg n2]
  · cases h
theorem trees_of {n : Nat} : ∀ {ds : List PyData}, (∀ d ∈ ds, ∃ s : Sm, d = s.d ∧ s.vd n) → ∃ b : List Sm, ds = Sm.ds b ∧ ∀ s ∈ b, Sm.vd n s
  | [], _ => ⟨[], by rw [Sm.ds], fun _ h => nomatch h⟩
  | d :: r, h => by
    obtain ⟨s, rfl, hs⟩ := h d (List.mem_cons_self ..)
    obtain ⟨b, rfl, hb⟩ := trees_of fun d hd => h d (List.mem_cons_of_mem _ hd)
    refine ⟨s :: b, by rw [Sm.ds], fun z hz => ?_⟩
    rcases List.mem_cons.mp hz with rfl | hz
    · exact hs
    · exact hb z hz
theorem ordLoop_view : ∀ (f : Nat) (st : List (Nat × PyData)) (pl : Nat), stSize st ≤ f → ordLoop f st pl = none → ∀ p ∈ st, p.1 ≤ 3 ∧ ∃ s : Sm, p.2 = s.d ∧ s.vd (3 - p.1) := by
  intro f
  induction f with
  | zero =>
    intro st pl h _ p hp
    cases st with
    | nil => cases hp
    | cons q st =>
      obtain ⟨n, d⟩ := q
      rw [stSize_cons] at h
      have := dsz_pos d
      omega
  | succ f ih =>
    intro st pl h e p hp
    cases st with
    | nil => cases hp
    | cons q st =>
      obtain ⟨n, d⟩ := q
      rw [stSize_cons] at h
      have hz := dsz_pos d
      have hi := inner_size d
      rw [ordLoop] at e
      split at e
      · cases e
      rename_i hn
      split at e
      · cases e
      rename_i hs
      have IH := ih _ _ (by rw [stSize_app, stSize_map]; omega) e
      rcases List.mem_cons.mp hp with rfl | hp
      · refine ⟨by omega, ?_⟩
        have kids : ∀ b ∈ blks d, (n = 3 → b = []) ∧ ∃ c : List Sm, b = Sm.ds c ∧ ∀ s ∈ c, Sm.vd (3 - (n + 1)) s := by
          intro b hb
          have hall : ∀ x ∈ b, n + 1 ≤ 3 ∧ ∃ s : Sm, x = s.d ∧ s.vd (3 - (n + 1)) := fun x hx =>
            IH (n + 1, x) (List.mem_append_left _ (List.mem_map.mpr ⟨x, List.mem_flatten.mpr ⟨b, hb, hx⟩, rfl⟩))
          refine ⟨fun h3 => ?_, trees_of fun x hx => (hall x hx).2⟩
          cases b with
          | nil => rfl
          | cons x r =>
            have := (hall x (List.mem_cons_self ..)).1
            omega
        have hs : isStmt d = true := by
          cases hq : isStmt d with
          | true => rfl
          | false => exact absurd hq hs
        have hn3 : n ≤ 3 := by omega
        rcases stmt_view hs with ⟨p, rfl, hp, _⟩ | ⟨t, y, z, rfl, ht, hb⟩ | ⟨k, b, rfl, k1, k2, hb⟩
        · exact ⟨.pl p, by rw [Sm.d], by cases (3 - n) <;> exact hp⟩
        · rw [hb] at kids
          obtain ⟨y3, cy, rfl, vy⟩ := kids y (by simp)
          obtain ⟨z3, cz, rfl, vz⟩ := kids z (by simp)
          refine ⟨.ifs t cy cz, by rw [Sm.d], ?_⟩
          by_cases h3 : n = 3
          · subst h3
            refine ⟨ht, ?_, ?_⟩
            · have q := y3 rfl
              cases cy with
              | nil => rfl
              | cons _ _ => rw [Sm.ds] at q; cases q
            · have q := z3 rfl
              cases cz with
              | nil => rfl
              | cons _ _ => rw [Sm.ds] at q; cases q
          · obtain ⟨m, hm⟩ : ∃ m, 3 - n = m + 1 := ⟨2 - n, by omega⟩
            have hm2 : 3 - (n + 1) = m := by omega
            rw [hm2] at vy vz
            rw [hm]
            exact ⟨ht, vy, vz⟩
        · rw [hb] at kids
          obtain ⟨y3, cy, rfl, vy⟩ := kids b (by simp)
          refine ⟨.rep k cy, by rw [Sm.d], ?_⟩
          by_cases h3 : n = 3
          · subst h3
            refine ⟨k1, k2, ?_⟩
            have q := y3 rfl
            cases cy with
            | nil => rfl
            | cons _ _ => rw [Sm.ds] at q; cases q
          · obtain ⟨m, hm⟩ : ∃ m, 3 - n = m + 1 := ⟨2 - n, by omega⟩
            have hm2 : 3 - (n + 1) = m := by omega
            rw [hm2] at vy
            rw [hm]
            exact ⟨k1, k2, vy⟩
      · exact IH p (List.mem_append_right _ hp)
theorem ordErr_view {ds : List PyData} (h : ordErr ds = none) : ∃ b : List Sm, ds = Sm.ds b ∧ ∀ s ∈ b, Sm.vd 3 s :=
  trees_of fun d hd => (ordLoop_view _ _ 0 (by rw [stSize_map]; exact Nat.le_refl _) h (0, d) (List.mem_map.mpr ⟨d, hd, rfl⟩)).2
structure DwL (M : List Addr) (K : PySem.W.Frag) (H : Hp) (vs : List V) (ds : List PyData) : Prop where
  len : vs.length = ds.length
  all : ∀ (i : Nat) (v : V) (d : PyData), vs[i]? = some v → ds[i]? = some d → Dw M K H v d
structure Stk (M : List Addr) (K : PySem.W.Frag) (H : Hp) (vs : List V) (st : List (Nat × PyData)) : Prop where
  len : vs.length = st.length
  all : ∀ (i : Nat) (v : V) (p : Nat × PyData), vs[i]? = some v → st[i]? = some p → ∃ (a : Addr) (y : V), v = .ref a ∧ H a = some (.tup [.int p.1, y]) ∧ Dw M K H y p.2
section
variable {M : List Addr} {K : PySem.W.Frag} {H H1 : Hp} {v : V} {vs us : List V} {d : PyData} {ds es : List PyData} {st tt : List (Nat × PyData)} {p : Nat × PyData}
theorem Dw.fresh {l : Addr} (h : Dw M K H v d) (n : H l = none) : Dw (l :: M) K H v d := by
  induction h with
  | non => exact .non
  | bl b => exact .bl b
  | int i => exact .int i
  | str x => exact .str x
  | tup s l _ ih => exact .tup s l ih
  | lst e k l _ ih =>
    refine .lst e (fun m => ?_) l ih
    rcases List.mem_cons.mp m with z | z
    · rw [z, n] at e; cases e
    · exact k z
  | dct e k l q _ ih =>
    refine .dct e (fun m => ?_) l q ih
    rcases List.mem_cons.mp m with z | z
    · rw [z, n] at e; cases e
    · exact k z
theorem Dw.items {ds : List PyData} (h : Dw M K H v (.tuple ds)) : ∃ (a : Addr) (xs : List V), v = .ref a ∧ SqT K H a xs ∧ DwL M K H xs ds := by
  obtain ⟨a, xs, e, s, l, q⟩ := h.isTup
  exact ⟨a, xs, e, s, l, q⟩
theorem DwL.kp (h : DwL M K H vs ds) (k : Kp M H H1) : DwL M K H1 vs ds := ⟨h.len, fun i v d e e' => (h.all i v d e e').kp k⟩
theorem DwL.kp0 (h : DwL M K H vs ds) (k : Kp [] H H1) : DwL M K H1 vs ds := ⟨h.len, fun i v d e e' => (h.all i v d e e').kp0 k⟩
theorem DwL.nil : DwL M K H [] [] := ⟨rfl, fun i v d e => by simp at e⟩
theorem DwL.cons (hv : Dw M K H v d) (h : DwL M K H vs ds) : DwL M K H (v :: vs) (d :: ds) := by
  refine ⟨by rw [List.length_cons, List.length_cons, h.len], fun i u e q q' => ?_⟩
  cases i with
  | zero =>
    cases q
    cases q'
    exact hv
  | succ i => exact h.all i u e (by simpa using q) (by simpa using q')
theorem DwL.inv (h : DwL M K H vs (d :: ds)) : ∃ v r, vs = v :: r ∧ Dw M K H v d ∧ DwL M K H r ds := by
  cases vs with
  | nil => have := h.len; simp at this
  | cons v r => exact ⟨v, r, rfl, h.all 0 v d rfl rfl, by have := h.len; simpa using this, fun i u e q q' => h.all (i + 1) u e (by simpa using q) (by simpa using q')⟩
theorem DwL.inv0 (h : DwL M K H vs []) : vs = [] := List.length_eq_zero_iff.mp h.len
theorem DwL.get {i : Nat} (h : DwL M K H vs ds) (e : vs[i]? = some v) : ∃ d, ds[i]? = some d ∧ Dw M K H v d := by
  have hi := (List.getElem?_eq_some_iff.mp e).1
  have hj : i < ds.length := by rw [← h.len]; exact hi
  exact ⟨ds[i], List.getElem?_eq_getElem hj, h.all i v _ e (List.getElem?_eq_getElem hj)⟩
theorem DwL.is1 (h : DwL M K H vs ds) (e : vs.length = 1) : ∃ (x : V) (a : PyData), vs = [x] ∧ ds = [a] ∧ Dw M K H x a := by
  have e2 := h.len
  match vs, ds, e, e2, h with
  | [x], [a], _, _, h => exact ⟨x, a, rfl, rfl, h.all 0 x a rfl rfl⟩
theorem DwL.is2 (h : DwL M K H vs ds) (e : vs.length = 2) : ∃ (x y : V) (a b : PyData), vs = [x, y] ∧ ds = [a, b] ∧ Dw M K H x a ∧ Dw M K H y b := by
  have e2 := h.len
  match vs, ds, e, e2, h with
  | [x, y], [a, b], _, _, h => exact ⟨x, y, a, b, rfl, rfl, h.all 0 x a rfl rfl, h.all 1 y b rfl rfl⟩
theorem DwL.is3 (h : DwL M K H vs ds) (e : vs.length = 3) : ∃ (x y z : V) (a b c : PyData), vs = [x, y, z] ∧ ds = [a, b, c] ∧ Dw M K H x a ∧ Dw M K H y b ∧ Dw M K H z c := by
  have e2 := h.len
  match vs, ds, e, e2, h with
  | [x, y, z], [a, b, c], _, _, h => exact ⟨x, y, z, a, b, c, rfl, rfl, h.all 0 x a rfl rfl, h.all 1 y b rfl rfl, h.all 2 z c rfl rfl⟩
theorem DwL.is4 (h : DwL M K H vs ds) (e : vs.length = 4) : ∃ (x y z u : V) (a b c d : PyData), vs = [x, y, z, u] ∧ ds = [a, b, c, d] ∧ Dw M K H x a ∧ Dw M K H y b ∧ Dw M K H z c ∧ Dw M K H u d := by
  have e2 := h.len
  match vs, ds, e, e2, h with
  | [x, y, z, u], [a, b, c, d], _, _, h => exact ⟨x, y, z, u, a, b, c, d, rfl, rfl, h.all 0 x a rfl rfl, h.all 1 y b rfl rfl, h.all 2 z c rfl rfl, h.all 3 u d rfl rfl⟩
theorem Stk.kp (h : Stk M K H vs st) (k : Kp M H H1) : Stk M K H1 vs st := ⟨h.len, fun i v p e e' => by
  obtain ⟨a, y, q1, q2, q3⟩ := h.all i v p e e'
  exact ⟨a, y, q1, k.tup q2, q3.kp k⟩⟩
theorem Stk.kp0 (h : Stk M K H vs st) (k : Kp [] H H1) : Stk M K H1 vs st := ⟨h.len, fun i v p e e' => by
  obtain ⟨a, y, q1, q2, q3⟩ := h.all i v p e e'
  exact ⟨a, y, q1, k.tup q2, q3.kp0 k⟩⟩
theorem Stk.fresh {l : Addr} (h : Stk M K H vs st) (n : H l = none) : Stk (l :: M) K H vs st := ⟨h.len, fun i v p e e' => by
  obtain ⟨a, y, q1, q2, q3⟩ := h.all i v p e e'
  exact ⟨a, y, q1, q2, q3.fresh n⟩⟩
theorem Stk.nil : Stk M K H [] [] := ⟨rfl, fun i v d e => by simp at e⟩
theorem Stk.app (h : Stk M K H vs st) (h2 : Stk M K H us tt) : Stk M K H (vs ++ us) (st ++ tt) := by
  refine ⟨by rw [List.length_append, List.length_append, h.len, h2.len], fun i u e q q' => ?_⟩
  by_cases hi : i < vs.length
  · rw [List.getElem?_append_left hi] at q
    rw [List.getElem?_append_left (by rw [← h.len]; exact hi)] at q'
    exact h.all i u e q q'
  · rw [List.getElem?_append_right (by omega)] at q
    rw [List.getElem?_append_right (by rw [← h.len]; omega), ← h.len] at q'
    exact h2.all _ u e q q'
theorem Stk.rev (h : Stk M K H vs st) : Stk M K H vs.reverse st.reverse := by
  refine ⟨by rw [List.length_reverse, List.length_reverse, h.len], fun i u e q q' => ?_⟩
  have hi : i < vs.length := by have := (List.getElem?_eq_some_iff.mp q).1; rwa [List.length_reverse] at this
  rw [List.getElem?_reverse hi] at q
  rw [List.getElem?_reverse (by rw [← h.len]; exact hi), ← h.len] at q'
  exact h.all _ u e q q'
theorem Stk.one {a : Addr} {y : V} (h : H a = some (.tup [.int p.1, y])) (hy : Dw M K H y p.2) : Stk M K H [.ref a] [p] := ⟨rfl, fun i v q e e' => by
  match i, e, e' with
  | 0, e, e' => cases e; cases e'; exact ⟨a, y, rfl, h, hy⟩⟩
theorem Stk.last (h : Stk M K H vs (st ++ [p])) : ∃ (us : List V) (a : Addr) (y : V), vs = us ++ [.ref a] ∧ Stk M K H us st ∧ H a = some (.tup [.int p.1, y]) ∧ Dw M K H y p.2 := by
  have hl := h.len
  rw [List.length_append, List.length_singleton] at hl
  have hlt : st.length < vs.length := by omega
  obtain ⟨a, y, e, q1, q2⟩ := h.all st.length vs[st.length] p (List.getElem?_eq_getElem hlt) (by simp)
  refine ⟨vs.take st.length, a, y, ?_, ⟨by rw [List.length_take]; omega, fun i u e' q q' => ?_⟩, q1, q2⟩
  · rw [← e]
    have q := List.take_append_drop st.length vs
    rw [List.drop_eq_getElem_cons hlt, List.drop_eq_nil_of_le (by omega)] at q
    exact q.symm
  · have hi : i < st.length := (List.getElem?_eq_some_iff.mp q').1
    rw [List.getElem?_take, if_pos hi] at q
    exact h.all i u e' q (by rw [List.getElem?_append_left hi]; exact q')
end
section
variable {M N : List Addr} {K : PySem.W.Frag} {H H1 : Hp} {v : V} {vs us : List V} {d : PyData} {ds es : List PyData} {st tt : List (Nat × PyData)}
theorem Dw.kpS (a : Kp N H H1) (s : ∀ b ∈ N, b ∈ M) (h : Dw M K H v d) : Dw M K H1 v d := by
  induction h with
  | non => exact .non
  | bl b => exact .bl b
  | int i => exact .int i
  | str x => exact .str x
  | tup e l _ ih => exact .tup (sqT_kp a e) l ih
  | lst e n l _ ih => exact .lst (a.get e fun m => n (s _ m)) n l ih
  | dct e n l q _ ih => exact .dct (a.get e fun m => n (s _ m)) n l q ih
theorem DwL.kpS (h : DwL M K H vs ds) (a : Kp N H H1) (s : ∀ b ∈ N, b ∈ M) : DwL M K H1 vs ds := ⟨h.len, fun i v d e e' => (h.all i v d e e').kpS a s⟩
theorem Stk.kpS (h : Stk M K H vs st) (a : Kp N H H1) (s : ∀ b ∈ N, b ∈ M) : Stk M K H1 vs st := ⟨h.len, fun i v p e e' => by
  obtain ⟨c, y, q1, q2, q3⟩ := h.all i v p e e'
  exact ⟨c, y, q1, a.tup q2, q3.kpS a s⟩⟩
theorem DwL.fresh {l : Addr} (h : DwL M K H vs ds) (n : H l = none) : DwL (l :: M) K H vs ds := ⟨h.len, fun i v d e e' => (h.all i v d e e').fresh n⟩
theorem DwL.sub (h : DwL M K H vs ds) (s : ∀ b ∈ N, b ∈ M) : DwL N K H vs ds := ⟨h.len, fun i v d e e' => (h.all i v d e e').sub s⟩
theorem Stk.sub (h : Stk M K H vs st) (s : ∀ b ∈ N, b ∈ M) : Stk N K H vs st := ⟨h.len, fun i v p e e' => by
  obtain ⟨c, y, q1, q2, q3⟩ := h.all i v p e e'
  exact ⟨c, y, q1, q2, q3.sub s⟩⟩
/-- [(n, item) for item in a tuple] -/
theorem lc_stk {te : TE} {ws : List Nat} {σ : L2.St} {Q : VK} {a : Addr} {n j : Nat} (hT : SqT K H a vs) (hL : DwL M K H vs ds) (hz : ds.length ≤ 1000000)
    (he : ∀ (x : V) (H' : Hp) (R : VK), (∀ p, H' p = none → R (.ref p) (upd H' p (.tup [.int n, x]))) → te ((wipe σ ws).set j (some x)) H' R)
    (hw : ∀ v : V, wipe ((wipe σ ws).set j (some v)) ws = wipe σ ws)
    (h : ∀ (q : Addr) (H' : Hp) (us : List V), H q = none → Kp [] H H' → H' q = some (.lst us) → Stk M K H' us (ds.map fun e => (n, e)) → Q (.ref q) H') :
    LcT K (gName j) tYes te ws σ Q (.ref a) H := by
  refine r_LcT hT fun q hq => ⟨fun i H' => ∃ us, Kp [] H H' ∧ H' q = some (.lst us) ∧ Stk (q :: M) K H' us ((ds.take i).map fun e => (n, e)), ?_, ?_, ?_, ?_⟩
  · exact ⟨[], Kp.nil.new hq, upd_same, Stk.nil⟩
  · rintro i H' ⟨us, k1, _⟩
    exact sqT_kp k1 hT
  · rintro i x H' hx ⟨us, k1, hq1, hS⟩
    obtain ⟨d, hd, hx1⟩ := hL.get hx
    refine r_name (r_LcTurn (hw _) (r_yes (ifT (he x H' _ fun p hp => ?_))))
    have hqp : q ≠ p := ne_of_none hq1 hp
    have k2 : Kp [] H' (upd H' p (.tup [.int n, x])) := Kp.nil.new hp
    have hq2 := k2.get hq1 (by simp)
    have hil : i < ds.length := (List.getElem?_eq_some_iff.mp hd).1
    have hul : us.length ≤ i := by
      rw [hS.len, List.length_map, List.length_take]
      omega
    refine r_LcEnd hq2 (by rw [sizeLine_eq]; omega) ⟨us ++ [.ref p], (k1.trans k2).own hq, upd_same, ?_⟩
    have k3 := kpW (o := .lst (us ++ [.ref p])) hq2
    have S2 := (hS.kp0 k2).kpS k3 (fun b hb => by rw [List.mem_singleton.mp hb]; exact List.mem_cons_self ..)
    have htk : ds.take (i + 1) = ds.take i ++ [d] := by rw [List.take_add_one, hd]; rfl
    rw [htk, List.map_append]
    refine S2.app (Stk.one (p := (n, d)) (k3.tup upd_same) ?_)
    exact (hx1.fresh hq).kp0 ((k1.trans k2).own hq)
  · rintro H' ⟨us, k1, hq1, hS⟩
    rw [hL.len, List.take_length] at hS
    exact h q H' us hq k1 hq1 (hS.sub fun b hb => List.mem_cons_of_mem _ hb)
end
def spWhole (K : PySem.W.Frag) : Sp := fun vs H Q _ => ∃ (v : V) (d : PyData) (lo hi : Int), vs = [v, .int lo, .int hi] ∧ Dw [] K H v d ∧ Q (.bl (isWhole lo hi d)) H
/-- a question about data -/
def spAsk (K : PySem.W.Frag) (f : PyData → Bool) : Sp := fun vs H Q _ => ∃ (v : V) (d : PyData), vs = [v] ∧ Dw [] K H v d ∧ dsz d ≤ 1000000 ∧ ∀ H', Kp [] H H' → Q (.bl (f d)) H'
def spAskN (K : PySem.W.Frag) (f : Nat → PyData → Bool) (n : Nat) : Sp := fun vs H Q _ => ∃ (v : V) (d : PyData), vs = [v, .int n] ∧ Dw [] K H v d ∧ dsz d ≤ 1000000 ∧ ∀ H', Kp [] H H' → Q (.bl (f n d)) H'
def spAskL (K : PySem.W.Frag) (f : List PyData → Bool) : Sp := fun vs H Q _ => ∃ (v : V) (ds : List PyData), vs = [v] ∧ Dw [] K H v (.tuple ds) ∧ dszs ds ≤ 1000000 ∧ ∀ H', Kp [] H H' → Q (.bl (f ds)) H'
/-- of a tuple that is not empty, its first item a text -/
def spAskT (K : PySem.W.Frag) (f : Str → List PyData → Bool) : Sp := fun vs H Q _ => ∃ (v : V) (w : Str) (r : List PyData), vs = [v] ∧ Dw [] K H v (.tuple (.str w :: r)) ∧ dszs r ≤ 1000000 ∧ ∀ H', Kp [] H H' → Q (.bl (f w r)) H'
def spBlocks (K : PySem.W.Frag) : Sp := fun vs H Q _ => ∃ (M : List Addr) (v : V) (d : PyData), vs = [v] ∧ Dw M K H v d ∧ isStmt d = true ∧
  ∀ (H' : Hp) (p : Addr) (xs : List V), H p = none → Kp [] H H' → H' p = some (.lst xs) → DwL M K H' xs ((blks d).map PyData.tuple) → Q (.ref p) H'
def spItems (K : PySem.W.Frag) : Sp := fun vs H Q _ => ∃ (M : List Addr) (v : V) (d : PyData) (n : Nat), vs = [v, .int n] ∧ Dw M K H v d ∧ isStmt d = true ∧ dsz d ≤ 1000000 ∧
  ∀ (H' : Hp) (p : Addr) (xs : List V), H p = none → Kp [] H H' → H' p = some (.lst xs) → Stk M K H' xs (((inner d).map fun e => (n + 1, e)).reverse) → Q (.ref p) H'
def ordD : Option (Nat × Str) → PyData
  | none => .none
  | some (p, w) => .tuple [.int p, .str w]
def spOrder (K : PySem.W.Frag) : Sp := fun vs H Q _ => ∃ (v : V) (ds : List PyData), vs = [v] ∧ Dw [] K H v (.tuple ds) ∧ dszs ds ≤ 1000000 ∧
  ∀ (H' : Hp) (r : V), Kp [] H H' → Dt K H' r (ordD (ordErr ds)) → Q r H'
theorem Ex.vd.is : ∀ {n : Nat} {e : Ex}, e.vd n → isExpr n e.d = true
  | 0, _, h => h.elim
  | n + 1, .int i, h => by
    show (isName (.int i) || isWhole (-99) 99 (.int i)) = true
    have h1 := h.1
    have h2 := h.2
    simp [isName, isWhole, h1, h2]
  | n + 1, .name x, h => by
    show (isName (.str x) || isWhole (-99) 99 (.str x)) = true
    have h : isNameS x = true := h
    simp [isName, h]
  | n + 1, .bin o a b, h => by
    show (isExpr n b.d && (if o = "times" then isWhole (-9) 9 a.d else (decide (o = "plus") || decide (o = "minus")) && isExpr n a.d)) = true
    obtain ⟨hb, h⟩ := h
    rw [Ex.vd.is hb, Bool.true_and]
    rcases h with ⟨rfl, i, rfl, h1, h2⟩ | ⟨h, ha⟩
    · rw [if_pos rfl]
      show (decide (-9 ≤ i) && decide (i ≤ 9)) = true
      rw [decide_eq_true h1, decide_eq_true h2]
      rfl
    · rw [Ex.vd.is ha]
      rcases h with rfl | rfl
      · rw [if_neg (by decide +kernel), decide_eq_true rfl]
        rfl
      · rw [if_neg (by decide +kernel), decide_eq_true (p := ("minus" : Str) = "minus") rfl, Bool.or_true]
        rfl
theorem Ts.vd.isF {f : PyData → Bool} {n : Nat} {t : Ts} (h : t.vd n) (hf : ∀ u, t = .not u → f u.d = true) : isTestW f t.d = true := by
  cases t with
  | not u =>
    show isTestL f "not" [u.d] = true
    unfold isTestL
    rw [if_neg (by decide +kernel), if_neg (by decide +kernel), if_neg (by decide +kernel), if_pos rfl]
    exact hf u rfl
  | given x =>
    have q : isNameS x = true := by cases n <;> exact h
    show isTestL f "given" [.str x] = true
    unfold isTestL
    rw [if_neg (by decide +kernel), if_neg (by decide +kernel), if_pos rfl]
    exact q
  | rest e b r =>
    have q : e.vd 3 ∧ 2 ≤ b ∧ b ≤ 6 ∧ 0 ≤ r ∧ r ≤ b - 1 := by cases n <;> exact h
    obtain ⟨q, b0, b1, r0, r1⟩ := q
    show isTestL f "rest" [e.d, .int b, .int r] = true
    unfold isTestL
    rw [if_neg (by decide +kernel), if_pos rfl, isRestL, Ex.vd.is q]
    show (true && (decide (2 ≤ b) && decide (b ≤ 6)) && (decide (0 ≤ r) && decide (r ≤ b - 1))) = true
    rw [decide_eq_true b0, decide_eq_true b1, decide_eq_true r0, decide_eq_true r1]
    rfl
  | less a b =>
    have q : a.vd 3 ∧ b.vd 3 := by cases n <;> exact h
    show isTestL f "less" [a.d, b.d] = true
    unfold isTestL
    rw [if_pos rfl]
    show (isExpr 3 a.d && isExpr 3 b.d) = true
    rw [Ex.vd.is q.1, Ex.vd.is q.2]
    rfl
theorem Ts.vd.is : ∀ {n : Nat} {t : Ts}, t.vd n → isTest n t.d = true
  | 0, t, h => Ts.vd.isF h fun u e => by subst e; exact h.elim
  | n + 1, t, h => Ts.vd.isF h fun u e => by subst e; exact Ts.vd.is (n := n) h
theorem Pl.vd.is {p : Pl} (h : p.vd) : isStmt p.d = true := by
  cases p with
  | set x e =>
    show isStmtL "set" [.str x, e.d] = true
    unfold isStmtL isPlainL
    rw [if_neg (by decide +kernel), if_neg (by decide +kernel), if_pos rfl]
    show (isNameS x && isExpr 3 e.d) = true
    rw [h.1, Ex.vd.is h.2]
    rfl
  | unset x =>
    show isStmtL "unset" [.str x] = true
    unfold isStmtL isPlainL
    rw [if_neg (by decide +kernel), if_neg (by decide +kernel), if_neg (by decide +kernel), if_pos rfl]
    exact h
  | tell e =>
    show isStmtL "tell" [e.d] = true
    unfold isStmtL isPlainL
    rw [if_neg (by decide +kernel), if_neg (by decide +kernel), if_neg (by decide +kernel), if_neg (by decide +kernel), if_pos rfl]
    exact Ex.vd.is (n := 3) h
  | say x =>
    show isStmtL "say" [.str x] = true
    unfold isStmtL isPlainL
    rw [if_neg (by decide +kernel), if_neg (by decide +kernel), if_neg (by decide +kernel), if_neg (by decide +kernel), if_neg (by decide +kernel), if_pos (.inl rfl)]
    exact h
  | stop x =>
    show isStmtL "stop" [.str x] = true
    unfold isStmtL isPlainL
    rw [if_neg (by decide +kernel), if_neg (by decide +kernel), if_neg (by decide +kernel), if_neg (by decide +kernel), if_neg (by decide +kernel), if_pos (.inr rfl)]
    exact h
def Sm.kids : Sm → List Sm
  | .pl _ => []
  | .ifs _ y z => y ++ z
  | .rep _ b => b
theorem Sm.ds_app (a b : List Sm) : Sm.ds (a ++ b) = Sm.ds a ++ Sm.ds b := by rw [Sm.ds_map, Sm.ds_map, Sm.ds_map, List.map_append]
theorem Sm.vd.is {n : Nat} {s : Sm} (h : s.vd n) : isStmt s.d = true ∧ inner s.d = Sm.ds s.kids ∧ ∀ c ∈ s.kids, ∃ m, Sm.vd m c ∧ m < n := by
  cases s with
  | pl p =>
    have q : p.vd := by cases n <;> exact h
    refine ⟨by rw [Sm.d]; exact q.is, ?_, fun c hc => by cases hc⟩
    obtain ⟨u, r, e, n1, n2⟩ := Pl.hd p
    rw [Sm.d, e, Sm.kids, Sm.ds]
    unfold inner blks
    simp only [if_neg n1, if_neg n2, List.flatten_nil]
  | ifs t y z =>
    have ht : t.vd 2 := by cases n <;> exact h.1
    refine ⟨?_, ?_, fun c hc => ?_⟩
    · rw [Sm.d]
      show isStmtL "if" [t.d, .tuple (Sm.ds y), .tuple (Sm.ds z)] = true
      unfold isStmtL
      rw [if_pos rfl]
      show (isTest 2 t.d && (true && true)) = true
      rw [ht.is]
      rfl
    · rw [Sm.d, Sm.kids, Sm.ds_app]
      show [Sm.ds y, Sm.ds z].flatten = _
      simp
    · cases n with
      | zero =>
        obtain ⟨_, rfl, rfl⟩ := h
        cases hc
      | succ n =>
        rcases List.mem_append.mp hc with hc | hc
        · exact ⟨n, h.2.1 c hc, by omega⟩
        · exact ⟨n, h.2.2 c hc, by omega⟩
  | rep k b =>
    have hk : 0 ≤ k ∧ k ≤ 8 := by cases n <;> exact ⟨h.1, h.2.1⟩
    refine ⟨?_, ?_, fun c hc => ?_⟩
    · rw [Sm.d]
      show isStmtL "repeat" [.int k, .tuple (Sm.ds b)] = true
      unfold isStmtL
      rw [if_neg (by decide +kernel), if_pos rfl]
      show ((decide (0 ≤ k) && decide (k ≤ 8)) && true) = true
      rw [decide_eq_true hk.1, decide_eq_true hk.2]
      rfl
    · rw [Sm.d, Sm.kids]
      show [Sm.ds b].flatten = _
      simp
    · cases n with
      | zero =>
        obtain ⟨_, _, rfl⟩ := h
        cases hc
      | succ n => exact ⟨n, h.2.2 c hc, by omega⟩
mutual
def Sm.rows (dep : Nat) : Sm → List (Nat × PyData)
  | .pl p => [(dep, p.d)]
  | .ifs t y z => (dep, .tuple [.str "if", t.d, .tuple (Sm.ds y), .tuple (Sm.ds z)]) :: (Sm.rowsL (dep + 1) y ++ Sm.rowsL (dep + 1) z)
  | .rep k b => (dep, .tuple [.str "repeat", .int k, .tuple (Sm.ds b)]) :: Sm.rowsL (dep + 1) b
def Sm.rowsL (dep : Nat) : List Sm → List (Nat × PyData)
  | [] => []
  | s :: r => Sm.rows dep s ++ Sm.rowsL dep r
end
theorem Sm.rowsL_app (n : Nat) : ∀ a b : List Sm, Sm.rowsL n (a ++ b) = Sm.rowsL n a ++ Sm.rowsL n b
  | [], b => by rw [List.nil_append, Sm.rowsL, List.nil_append]
  | s :: r, b => by rw [List.cons_append, Sm.rowsL, Sm.rowsL, Sm.rowsL_app n r b, List.append_assoc]
theorem Sm.rows_kids (n : Nat) (s : Sm) : Sm.rows n s = (n, s.d) :: Sm.rowsL (n + 1) s.kids := by
  cases s with
  | pl p => rw [Sm.rows, Sm.d, Sm.kids, Sm.rowsL]
  | ifs t y z => rw [Sm.rows, Sm.d, Sm.kids, Sm.rowsL_app]
  | rep k b => rw [Sm.rows, Sm.d, Sm.kids]
mutual
theorem Sm.rows_len (n : Nat) : ∀ s : Sm, (Sm.rows n s).length = s.size
  | .pl p => by rw [Sm.rows, Sm.size]; rfl
  | .ifs t y z => by rw [Sm.rows, Sm.size, List.length_cons, List.length_append, Sm.rowsL_len (n + 1) y, Sm.rowsL_len (n + 1) z]; omega
  | .rep k b => by rw [Sm.rows, Sm.size, List.length_cons, Sm.rowsL_len (n + 1) b]; omega
theorem Sm.rowsL_len (n : Nat) : ∀ b : List Sm, (Sm.rowsL n b).length = Sm.sizes b
  | [] => by rw [Sm.rowsL, Sm.sizes]; rfl
  | s :: r => by rw [Sm.rowsL, Sm.sizes, List.length_append, Sm.rows_len n s, Sm.rowsL_len n r]
end
def rowsT (T : List (Nat × Sm)) : List (Nat × PyData) := T.flatMap fun p => Sm.rows p.1 p.2
def dT (T : List (Nat × Sm)) : List (Nat × PyData) := T.map fun p => (p.1, p.2.d)
theorem rowsT_map (n : Nat) : ∀ b : List Sm, rowsT (b.map fun s => (n, s)) = Sm.rowsL n b
  | [] => by rw [Sm.rowsL]; rfl
  | s :: r => by
    have q := rowsT_map n r
    unfold rowsT at q ⊢
    rw [List.map_cons, List.flatMap_cons, q, Sm.rowsL]
theorem dT_map (n : Nat) (b : List Sm) : dT (b.map fun s => (n, s)) = (Sm.ds b).map fun e => (n, e) := by
  unfold dT
  rw [Sm.ds_map, List.map_map, List.map_map]
  rfl
def Ts.bare : Ts → Ts
  | .not t => t.bare
  | t => t
def Ts.word : Ts → Str
  | .not _ => "not"
  | .given _ => "given"
  | .rest _ _ _ => "rest"
  | .less _ _ => "less"
def Ts.high : Ts → Nat
  | .not t => t.high + 1
  | _ => 0
theorem Ts.headW {M : List Addr} {K : PySem.W.Frag} {H : Hp} {v : V} {t : Ts} (h : Dw M K H v t.d) : ∃ (a : Addr) (ys : List V), v = .ref a ∧ SqT K H a (.str t.word :: ys) ∧ atI (V.str t.word :: ys) 0 = some (V.str t.word) := by
  have key : ∀ {w : Str} {r : List PyData}, t.d = .tuple (.str w :: r) → t.word = w → ∃ (a : Addr) (ys : List V), v = .ref a ∧ SqT K H a (.str t.word :: ys) ∧ atI (V.str t.word :: ys) 0 = some (V.str t.word) := by
    intro w r e ew
    rw [e] at h
    obtain ⟨a, xs, rfl, hT, hL⟩ := h.items
    obtain ⟨x, ys, rfl, h0, hR⟩ := hL.inv
    obtain rfl := h0.isStr
    rw [ew]
    exact ⟨a, ys, rfl, hT, at_nn (Int.le_refl 0) rfl⟩
  cases t <;> exact key rfl rfl
def Sm.own (so : Str) (s : Sm) : Int := if so = "weight" then 1 else match s with
  | .ifs t _ _ => if t.bare.word = so then 1 else 0
  | _ => 0
mutual
def Sm.cnt (so : Str) : Sm → Int
  | .pl p => Sm.own so (.pl p)
  | .ifs t y z => Sm.own so (.ifs t y z) + (Sm.cnts so y + Sm.cnts so z)
  | .rep k b => Sm.own so (.rep k b) + Sm.cnts so b * k
def Sm.cnts (so : Str) : List Sm → Int
  | [] => 0
  | s :: r => Sm.cnt so s + Sm.cnts so r
end
theorem Sm.cnts_snoc (so : Str) (s : Sm) : ∀ a : List Sm, Sm.cnts so (a ++ [s]) = Sm.cnts so a + Sm.cnt so s
  | [] => by simp only [List.nil_append, Sm.cnts]; omega
  | u :: r => by simp only [List.cons_append, Sm.cnts]; rw [Sm.cnts_snoc so s r]; omega
def VdB : Nat → List Sm → Prop
  | 0, b => b = []
  | n + 1, b => ∀ s ∈ b, Sm.vd n s
def Sm.parts : Sm → List (List Sm)
  | .pl _ => []
  | .ifs _ y z => [y, z]
  | .rep _ b => [b]
theorem Sm.vd.parts {n : Nat} {s : Sm} (h : s.vd n) : ∀ b ∈ s.parts, VdB n b := by
  intro b hb
  cases s with
  | pl p => cases hb
  | ifs t y z =>
    cases n with
    | zero =>
      rcases List.mem_cons.mp hb with rfl | hb
      · exact h.2.1
      · rw [List.mem_singleton.mp hb]; exact h.2.2
    | succ n =>
      rcases List.mem_cons.mp hb with rfl | hb
      · exact h.2.1
      · rw [List.mem_singleton.mp hb]; exact h.2.2
  | rep k c =>
    cases n with
    | zero => rw [List.mem_singleton.mp hb]; exact h.2.2
    | succ n => rw [List.mem_singleton.mp hb]; exact h.2.2
theorem Sm.blks (s : Sm) : Aw.blks s.d = s.parts.map Sm.ds := by
  cases s with
  | pl p =>
    obtain ⟨u, r, e, n1, n2⟩ := Pl.hd p
    rw [Sm.d, e, Sm.parts]
    unfold Aw.blks
    simp only [if_neg n1, if_neg n2]
    rfl
  | ifs t y z => rw [Sm.d]; rfl
  | rep k b => rw [Sm.d]; rfl
/-- how often the blocks count -/
def Sm.again : Sm → Int
  | .rep k _ => k
  | _ => 1
theorem Sm.cnt_parts (so : Str) (s : Sm) : s.cnt so = s.own so + (s.parts.map (Sm.cnts so)).sum * s.again := by
  cases s with
  | pl p => simp [Sm.cnt, Sm.parts, Sm.again]
  | ifs t y z => simp [Sm.cnt, Sm.parts, Sm.again]
  | rep k b => simp [Sm.cnt, Sm.parts, Sm.again]
def errD (x : Str) : PyData := .tuple [.none, .str x]
def lim (p : List Sm) : PyData := if Sm.sizes p > 24 then errD "places" else if Sm.cnts "weight" p > 30 then errD "weight" else if Sm.cnts "rest" p > 2 then errD "rests" else if Sm.cnts "less" p > 2 then errD "comparings" else .none
open Classical in
noncomputable def treeOf (ds : List PyData) : List Sm := if h : ∃ b : List Sm, ds = Sm.ds b ∧ ∀ s ∈ b, Sm.vd 3 s then h.choose else []
theorem treeOf_spec {ds : List PyData} (h : ordErr ds = none) : ds = Sm.ds (treeOf ds) ∧ ∀ s ∈ treeOf ds, Sm.vd 3 s := by
  unfold treeOf
  rw [dif_pos (ordErr_view h)]
  exact (ordErr_view h).choose_spec
noncomputable def perr : PyData → PyData
  | .tuple ds => match ordErr ds with
    | some x => ordD (some x)
    | none => lim (treeOf ds)
  | _ => errD "program"
mutual
theorem Sm.size_dsz : ∀ s : Sm, s.size ≤ dsz s.d
  | .pl p => by rw [Sm.size]; exact dsz_pos _
  | .ifs t y z => by
    have a := Sm.sizes_dszs y
    have b := Sm.sizes_dszs z
    rw [Sm.size, Sm.d]
    simp only [dsz, dszs]
    omega
  | .rep k b => by
    have a := Sm.sizes_dszs b
    rw [Sm.size, Sm.d]
    simp only [dsz, dszs]
    omega
theorem Sm.sizes_dszs : ∀ b : List Sm, Sm.sizes b ≤ dszs (Sm.ds b)
  | [] => by rw [Sm.sizes]; exact Nat.zero_le _
  | s :: r => by
    have a := Sm.size_dsz s
    have b := Sm.sizes_dszs r
    rw [Sm.sizes, Sm.ds, dszs]
    omega
end
def spRows (K : PySem.W.Frag) : Sp := fun vs H Q _ => ∃ (M : List Addr) (v : V) (p : List Sm), vs = [v] ∧ Dw M K H v (.tuple (Sm.ds p)) ∧ (∀ s ∈ p, ∃ n, Sm.vd n s) ∧ dszs (Sm.ds p) ≤ 1000000 ∧
  ∀ (H' : Hp) (r : Addr) (us : List V), H r = none → Kp [] H H' → H' r = some (.lst us) → Stk M K H' us (Sm.rowsL 0 p) → Q (.ref r) H'
def spBare (K : PySem.W.Frag) : Sp := fun vs H Q _ => ∃ (M : List Addr) (v : V) (t : Ts), vs = [v] ∧ Dw M K H v t.d ∧ ∀ u, Dw M K H u t.bare.d → Q u H
def spOwn (K : PySem.W.Frag) : Sp := fun vs H Q _ => ∃ (M : List Addr) (v : V) (s : Sm) (so : Str), vs = [v, .str so] ∧ Dw M K H v s.d ∧ Q (.int (s.own so)) H
def spCnt (K : PySem.W.Frag) (n : Nat) : Sp := fun vs H Q _ => ∃ (M : List Addr) (v : V) (b : List Sm) (so : Str), vs = [v, .str so] ∧ Dw M K H v (.tuple (Sm.ds b)) ∧ VdB n b ∧
  ∀ H', Kp [] H H' → Q (.int (Sm.cnts so b)) H'
def spWt (K : PySem.W.Frag) : Sp := fun vs H Q _ => ∃ (M : List Addr) (v : V) (b : List Sm), vs = [v] ∧ Dw M K H v (.tuple (Sm.ds b)) ∧ VdB 4 b ∧
  ∀ H', Kp [] H H' → Q (.int (Sm.cnts "weight" b)) H'
noncomputable def spPerr (K : PySem.W.Frag) : Sp := fun vs H Q _ => ∃ (v : V) (d : PyData), vs = [v] ∧ Dw [] K H v d ∧ dsz d ≤ 1000000 ∧
  ∀ (H' : Hp) (r : V), Kp [] H H' → Dt K H' r (perr d) → Q r H'
def sumZ (b : List (List Sm)) : Int := (b.map fun c => ((Sm.sizes c : Nat) : Int)).sum
theorem Sm.size_sum (s : Sm) : ((s.size : Nat) : Int) = 1 + sumZ s.parts := by
  unfold sumZ
  cases s <;> (rw [Sm.size]; simp [Sm.parts]; try omega)
theorem kept_mk {K : PySem.W.Frag} {h : Heap} {mg : Str → Option Value} {a : Addr} {od : Option Addr} {its : Array Value} {n : Nat} {sl : Array (Option Value)} (X : K.In h) (G : h.Ns mainGlobals mg)
    (z1 : PySem.W.nsIn K mainGlobals "KEPT" = some (some (.ref a))) (z2 : K.lookup a = some ⟨.type "tuple", od, .seq its n, sl⟩) (z3 : its.size ≤ 1000) (z4 : Vals (KEPTS.map V.str) its.toList) :
    ∃ a, mg "KEPT" = some (.ref a) ∧ ∀ H : Hp, SqT K H a (KEPTS.map V.str) :=
  ⟨a, PySem.W.mg_of X G z1, fun H => .inr ⟨_, its, n, z2, rfl, rfl, by rw [sizeLine_eq]; omega, z4⟩⟩
end Aw
namespace Aw
open PySem PySem.Spec L2
theorem Shw.int {i : Int} {k : Nat} (h1 : -(2 ^ 64) < i) (h2 : i < 2 ^ 64) : Shw (.int i) k 70 := by
  refine ⟨by rw [PyData.showable]; exact decide_eq_true (log2_small h1 h2), by rw [PyData.hasDict], by rw [PyData.depth]; exact Nat.zero_le _, ?_⟩
  rw [PyData.shown]
  have h : i.natAbs.log2 < 64 := by
    by_cases h : i.natAbs = 0
    · rw [h]
      decide
    · exact (Nat.log2_lt h).mpr (show i.natAbs < 2 ^ 64 by omega)
  have q := int_text_length_le (k := 64) (by decide) h
  show (Str.ofString (toString i)).length ≤ 70
  rw [ofString_length]
  omega
theorem Sm.vd.mono {m : Nat} : ∀ {n : Nat} {s : Sm}, s.vd m → m ≤ n → s.vd n := by
  induction m with
  | zero =>
    intro n s h hn
    cases s with
    | pl p => cases n <;> exact h
    | ifs t y z =>
      obtain ⟨h1, rfl, rfl⟩ := h
      cases n
      · exact ⟨h1, rfl, rfl⟩
      · exact ⟨h1, (fun _ q => nomatch q), (fun _ q => nomatch q)⟩
    | rep k b =>
      obtain ⟨h1, h2, rfl⟩ := h
      cases n
      · exact ⟨h1, h2, rfl⟩
      · exact ⟨h1, h2, (fun _ q => nomatch q)⟩
  | succ m ih =>
    intro n s h hn
    obtain ⟨n, rfl⟩ : ∃ k, n = k + 1 := ⟨n - 1, by omega⟩
    cases s with
    | pl p => exact h
    | ifs t y z => exact ⟨h.1, fun s q => ih (h.2.1 s q) (by omega), fun s q => ih (h.2.2 s q) (by omega)⟩
    | rep k b => exact ⟨h.1, h.2.1, fun s q => ih (h.2.2 s q) (by omega)⟩
theorem Sm.len_sizes : ∀ b : List Sm, b.length ≤ Sm.sizes b
  | [] => Nat.zero_le _
  | s :: r => by
    have := Sm.len_sizes r
    have q : 1 ≤ s.size := by cases s <;> (rw [Sm.size]; try omega)
    rw [Sm.sizes, List.length_cons]
    omega
section
variable {K : PySem.W.Frag} {σ : L2.St} {H0 : Hp} {te ta tb ti : TE} {ds es : List PyData} {i j k : Int}
theorem r_catA {H : Hp} {Q : VK} {v u : V} (hv : Dt K H v (.tuple ds)) (hu : Dt K H u (.tuple es)) (hz : ds.length + es.length ≤ 16777216)
    (h : ∀ H' w, Kp [] H H' → Dt K H' w (.tuple (ds ++ es)) → Q w H') : rCatA K v u H Q := by
  obtain ⟨a, xs, rfl, ha, la⟩ := hv.items
  obtain ⟨b, ys, rfl, hb, lb⟩ := hu.items
  refine ⟨a, b, xs, ys, rfl, rfl, ha, hb, by rw [la.len, lb.len, sizeLine_eq]; exact hz, fun e => ?_, fun _ e => ?_, fun _ _ p hp => ?_⟩
  · have q := la.len
    rw [e] at q
    obtain rfl : ds = [] := List.length_eq_zero_iff.mp q.symm
    exact h _ _ Kp.nil hu
  · have q := lb.len
    rw [e] at q
    obtain rfl : es = [] := List.length_eq_zero_iff.mp q.symm
    rw [List.append_nil] at h
    exact h _ _ Kp.nil hv
  · exact h _ _ (Kp.nil.new hp) (((la.app lb).kp (Kp.nil.new hp)).tup upd_same)
end
theorem Dt.ne_none {K : PySem.W.Frag} {H : Hp} {v : V} {d : PyData} (h : Dt K H v d) (n : d ≠ .none) : v ≠ .non := by
  intro e
  subst e
  cases h
  exact n rfl
end Aw
namespace Aw
open PySem PySem.Spec L2
theorem one_disp {K : PySem.W.Frag} {H : Hp} {Q : VK} {E : XK} {d c : Addr} {n : Int} {xs : List V} (D : Deck H d c n) (hn : n < 10 ^ 12) (h1 : 1 ≤ xs.length) (h2 : xs.length ≤ 1000)
    (k : ∀ (H' : Hp) (x : V), x ∈ xs → Deck H' d c (n + 1) → Kp [d, c] H H' → Q x H') : xs.length ≤ sizeLine ∧ ∀ p, H p = none → spOne K [.ref d, .ref p] (upd H p (.lst xs)) Q E := by
  refine ⟨by rw [sizeLine_eq]; omega, fun p hp => ?_⟩
  have k1 : Kp [] H (upd H p (.lst xs)) := Kp.nil.new hp
  have f := D.fresh hp
  refine spOne.list (D.kp k1 (by simp) (by simp)) hn (SqL.of upd_same) f.1 f.2 h1 (by omega) fun H' i x hx D' k' => ?_
  exact k H' x (List.mem_of_getElem? hx) D' (((Kp.refl D.ls).new hp).trans k')
structure NmV (H : Hp) (a : Addr) (xs : List Str) : Prop where
  h : H a = some (.lst (xs.map V.str))
  len : xs.length = 4
  ok : ∀ x ∈ xs, isNameS x = true
theorem NmV.kp {M : List Addr} {H H1 : Hp} {a : Addr} {xs : List Str} (h : NmV H a xs) (k : Kp M H H1) (n : a ∉ M) : NmV H1 a xs := ⟨k.get h.h n, h.len, h.ok⟩
theorem NmV.item {H : Hp} {a : Addr} {xs : List Str} (h : NmV H a xs) {i : Nat} {x : V} (e : (xs.map V.str)[i]? = some x) : ∃ z : Str, x = .str z ∧ isNameS z = true := by
  rw [List.getElem?_map] at e
  obtain ⟨z, hz, rfl⟩ := Option.map_eq_some_iff.mp e
  exact ⟨z, rfl, h.ok z (List.mem_of_getElem? hz)⟩
theorem NmV.one {K : PySem.W.Frag} {H : Hp} {Q : VK} {E : XK} {d c a : Addr} {n : Int} {xs : List Str} (h : NmV H a xs) (D : Deck H d c n) (hn : n < 10 ^ 12) (h1 : a ≠ d) (h2 : a ≠ c)
    (k : ∀ (H' : Hp) (z : Str), isNameS z = true → Deck H' d c (n + 1) → Kp [d, c] H H' → Q (.str z) H') : spOne K [.ref d, .ref a] H Q E := by
  refine spOne.list D hn (SqL.of h.h) h1 h2 (by rw [List.length_map, h.len]; omega) (by rw [List.length_map, h.len]; omega) fun H' i x hx D' k' => ?_
  obtain ⟨z, rfl, hz⟩ := h.item hx
  exact k H' z hz D' k'
/-- [one(deck, text) for k in range(u)] -/
theorem lc_signs {K : PySem.W.Frag} {σ : L2.St} {ws : List Nat} {j it : Nat} {H : Hp} {Q : VK} {E : XK} {d c : Addr} {n u : Int} {text : Str} (D : Deck H d c n) (hn : n + u < 10 ^ 12) (u0 : 0 ≤ u) (u1 : u ≤ 100)
    (e0 : ∀ v, ((wipe σ ws).set j (some v))[0]? = some (some (.ref d))) (e1 : ∀ v, ((wipe σ ws).set j (some v))[it]? = some (some (.str text))) (hw : ∀ v, wipe ((wipe σ ws).set j (some v)) ws = wipe σ ws)
    (ht : 1 ≤ text.length) (ht2 : text.length ≤ 1000)
    (k : ∀ (H' : Hp) (p : Addr) (ys : List Str), H p = none → H' p = some (.lst (ys.map V.str)) → ys.length = u.toNat → (∀ y ∈ ys, ∃ c ∈ text.cps.toList, y = ⟨#[c]⟩) → Deck H' d c (n + u) → Kp [d, c] H H' → Q (.ref p) H') :
    LcR (gName j) tYes (tCall (spOne K) [] E (tCons (tVar 0) (tCons (tVar it) tNil))) ws σ Q [.int u] H := by
  refine r_LcR (by omega) (by omega) fun p hp => ?_
  have f := D.fresh hp
  refine ⟨fun i H' => ∃ ys : List Str, H' p = some (.lst (ys.map V.str)) ∧ ys.length = i ∧ (∀ y ∈ ys, ∃ c ∈ text.cps.toList, y = ⟨#[c]⟩) ∧ Deck H' d c (n + i) ∧ Kp [d, c] H H',
    ⟨[], upd_same, rfl, (fun _ h => (nomatch h)), by have := D.kp (Kp.nil.new (o := .lst []) hp) (by simp) (by simp); simpa using this, (Kp.refl D.ls).new hp⟩, ?_, ?_⟩
  · rintro i H1 hi ⟨ys, y1, y2, y3, D1, k1⟩
    refine r_name (r_LcTurn (hw _) (r_yes (ifT (r_call (r_cons (r_var (e0 _) (r_cons (r_var (e1 _) (r_nil ?_)))))))))
    refine spOne.text D1 (by omega) ht ht2 fun H2 z hz D2 k2 => ?_
    have y4 := k2.get y1 (by simp [f.1, f.2])
    refine r_LcEnd y4 (by rw [List.length_map, sizeLine_eq]; omega) ⟨ys ++ [⟨#[z]⟩], ?_, by rw [List.length_append, y2]; rfl, ?_, ?_, (k1.trans k2).own hp⟩
    · rw [upd_same, List.map_append]
      rfl
    · intro y hy
      rcases List.mem_append.mp hy with hy | hy
      · exact y3 y hy
      · exact ⟨z, hz, List.mem_singleton.mp hy⟩
    · have e : n + ((i + 1 : Nat) : Int) = n + (i : Int) + 1 := by omega
      rw [e]
      exact D2.kp (kpW (o := .lst (ys.map V.str ++ [.str ⟨#[z]⟩])) y4) (by simp [Ne.symm f.1]) (by simp [Ne.symm f.2])
  · rintro H1 ⟨ys, y1, y2, y3, D1, k1⟩
    have e : n + ((u.toNat : Nat) : Int) = n + u := by omega
    rw [e] at D1
    exact k H1 p ys hp y1 y2 y3 D1 k1
/-- signs of a text -/
def SgOf (L : List Nat) (x : Str) (n : Nat) : Prop := x.cps.toList.length = n ∧ ∀ c ∈ x.cps.toList, c ∈ L
theorem joinL_signs : ∀ ys : List Str, ∀ L : List Nat, (∀ y ∈ ys, ∃ c ∈ L, y = ⟨#[c]⟩) → SgOf L (Txt.join "" ys) ys.length := by
  intro ys L h
  have key : ∀ zs : List (List Nat), (∀ z ∈ zs, ∃ c ∈ L, z = [c]) → (TL.joinL [] zs).length = zs.length ∧ ∀ c ∈ TL.joinL [] zs, c ∈ L := by
    intro zs
    induction zs with
    | nil => intro _; exact ⟨rfl, fun c hc => nomatch hc⟩
    | cons z r ih =>
      intro hz
      obtain ⟨c, hc, rfl⟩ := hz z (List.mem_cons_self ..)
      obtain ⟨i1, i2⟩ := ih fun z h => hz z (List.mem_cons_of_mem _ h)
      cases r with
      | nil =>
        rw [TL.joinL]
        exact ⟨rfl, fun x hx => by rw [List.mem_singleton.mp hx]; exact hc⟩
      | cons q r =>
        rw [TL.joinL]
        refine ⟨by rw [List.length_append, List.length_append, i1]; simp; omega, fun x hx => ?_⟩
        rcases List.mem_append.mp hx with hx | hx
        · rw [List.mem_singleton.mp hx]; exact hc
        rcases List.mem_append.mp hx with hx | hx
        · cases hx
        · exact i2 x hx
  have e : (Str.join "" ys).cps.toList = TL.joinL ("" : Str).cps.toList (ys.map fun y => y.cps.toList) := TL.tl_join "" ys
  have e0 : ("" : Str).cps.toList = [] := by decide +kernel
  unfold SgOf
  rw [TL.join_eq, e, e0]
  have q := key (ys.map fun y => y.cps.toList) fun z hz => by
    obtain ⟨y, hy, rfl⟩ := List.mem_map.mp hz
    obtain ⟨c, hc, rfl⟩ := h y hy
    exact ⟨c, hc, rfl⟩
  rw [List.length_map] at q
  exact q
theorem sum_one {L : List Nat} : ∀ {ys : List Str}, (∀ y ∈ ys, ∃ c ∈ L, y = ⟨#[c]⟩) → (ys.map (·.length)).sum = ys.length
  | [], _ => rfl
  | y :: r, h => by
    obtain ⟨c, _, rfl⟩ := h y (List.mem_cons_self ..)
    rw [List.map_cons, List.sum_cons, sum_one fun z hz => h z (List.mem_cons_of_mem _ hz), List.length_cons]
    show 1 + r.length = r.length + 1
    omega
def LTT : Str := "abcdefgijkmoquvwxyz"
def QXZ : Str := "qxz"
theorem ltt_let : ∀ c ∈ LTT.cps.toList, isLet c = true ∧ isSgn c = true := by decide +kernel
theorem sgn_sgn : ∀ c ∈ (LTT ++ ("0123456789" : Str)).cps.toList, isSgn c = true := by decide +kernel
theorem qxz_ok : ∀ c ∈ QXZ.cps.toList, isLet c = true ∧ isSgn c = true ∧ ∀ x ∈ KEPTS, c ∉ x.cps.toList := by decide +kernel
theorem name_made {l r : Str} {m n : Nat} {c : Nat} (hl : SgOf LTT.cps.toList l m) (hr : SgOf (LTT ++ ("0123456789" : Str)).cps.toList r n) (hc : c ∈ QXZ.cps.toList) (h : m + n ≤ 7) :
    isNameS (l ++ ⟨#[c]⟩ ++ r) = true := by
  obtain ⟨c1, c2, c3⟩ := qxz_ok c hc
  have e : (l ++ ⟨#[c]⟩ ++ r).cps.toList = l.cps.toList ++ c :: r.cps.toList := by
    rw [Str.cps_append, Str.cps_append, Array.toList_append, Array.toList_append, List.append_assoc]
    rfl
  have len : (l ++ ⟨#[c]⟩ ++ r).length = m + 1 + n := by
    have q : (l ++ ⟨#[c]⟩ ++ r).cps.toList.length = (l ++ ⟨#[c]⟩ ++ r).length := by rw [Array.length_toList]; rfl
    rw [← q, e, List.length_append, List.length_cons, hl.1, hr.1]
    omega
  unfold isNameS
  rw [len, e]
  have h1 : isLet ((l.cps.toList ++ c :: r.cps.toList).headD 0) = true := by
    cases hL : l.cps.toList with
    | nil => exact c1
    | cons x xs => exact (ltt_let x (hl.2 x (by rw [hL]; exact List.mem_cons_self ..))).1
  have h2 : (l.cps.toList ++ c :: r.cps.toList).all isSgn = true := by
    rw [List.all_eq_true]
    intro x hx
    rcases List.mem_append.mp hx with hx | hx
    · exact (ltt_let x (hl.2 x hx)).2
    rcases List.mem_cons.mp hx with rfl | hx
    · exact c2
    · exact sgn_sgn x (hr.2 x hx)
  have h3 : KEPTS.contains (l ++ ⟨#[c]⟩ ++ r) = false := by
    cases hk : KEPTS.contains (l ++ ⟨#[c]⟩ ++ r) with
    | false => rfl
    | true =>
      exfalso
      refine c3 _ (List.contains_iff_mem.mp hk) ?_
      rw [e]
      exact List.mem_append_right _ (List.mem_cons_self ..)
  rw [h1, h2, h3, decide_eq_true (show 1 ≤ m + 1 + n by omega), decide_eq_true (show m + 1 + n ≤ 8 by omega)]
  rfl
theorem Ex.vd.succ : ∀ {n : Nat} {e : Ex}, e.vd n → e.vd (n + 1)
  | 0, _, h => h.elim
  | _ + 1, .int _, h => h
  | _ + 1, .name _, h => h
  | _ + 1, .bin _ _ _, h => ⟨h.1.succ, h.2.imp id fun q => ⟨q.1, q.2.succ⟩⟩
theorem Ex.vd.mono {m n : Nat} {e : Ex} (h : e.vd m) (q : m ≤ n) : e.vd n := by
  induction q with
  | refl => exact h
  | step _ ih => exact ih.succ
theorem Ex.vd_int {m : Nat} {i : Int} (h : 1 ≤ m) (h1 : -99 ≤ i) (h2 : i ≤ 99) : (Ex.int i).vd m := by
  cases m with
  | zero => omega
  | succ m => exact ⟨h1, h2⟩
theorem Ts.vd.succ : ∀ {n : Nat} {t : Ts}, t.vd n → t.vd (n + 1)
  | n + 1, .not t, h => Ts.vd.succ (n := n) (t := t) h
  | n, .given x, h => by cases n <;> exact h
  | n, .rest e b r, h => by cases n <;> exact h
  | n, .less a b, h => by cases n <;> exact h
theorem Ts.vd.mono {m n : Nat} {t : Ts} (h : t.vd m) (q : m ≤ n) : t.vd n := by
  induction q with
  | refl => exact h
  | step _ ih => exact ih.succ
/-- what a test counts -/
def Ts.one (so : Str) (t : Ts) : Int := if t.bare.word = so then 1 else 0
theorem Sm.cnt_if (t : Ts) (y z : List Sm) (so : Str) (h : so ≠ "weight") : Sm.cnt so (.ifs t y z) = t.one so + (Sm.cnts so y + Sm.cnts so z) := by
  rw [Sm.cnt, Sm.own, if_neg h]
  rfl
theorem Sm.cnt_w (s : Sm) : s.own "weight" = 1 := if_pos rfl
theorem Sm.cnt_pl (p : Pl) (so : Str) : Sm.cnt so (.pl p) = if so = "weight" then 1 else 0 := by
  rw [Sm.cnt]
  rfl
theorem Sm.cnt_rep (k : Int) (b : List Sm) (so : Str) : Sm.cnt so (.rep k b) = (if so = "weight" then 1 else 0) + Sm.cnts so b * k := by
  rw [Sm.cnt]
  rfl
theorem Sm.cnts_one (so : Str) (s : Sm) : Sm.cnts so [s] = Sm.cnt so s := by rw [Sm.cnts, Sm.cnts, Int.add_zero]
theorem Sm.cnts_app (so : Str) : ∀ a b : List Sm, Sm.cnts so (a ++ b) = Sm.cnts so a + Sm.cnts so b
  | [], b => by rw [List.nil_append, Sm.cnts, Int.zero_add]
  | u :: r, b => by rw [List.cons_append, Sm.cnts, Sm.cnts, Sm.cnts_app so r b, Int.add_assoc]
/-- both sides of less are two deep at most -/
def Ts.lo : Ts → Prop
  | .not t => t.lo
  | .less a b => a.vd 2 ∧ b.vd 2
  | _ => True
mutual
def Sm.lo : Sm → Prop
  | .pl _ => True
  | .ifs t y z => t.lo ∧ Sm.los y ∧ Sm.los z
  | .rep _ b => Sm.los b
def Sm.los : List Sm → Prop
  | [] => True
  | s :: r => Sm.lo s ∧ Sm.los r
end
theorem Sm.los_app : ∀ a b : List Sm, Sm.los a → Sm.los b → Sm.los (a ++ b)
  | [], b, _, h => h
  | s :: r, b, h, g => by
    rw [Sm.los] at h
    rw [List.cons_append, Sm.los]
    exact ⟨h.1, Sm.los_app r b h.2 g⟩
theorem Sm.los_one {s : Sm} (h : Sm.lo s) : Sm.los [s] := by rw [Sm.los, Sm.los]; exact ⟨h, trivial⟩
/-- what is left behind rows that count so many times -/
structure Took (ti a b r s a' b' r' s' : Int) (x : List Sm) : Prop where
  a : a' = a - Sm.sizes x
  b : b' = b - ti * Sm.cnts "weight" x
  r : r' = r - ti * Sm.cnts "rest" x
  s : s' = s - ti * Sm.cnts "less" x
  l : Sm.los x
theorem Took.nil {ti a b r s : Int} : Took ti a b r s a b r s [] := by
  constructor <;> simp [Sm.sizes, Sm.cnts, Sm.los]
theorem Took.app {ti a b r s a1 b1 r1 s1 a2 b2 r2 s2 : Int} {x y : List Sm} (h : Took ti a b r s a1 b1 r1 s1 x) (g : Took ti a1 b1 r1 s1 a2 b2 r2 s2 y) : Took ti a b r s a2 b2 r2 s2 (x ++ y) := by
  have h1 := h.a; have h2 := h.b; have h3 := h.r; have h4 := h.s
  have g1 := g.a; have g2 := g.b; have g3 := g.r; have g4 := g.s
  constructor
  · rw [Sm.sizes_app]; omega
  · rw [Sm.cnts_app, Int.mul_add]; omega
  · rw [Sm.cnts_app, Int.mul_add]; omega
  · rw [Sm.cnts_app, Int.mul_add]; omega
  · exact Sm.los_app _ _ h.l g.l
/-- the data of a row that was made, or of none -/
def rowD : List Sm → PyData
  | [s] => s.d
  | _ => .tuple []
/-- a program within all bounds -/
structure PgV (b : List Sm) : Prop where
  vd : ∀ s ∈ b, Sm.vd 3 s
  size : Sm.sizes b ≤ 24
  weight : Sm.cnts "weight" b ≤ 30
  rest : Sm.cnts "rest" b ≤ 2
  less : Sm.cnts "less" b ≤ 2
  lo : Sm.los b
theorem Kp.out {H H1 H2 : Hp} {d c l : Addr} (k1 : Kp [d, c] H H1) (hl : H l = none) (k2 : Kp [d, c, l] H1 H2) : Kp [d, c] H H2 := fun z o e => ⟨(k1 z o e).1, fun nm' => by
  refine (k2 z o ((k1 z o e).2 nm')).2 fun hz => ?_
  simp only [List.mem_cons, List.not_mem_nil, or_false, not_or] at hz nm'
  rcases hz with rfl | rfl | rfl
  · exact nm'.1 rfl
  · exact nm'.2 rfl
  · rw [hl] at e
    cases e⟩
end Aw
namespace Aw
open PySem PySem.Spec L2
mutual
def shb : PyData → Bool
  | .none => true
  | .bool _ => true
  | .int i => decide (i.natAbs.log2 < 200)
  | .str x => PyData.strOk x
  | .list ds => shbs ds
  | .tuple ds => shbs ds
  | .dict [] => true
  | .dict [(.str x, .int i)] => PyData.strOk x && decide (x.length ≤ 8) && decide (i.natAbs.log2 < 200)
  | .dict _ => false
def shbs : List PyData → Bool
  | [] => true
  | d :: r => shb d && shbs r
end
/-- data of a size, that may be shown, of a depth -/
structure Dok (d : PyData) (z k : Nat) : Prop where
  sz : dsz d ≤ z
  sh : shb d = true
  dp : d.depth ≤ k
theorem Dok.mono {d : PyData} {z k z' k' : Nat} (h : Dok d z k) (hz : z ≤ z') (hk : k ≤ k') : Dok d z' k' := ⟨Nat.le_trans h.sz hz, h.sh, Nat.le_trans h.dp hk⟩
theorem Dok.by {d : PyData} {z k : Nat} (h : (decide (dsz d ≤ z) && shb d && decide (d.depth ≤ k)) = true) : Dok d z k := by
  rw [Bool.and_eq_true, Bool.and_eq_true, decide_eq_true_eq, decide_eq_true_eq] at h
  exact ⟨h.1.1, h.1.2, h.2⟩
def Oc (M : List Addr) (H : Hp) : Prop := ∀ a ∈ M, ∃ o, H a = some o
theorem Oc.new {M : List Addr} {H H1 : Hp} {p : Addr} (h : Oc M H) (k : Kp [] H H1) (hp : H1 p = none) : p ∉ M := fun m => by
  obtain ⟨o, e⟩ := h p m
  rw [k.get e (by simp)] at hp
  cases hp
def CW (M : List Addr) (K : PySem.W.Frag) (σ : L2.St) (H0 : Hp) (te : TE) (d : PyData) : Prop := ∀ (H : Hp) (Q : VK), Kp [] H0 H → (∀ H' v, Kp [] H H' → Dw M K H' v d → Q v H') → te σ H Q
def CWs (M : List Addr) (K : PySem.W.Frag) (σ : L2.St) (H0 : Hp) (ts : TA) (ds : List PyData) : Prop := ∀ (H : Hp) (R : List V → Hp → Prop), Kp [] H0 H → (∀ H' vs, Kp [] H H' → DwL M K H' vs ds → R vs H') → ts σ H R
section
variable {M : List Addr} {K : PySem.W.Frag} {σ : L2.St} {H0 : Hp} {te ta tb : TE} {ts : TA} {d : PyData} {ds es : List PyData}
theorem DwL.tup {H : Hp} {vs : List V} {a : Addr} (h : DwL M K H vs ds) (e : H a = some (.tup vs)) : Dw M K H (.ref a) (.tuple ds) := .tup (SqT.of e) h.len h.all
theorem DwL.lst {H : Hp} {vs : List V} {a : Addr} (h : DwL M K H vs ds) (e : H a = some (.lst vs)) (n : a ∉ M) : Dw M K H (.ref a) (.list ds) := .lst e n h.len h.all
theorem DwL.app {H : Hp} {vs us : List V} (h : DwL M K H vs ds) (g : DwL M K H us es) : DwL M K H (vs ++ us) (ds ++ es) := by
  refine ⟨by rw [List.length_append, List.length_append, h.len, g.len], fun i u e q q' => ?_⟩
  by_cases hi : i < vs.length
  · rw [List.getElem?_append_left hi] at q
    rw [List.getElem?_append_left (by rw [← h.len]; exact hi)] at q'
    exact h.all i u e q q'
  · rw [List.getElem?_append_right (by omega)] at q
    rw [List.getElem?_append_right (by rw [← h.len]; omega), ← h.len] at q'
    exact g.all _ u e q q'
theorem cw_str {x : Str} : CW M K σ H0 (tC (.str x)) (.str x) := fun H Q _ h => h H _ Kp.nil (.str x)
theorem cw_int {x : Int} : CW M K σ H0 (tC (.int x)) (.int x) := fun H Q _ h => h H _ Kp.nil (.int x)
theorem cw_bl {x : Bool} : CW M K σ H0 (tC (.bl x)) (.bool x) := fun H Q _ h => h H _ Kp.nil (.bl x)
theorem cw_non : CW M K σ H0 (tC .non) .none := fun H Q _ h => h H _ Kp.nil .non
theorem cw_var {i : Nat} {v : V} (e : σ[i]? = some (some v)) (hv : Dw M K H0 v d) : CW M K σ H0 (tVar i) d := fun H Q k h => ⟨v, e, h H _ Kp.nil (hv.kp0 k)⟩
theorem cw_neg {i : Int} : CW M K σ H0 (tUn (rU fun i => .int (-i)) (tC (.int i))) (.int (-i)) := fun H Q _ h => r_un (r_C (r_U (h H _ Kp.nil (.int _))))
theorem cw_pow {i j : Int} (h0 : CPow i j) : CW M K σ H0 (tOp (rI CPow fun i j => .int (i ^ j.toNat)) (tC (.int i)) (tC (.int j))) (.int (i ^ j.toNat)) := fun H Q _ h => r_op (r_C (r_C (r_I (h H _ Kp.nil (.int _)) h0)))
theorem cws_nil : CWs M K σ H0 tNil [] := fun H R _ h => h H _ Kp.nil DwL.nil
theorem cws_cons (a : CW M K σ H0 te d) (b : CWs M K σ H0 ts ds) : CWs M K σ H0 (tCons te ts) (d :: ds) := fun H R k h =>
  a H _ k fun H1 v k1 hv => b H1 _ (k.trans k1) fun H2 vs k2 hs => h H2 (v :: vs) (k1.trans k2) (DwL.cons (hv.kp0 k2) hs)
theorem cw_tup (b : CWs M K σ H0 ts ds) (hz : ds.length ≤ 16777216) : CW M K σ H0 (tTup ts) (.tuple ds) := fun H Q k h =>
  b H _ k fun H1 vs k1 hs => ⟨by rw [hs.len, sizeLine_eq]; exact hz, fun p hp => h _ _ (k1.new hp) ((hs.kp0 (Kp.nil.new hp)).tup upd_same)⟩
theorem cw_lst (hM : Oc M H0) (b : CWs M K σ H0 ts ds) (hz : ds.length ≤ 16777216) : CW M K σ H0 (tLst ts) (.list ds) := fun H Q k h =>
  b H _ k fun H1 vs k1 hs => ⟨by rw [hs.len, sizeLine_eq]; exact hz, fun p hp => h _ _ (k1.new hp) ((hs.kp0 (Kp.nil.new hp)).lst upd_same (hM.new (k.trans k1) hp))⟩
theorem cw_d0 (hM : Oc M H0) : CW M K σ H0 tDNewK (.dict []) := fun H Q k h p hp => h _ _ (Kp.nil.new hp) (.dct upd_same (hM.new k hp) rfl (fun i kv p e => by simp at e) (fun i kv p e => by simp at e))
theorem cw_d1 {x : Str} {i : Int} (hM : Oc M H0) : CW M K σ H0 (tDisp [(tC (.str x), tC (.int i))]) (.dict [(.str x, .int i)]) := fun H Q k h p hp => by
  refine r_pcons (r_C (r_C (r_pnil ⟨upd_same, [(Sum.inr x, .int i)], rfl, by simp, ?_⟩)))
  have e : mergeK [] [((Sum.inr x : Key), V.int i)] = [(Sum.inr x, .int i)] := rfl
  rw [e, upd_upd]
  refine h _ _ (Kp.nil.new hp) (.dct upd_same (hM.new k hp) rfl (fun j kv p e e' => ?_) (fun j kv p e e' => ?_))
  · match j, e, e' with
    | 0, e, e' => cases e; cases e'; rfl
  · match j, e, e' with
    | 0, e, e' => cases e; cases e'; exact .int i
def cutD {α : Type} (xs : List α) (lo hi : Option Int) : List α := (xs.drop (HT.sIx xs.length 0 lo)).take (HT.sIx xs.length xs.length hi - HT.sIx xs.length 0 lo)
theorem DwL.cut {H : Hp} {vs : List V} (h : DwL M K H vs ds) (lo hi : Option Int) : DwL M K H (cutV vs lo hi) (cutD ds lo hi) := by
  have hl := h.len
  unfold cutV cutD
  rw [hl]
  refine ⟨by rw [List.length_take, List.length_take, List.length_drop, List.length_drop, hl], fun i v d e e' => ?_⟩
  have hi := (List.getElem?_eq_some_iff.mp e).1
  rw [List.length_take] at hi
  rw [List.getElem?_take, if_pos (by omega), List.getElem?_drop] at e e'
  exact h.all _ v d e e'
end
theorem cutD_to {α : Type} (xs : List α) (n : Nat) (h : n ≤ xs.length) : cutD xs none (some (n : Int)) = xs.take n := by
  unfold cutD
  rw [HT.sIx_none, HT.sIx_nat, List.drop_zero, Nat.min_eq_left h, Nat.sub_zero]
theorem cutD_from {α : Type} (xs : List α) (n : Nat) (h : n ≤ xs.length) : cutD xs (some (n : Int)) none = xs.drop n := by
  unfold cutD
  rw [HT.sIx_none, HT.sIx_nat, Nat.min_eq_left h, List.take_of_length_le (by rw [List.length_drop]; omega)]
theorem name_ok {x : Str} (h : isNameS x = true) : PyData.strOk x = true ∧ x.length ≤ 8 := by
  unfold isNameS at h
  simp only [Bool.and_eq_true, decide_eq_true_eq] at h
  obtain ⟨⟨⟨⟨_, h1⟩, _⟩, h2⟩, _⟩ := h
  refine ⟨?_, h1⟩
  unfold PyData.strOk
  rw [Array.all_eq_true_iff_forall_mem]
  intro c hc
  have q : ∀ c ∈ SGN.cps.toList, c < 1114112 := by decide +kernel
  exact decide_eq_true (q c (of_decide_eq_true (List.all_eq_true.mp h2 c (Array.mem_def.mp hc))))
theorem word_ok {x : Str} (h : isWordS x = true) : PyData.strOk x = true ∧ x.length ≤ 8 := by
  unfold isWordS at h
  simp only [Bool.and_eq_true, decide_eq_true_eq] at h
  obtain ⟨⟨⟨_, h1⟩, _⟩, h2⟩ := h
  refine ⟨?_, h1⟩
  unfold PyData.strOk
  rw [Array.all_eq_true_iff_forall_mem]
  intro c hc
  have q : ∀ c ∈ SGN.cps.toList, c < 1114112 := by decide +kernel
  exact decide_eq_true (q c (of_decide_eq_true (List.all_eq_true.mp h2 c (Array.mem_def.mp hc))))
theorem small_log {i : Int} (h1 : -1000 ≤ i) (h2 : i ≤ 1000) : i.natAbs.log2 < 200 := by
  by_cases h : i.natAbs = 0
  · rw [h]
    decide
  · exact Nat.lt_of_lt_of_le ((Nat.log2_lt (k := 10) h).mpr (by omega)) (by decide)
theorem Dok.int {i : Int} (h1 : -1000 ≤ i) (h2 : i ≤ 1000) : Dok (.int i) 1 0 := ⟨by rw [dsz]; omega, by rw [shb]; exact decide_eq_true (small_log h1 h2), by rw [PyData.depth]; omega⟩
theorem Dok.str {x : Str} {n : Nat} (h : PyData.strOk x = true ∧ x.length ≤ n) : Dok (.str x) (n + 1) 0 := ⟨by rw [dsz]; omega, by rw [shb]; exact h.1, by rw [PyData.depth]; omega⟩
theorem Dok.nil {k : Nat} : Dok (.tuple []) 1 (k + 1) := ⟨by simp [dsz, dszs], by simp [shb, shbs], by simp [PyData.depth, PyData.depthAll]⟩
/-- lists of data -/
structure Doks (ds : List PyData) (z k : Nat) : Prop where
  sz : dszs ds ≤ z
  sh : shbs ds = true
  dp : PyData.depthAll ds ≤ k
theorem Doks.nil {k : Nat} : Doks [] 0 k := ⟨by rw [dszs]; omega, by rw [shbs], by rw [PyData.depthAll]; omega⟩
theorem Doks.cons {d : PyData} {ds : List PyData} {z z' k k' : Nat} (a : Dok d z k') (b : Doks ds z' k) (h : k' ≤ k) : Doks (d :: ds) (z + z') k := by
  have := a.sz; have := b.sz; have := a.dp; have := b.dp
  exact ⟨by rw [dszs]; omega, by rw [shbs, a.sh, b.sh]; rfl, by rw [PyData.depthAll]; omega⟩
theorem Doks.tup {ds : List PyData} {z k : Nat} (h : Doks ds z k) : Dok (.tuple ds) (z + 1) (k + 1) := by
  have := h.sz; have := h.dp
  exact ⟨by rw [dsz]; omega, by rw [shb]; exact h.sh, by rw [PyData.depth]; omega⟩
theorem Dok.lst {ds : List PyData} {z k : Nat} (h : Dok (.tuple ds) z k) : Dok (.list ds) z k := by
  have h1 := h.sz; have h2 := h.dp; have h3 := h.sh
  rw [dsz] at h1
  rw [PyData.depth] at h2
  rw [shb] at h3
  exact ⟨by rw [dsz]; exact h1, by rw [shb]; exact h3, by rw [PyData.depth]; exact h2⟩
theorem lit_ok {x : Str} {n : Nat} (h : (PyData.strOk x && decide (x.length ≤ n)) = true) : PyData.strOk x = true ∧ x.length ≤ n := by
  rw [Bool.and_eq_true, decide_eq_true_eq] at h
  exact h
def eZ : Nat → Nat
  | 0 => 0
  | n + 1 => 2 * eZ n + 10
theorem Ex.vd.dok : ∀ {n : Nat} {e : Ex}, e.vd n → Dok e.d (eZ n) n
  | 0, _, h => h.elim
  | n + 1, .int i, h => (Dok.int (by have := h.1; omega) (by have := h.2; omega)).mono (by unfold eZ; omega) (by omega)
  | n + 1, .name x, h => (Dok.str (name_ok h)).mono (by unfold eZ; omega) (by omega)
  | n + 1, .bin o a b, h => by
    obtain ⟨hb, h⟩ := h
    have qb := Ex.vd.dok hb
    have key : ∀ {o : Str}, PyData.strOk o = true ∧ o.length ≤ 5 → Dok a.d (eZ n) n → Dok (Ex.bin o a b).d (eZ (n + 1)) (n + 1) := fun ho qa =>
      (Doks.tup (Doks.cons (Dok.str ho) (Doks.cons qa (Doks.cons qb (Doks.nil (k := n)) (Nat.le_refl _)) (Nat.le_refl _)) (Nat.zero_le _))).mono (by show _ ≤ 2 * eZ n + 10; omega) (by omega)
    rcases h with ⟨rfl, i, rfl, h1, h2⟩ | ⟨ho, ha⟩
    · refine key (lit_ok (by decide +kernel)) ((Dok.int (by omega) (by omega)).mono ?_ (by omega))
      cases n with
      | zero => exact hb.elim
      | succ n => unfold eZ; omega
    · refine key ?_ (Ex.vd.dok ha)
      rcases ho with rfl | rfl <;> exact lit_ok (by decide +kernel)
theorem Ts.vd.dok : ∀ {n : Nat} {t : Ts}, t.vd n → Dok t.d (5 * n + 160) (n + 4)
  | n + 1, .not t, h => by
    have q := Ts.vd.dok (n := n) (t := t) h
    exact (Doks.tup (Doks.cons (Dok.str (lit_ok (x := "not") (n := 3) (by decide +kernel))) (Doks.cons q (Doks.nil (k := n + 4)) (Nat.le_refl _)) (by omega))).mono (by omega) (by omega)
  | n, .given x, h => by
    have q : isNameS x = true := by cases n <;> exact h
    exact (Doks.tup (Doks.cons (Dok.str (lit_ok (x := "given") (n := 5) (by decide +kernel))) (Doks.cons (Dok.str (name_ok q)) (Doks.nil (k := 0)) (by omega)) (by omega))).mono (by omega) (by omega)
  | n, .rest e b r, h => by
    have q : e.vd 3 ∧ 2 ≤ b ∧ b ≤ 6 ∧ 0 ≤ r ∧ r ≤ b - 1 := by cases n <;> exact h
    obtain ⟨q, b0, b1, r0, r1⟩ := q
    have e3 : eZ 3 = 70 := rfl
    exact (Doks.tup (Doks.cons (Dok.str (lit_ok (x := "rest") (n := 5) (by decide +kernel))) (Doks.cons q.dok (Doks.cons (Dok.int (by omega) (by omega)) (Doks.cons (Dok.int (by omega) (by omega)) (Doks.nil (k := 3)) (by omega)) (by omega)) (by omega)) (by omega))).mono (by omega) (by omega)
  | n, .less a b, h => by
    have q : a.vd 3 ∧ b.vd 3 := by cases n <;> exact h
    have e3 : eZ 3 = 70 := rfl
    exact (Doks.tup (Doks.cons (Dok.str (lit_ok (x := "less") (n := 5) (by decide +kernel))) (Doks.cons q.1.dok (Doks.cons q.2.dok (Doks.nil (k := 3)) (by omega)) (by omega)) (by omega))).mono (by omega) (by omega)
theorem Pl.vd.dok {p : Pl} (h : p.vd) : Dok p.d 100 4 := by
  have e3 : eZ 3 = 70 := rfl
  cases p with
  | set x e => exact (Doks.tup (Doks.cons (Dok.str (lit_ok (x := "set") (n := 5) (by decide +kernel))) (Doks.cons (Dok.str (name_ok h.1)) (Doks.cons h.2.dok (Doks.nil (k := 3)) (by omega)) (by omega)) (by omega))).mono (by omega) (by omega)
  | unset x => exact (Doks.tup (Doks.cons (Dok.str (lit_ok (x := "unset") (n := 5) (by decide +kernel))) (Doks.cons (Dok.str (name_ok h)) (Doks.nil (k := 3)) (by omega)) (by omega))).mono (by omega) (by omega)
  | tell e => exact (Doks.tup (Doks.cons (Dok.str (lit_ok (x := "tell") (n := 5) (by decide +kernel))) (Doks.cons (Ex.vd.dok (n := 3) h) (Doks.nil (k := 3)) (by omega)) (by omega))).mono (by omega) (by omega)
  | say x => exact (Doks.tup (Doks.cons (Dok.str (lit_ok (x := "say") (n := 5) (by decide +kernel))) (Doks.cons (Dok.str (word_ok h)) (Doks.nil (k := 3)) (by omega)) (by omega))).mono (by omega) (by omega)
  | stop x => exact (Doks.tup (Doks.cons (Dok.str (lit_ok (x := "stop") (n := 5) (by decide +kernel))) (Doks.cons (Dok.str (word_ok h)) (Doks.nil (k := 3)) (by omega)) (by omega))).mono (by omega) (by omega)
theorem Sm.vd.doks : ∀ (n : Nat) (b : List Sm), VdB n b → Doks (Sm.ds b) (200 * Sm.sizes b) (2 * n + 6) := by
  intro n
  induction n with
  | zero =>
    intro b h
    have h : b = [] := h
    subst h
    rw [Sm.ds, Sm.sizes]
    exact Doks.nil
  | succ n ih =>
    intro b h
    induction b with
    | nil =>
      rw [Sm.ds, Sm.sizes]
      exact Doks.nil
    | cons s r ihr =>
      have hr := ihr fun z hz => h z (List.mem_cons_of_mem _ hz)
      have hs : Dok s.d (200 * s.size) (2 * (n + 1) + 6) := by
        have hv := h s (List.mem_cons_self ..)
        have hp := hv.parts
        cases s with
        | pl p =>
          have q : p.vd := by cases n <;> exact hv
          rw [Sm.d, Sm.size]
          exact q.dok.mono (by omega) (by omega)
        | ifs t y z =>
          have ht : t.vd 2 := by cases n <;> exact hv.1
          have q1 := ih y (hp y (by simp [Sm.parts]))
          have q2 := ih z (hp z (by simp [Sm.parts]))
          rw [Sm.d, Sm.size]
          exact (Doks.tup (Doks.cons (Dok.str (lit_ok (x := "if") (n := 2) (by decide +kernel))) (Doks.cons ht.dok (Doks.cons q1.tup (Doks.cons q2.tup (Doks.nil (k := 2 * n + 7)) (by omega)) (by omega)) (by omega)) (by omega))).mono (by omega) (by omega)
        | rep k b =>
          have hk : 0 ≤ k ∧ k ≤ 8 := by cases n <;> exact ⟨hv.1, hv.2.1⟩
          have q1 := ih b (hp b (by simp [Sm.parts]))
          rw [Sm.d, Sm.size]
          exact (Doks.tup (Doks.cons (Dok.str (lit_ok (x := "repeat") (n := 6) (by decide +kernel))) (Doks.cons (Dok.int (by omega) (by omega)) (Doks.cons q1.tup (Doks.nil (k := 2 * n + 7)) (by omega)) (by omega)) (by omega))).mono (by omega) (by omega)
      rw [Sm.ds, Sm.sizes]
      have q := Doks.cons hs hr (Nat.le_refl _)
      exact ⟨by have := q.sz; omega, q.sh, q.dp⟩
theorem PgV.dok {b : List Sm} (h : PgV b) : Dok (.tuple (Sm.ds b)) 4801 15 := by
  have q := (Sm.vd.doks 4 b h.vd).tup
  have := h.size
  exact q.mono (by omega) (by omega)
theorem Deck.oc {H : Hp} {d c : Addr} {n : Int} (D : Deck H d c n) : Oc [d, c] H := fun a m => by
  obtain ⟨xs, e⟩ := D.ls a m
  exact ⟨_, e⟩
theorem Oc.kp {M : List Addr} {H H1 : Hp} (h : Oc M H) (k : Kp [] H H1) : Oc M H1 := fun a m => by
  obtain ⟨o, e⟩ := h a m
  exact ⟨o, k.get e (by simp)⟩
end Aw
namespace Aw
open PySem PySem.Spec L2
abbrev Ml := List (Int × Int)
structure Sv where
  n : Int
  m : Ml
def kvI (m : Ml) : List (Key × V) := m.map fun p => (Sum.inl p.1, V.int p.2)
def getI (m : Ml) (k : Int) : Int := ((m.find? fun p => decide (p.1 = k)).map (·.2)).getD 0
def putI (m : Ml) (k v : Int) : Ml := if (m.any fun p => decide (p.1 = k)) = true then m.map (fun p => if p.1 = k then (p.1, v) else p) else m ++ [(k, v)]
def ksI (m : Ml) : List Int := m.map (·.1)
theorem getI_nil (k : Int) : getI [] k = 0 := rfl
theorem getI_pos {p : Int × Int} {r : Ml} {k : Int} (e : p.1 = k) : getI (p :: r) k = p.2 := by simp [getI, List.find?_cons, e]
theorem getI_neg {p : Int × Int} {r : Ml} {k : Int} (e : ¬ p.1 = k) : getI (p :: r) k = getI r k := by simp [getI, List.find?_cons, e]
theorem kvI_get (k : Int) : ∀ m : Ml, (valV (kvI m) (Sum.inl k)).getD (.int 0) = .int (getI m k)
  | [] => rfl
  | p :: r => by
    have ih := kvI_get k r
    unfold kvI at ih ⊢
    rw [List.map_cons]
    by_cases e : p.1 = k
    · rw [valV_pos (show (Sum.inl p.1 : Key) = Sum.inl k by rw [e]), getI_pos e]
      rfl
    · rw [valV_neg (fun z => e (by injection z)), getI_neg e]
      exact ih
theorem kvI_some {k v : Int} : ∀ {m : Ml}, (ksI m).Nodup → (k, v) ∈ m → valV (kvI m) (Sum.inl k) = some (.int v)
  | p :: r, hn, hm => by
    unfold kvI
    rw [List.map_cons]
    rcases List.mem_cons.mp hm with e | hm
    · subst e
      exact valV_pos rfl
    · have hn' : (p.1 :: ksI r).Nodup := hn
      rw [List.nodup_cons] at hn'
      have hne : ¬ p.1 = k := fun e => hn'.1 (by rw [e]; exact List.mem_map.mpr ⟨(k, v), hm, rfl⟩)
      rw [valV_neg (fun z => hne (by injection z))]
      exact kvI_some hn'.2 hm
theorem kvI_put (m : Ml) (k v : Int) : putK (kvI m) (Sum.inl k) (.int v) = kvI (putI m k v) := by
  have ha : ((kvI m).any fun kv => decide (kv.1 = (Sum.inl k : Key))) = (m.any fun p => decide (p.1 = k)) := by
    unfold kvI
    rw [List.any_map]
    congr 1
    funext p
    show decide ((Sum.inl p.1 : Key) = Sum.inl k) = decide (p.1 = k)
    exact decide_eq_decide.mpr ⟨fun e => by injection e, fun e => by rw [e]⟩
  unfold putK putI
  rw [ha]
  split
  · unfold kvI
    rw [List.map_map, List.map_map]
    congr 1
    funext p
    show (if (Sum.inl p.1 : Key) = Sum.inl k then ((Sum.inl p.1 : Key), V.int v) else (Sum.inl p.1, V.int p.2)) = (Sum.inl (if p.1 = k then (p.1, v) else p).1, V.int (if p.1 = k then (p.1, v) else p).2)
    by_cases e : p.1 = k
    · rw [if_pos (by rw [e]), if_pos e]
    · rw [if_neg (fun z => e (by injection z)), if_neg e]
  · unfold kvI
    rw [List.map_append]
    rfl
theorem kvI_len (m : Ml) : (kvI m).length = m.length := by unfold kvI; rw [List.length_map]
theorem kvI_vals (m : Ml) : (kvI m).map (·.2) = (m.map (·.2)).map V.int := by unfold kvI; rw [List.map_map, List.map_map]; rfl
theorem getI_out {k : Int} : ∀ {m : Ml}, k ∉ ksI m → getI m k = 0
  | [], _ => rfl
  | p :: r, h => by
    have h' : ¬ (k = p.1 ∨ k ∈ ksI r) := fun z => h (List.mem_cons.mpr z)
    rw [getI_neg (fun e => h' (.inl e.symm))]
    exact getI_out fun z => h' (.inr z)
theorem getI_mem {k v : Int} : ∀ {m : Ml}, (ksI m).Nodup → (k, v) ∈ m → getI m k = v
  | p :: r, hn, hm => by
    rcases List.mem_cons.mp hm with e | hm
    · subst e
      exact getI_pos rfl
    · have hn' : (p.1 :: ksI r).Nodup := hn
      rw [List.nodup_cons] at hn'
      rw [getI_neg fun e => hn'.1 (by rw [e]; exact List.mem_map.mpr ⟨(k, v), hm, rfl⟩)]
      exact getI_mem hn'.2 hm
theorem putI_keys (m : Ml) (k v : Int) : ksI (putI m k v) = if k ∈ ksI m then ksI m else ksI m ++ [k] := by
  have ha : (m.any fun p => decide (p.1 = k)) = decide (k ∈ ksI m) := by
    unfold ksI
    rw [Bool.eq_iff_iff, List.any_eq_true, decide_eq_true_eq]
    constructor
    · rintro ⟨p, hp, e⟩
      exact List.mem_map.mpr ⟨p, hp, of_decide_eq_true e⟩
    · intro h
      obtain ⟨p, hp, e⟩ := List.mem_map.mp h
      exact ⟨p, hp, decide_eq_true e⟩
  unfold putI
  rw [ha]
  by_cases h : k ∈ ksI m
  · rw [if_pos (decide_eq_true h), if_pos h]
    unfold ksI
    rw [List.map_map]
    congr 1
    funext p
    show (if p.1 = k then (p.1, v) else p).1 = p.1
    split <;> rfl
  · rw [if_neg (by rw [decide_eq_false h]; decide), if_neg h]
    unfold ksI
    rw [List.map_append]
    rfl
theorem putI_nodup {m : Ml} (k v : Int) (h : (ksI m).Nodup) : (ksI (putI m k v)).Nodup := by
  rw [putI_keys]
  split
  · exact h
  · rename_i hk
    rw [List.nodup_append]
    exact ⟨h, by simp, fun a ha b hb => by
      rw [List.mem_singleton.mp hb]
      intro e
      exact hk (e ▸ ha)⟩
theorem getI_put (k v j : Int) : ∀ m : Ml, getI (putI m k v) j = if j = k then v else getI m j := by
  intro m
  induction m with
  | nil =>
    show getI [(k, v)] j = _
    by_cases e : k = j
    · rw [getI_pos (p := (k, v)) e, if_pos e.symm]
    · rw [getI_neg (p := (k, v)) e, if_neg (fun z => e z.symm)]
  | cons p r ih =>
    unfold putI at ih ⊢
    rw [List.any_cons]
    by_cases e : p.1 = k
    · rw [decide_eq_true e, Bool.true_or, if_pos rfl, List.map_cons, if_pos e]
      by_cases ej : p.1 = j
      · rw [getI_pos (p := (p.1, v)) ej, if_pos (by rw [← ej, e])]
      · rw [getI_neg (p := (p.1, v)) ej, getI_neg ej, if_neg (fun z => ej (by rw [e, z]))]
        by_cases ha : (r.any fun p => decide (p.1 = k)) = true
        · rw [if_pos ha] at ih
          rw [ih, if_neg (fun z => ej (by rw [e, z]))]
        · have hid : r.map (fun p => if p.1 = k then (p.1, v) else p) = r := by
            refine (List.map_congr_left fun q hq => ?_).trans (List.map_id r)
            show (if q.1 = k then (q.1, v) else q) = q
            rw [if_neg fun z => ha (List.any_eq_true.mpr ⟨q, hq, decide_eq_true z⟩)]
          rw [hid]
    · rw [decide_eq_false e, Bool.false_or]
      by_cases ej : p.1 = j
      · have hjk : ¬ j = k := fun z => e (by rw [ej, z])
        rw [if_neg hjk, getI_pos ej]
        split
        · rw [List.map_cons, if_neg e, getI_pos ej]
        · rw [List.cons_append, getI_pos ej]
      · rw [getI_neg ej, ← ih]
        split
        · rw [List.map_cons, if_neg e, getI_neg ej]
        · rw [List.cons_append, getI_neg ej]
/-- a and t times b -/
def bothM (a b : Ml) (t : Int) : Ml := b.foldl (fun m p => putI m p.1 (getI m p.1 + t * p.2)) a
theorem bothM_snoc (a b : Ml) (t : Int) (p : Int × Int) : bothM a (b ++ [p]) t = putI (bothM a b t) p.1 (getI (bothM a b t) p.1 + t * p.2) := by
  unfold bothM
  rw [List.foldl_append]
  rfl
theorem bothM_nodup {t : Int} : ∀ {b a : Ml}, (ksI a).Nodup → (ksI (bothM a b t)).Nodup
  | [], a, h => h
  | p :: r, a, h => bothM_nodup (b := r) (a := putI a p.1 (getI a p.1 + t * p.2)) (putI_nodup _ _ h)
theorem bothM_keys {t k : Int} : ∀ {b a : Ml}, k ∈ ksI (bothM a b t) → k ∈ ksI a ∨ k ∈ ksI b
  | [], a, h => .inl h
  | p :: r, a, h => by
    rcases bothM_keys (b := r) (a := putI a p.1 (getI a p.1 + t * p.2)) h with h | h
    · rw [putI_keys] at h
      split at h
      · exact .inl h
      · rcases List.mem_append.mp h with h | h
        · exact .inl h
        · rw [List.mem_singleton.mp h]
          exact .inr (List.mem_cons_self ..)
    · exact .inr (List.mem_cons_of_mem _ h)
theorem bothM_get {t k : Int} : ∀ {b a : Ml}, (ksI b).Nodup → getI (bothM a b t) k = getI a k + t * getI b k
  | [], a, _ => by rw [getI_nil]; show getI a k = _; omega
  | p :: r, a, h => by
    have h' : (p.1 :: ksI r).Nodup := h
    rw [List.nodup_cons] at h'
    show getI (bothM (putI a p.1 (getI a p.1 + t * p.2)) r t) k = _
    rw [bothM_get h'.2, getI_put]
    by_cases e : k = p.1
    · rw [if_pos e, e, getI_out h'.1, getI_pos rfl]
      omega
    · rw [if_neg e, getI_neg (fun z => e z.symm)]
def both (a b : Sv) (t : Int) : Sv := ⟨a.n + t * b.n, bothM a.m b.m t⟩
structure Sv.ok (b m : Nat) (s : Sv) : Prop where
  n : s.n.natAbs < 2 ^ b
  v : ∀ p ∈ s.m, p.2.natAbs < 2 ^ b
  k : ∀ p ∈ s.m, 0 ≤ p.1 ∧ p.1 < m
  nd : (ksI s.m).Nodup
theorem two_le {b c : Nat} (h : b ≤ c) : 2 ^ b ≤ 2 ^ c := Nat.pow_le_pow_right (by decide) h
theorem Sv.ok.mono {b m b' m' : Nat} {s : Sv} (h : s.ok b m) (hb : b ≤ b') (hm : m ≤ m') : s.ok b' m' :=
  ⟨Nat.lt_of_lt_of_le h.n (two_le hb), fun p hp => Nat.lt_of_lt_of_le (h.v p hp) (two_le hb), fun p hp => by have := h.k p hp; omega, h.nd⟩
theorem Sv.ok.get {b m : Nat} {s : Sv} (h : s.ok b m) (k : Int) : (getI s.m k).natAbs < 2 ^ b := by
  by_cases hk : k ∈ ksI s.m
  · obtain ⟨p, hp, e⟩ := List.mem_map.mp hk
    have := h.v p hp
    rw [← e, getI_mem (v := p.2) h.nd hp]
    exact this
  · rw [getI_out hk]
    exact Nat.lt_of_lt_of_le Nat.zero_lt_one (Nat.one_le_two_pow)
theorem mul_abs {t x : Int} {N : Nat} (h1 : -9 ≤ t) (h2 : t ≤ 9) (hx : x.natAbs < N) : (t * x).natAbs ≤ 9 * N := by
  rw [Int.natAbs_mul]
  exact Nat.mul_le_mul (by omega) (Nat.le_of_lt hx)
theorem Sv.ok.both {b m : Nat} {s u : Sv} {t : Int} (h : s.ok b m) (g : u.ok b m) (h1 : -9 ≤ t) (h2 : t ≤ 9) : (both s u t).ok (b + 4) m := by
  have e : 2 ^ (b + 4) = 16 * 2 ^ b := by rw [Nat.pow_add]; omega
  have key : ∀ x y : Int, x.natAbs < 2 ^ b → y.natAbs < 2 ^ b → (x + t * y).natAbs < 2 ^ (b + 4) := fun x y hx hy => by
    have q := mul_abs h1 h2 hy
    have := Int.natAbs_add_le x (t * y)
    rw [e]
    omega
  refine ⟨key _ _ h.n g.n, fun p hp => ?_, fun p hp => ?_, bothM_nodup h.nd⟩
  · have q := getI_mem (k := p.1) (v := p.2) (bothM_nodup (b := u.m) (t := t) h.nd) hp
    rw [bothM_get g.nd] at q
    rw [← q]
    exact key _ _ (h.get _) (g.get _)
  · rcases bothM_keys (List.mem_map.mpr ⟨p, hp, rfl⟩ : p.1 ∈ ksI (bothM s.m u.m t)) with hk | hk
    · obtain ⟨q, hq, e⟩ := List.mem_map.mp hk
      rw [← e]
      exact h.k q hq
    · obtain ⟨q, hq, e⟩ := List.mem_map.mp hk
      rw [← e]
      exact g.k q hq
theorem nodup_len : ∀ (m : Nat) (l : List Int), l.Nodup → (∀ x ∈ l, 0 ≤ x ∧ x < m) → l.length ≤ m := by
  intro m
  induction m with
  | zero =>
    intro l _ h
    cases l with
    | nil => exact Nat.le_refl _
    | cons x r => have := h x (List.mem_cons_self ..); omega
  | succ m ih =>
    intro l hn h
    have hf : (l.filter fun x => decide (x ≠ (m : Int))).length ≤ m := ih _ (hn.filter _) fun x hx => by
      have q := List.mem_filter.mp hx
      have := h x q.1
      have := of_decide_eq_true q.2
      omega
    have hc : l.length ≤ (l.filter fun x => decide (x ≠ (m : Int))).length + 1 := by
      clear ih hf h
      induction l with
      | nil => exact Nat.zero_le _
      | cons x r ihr =>
        rw [List.nodup_cons] at hn
        by_cases e : x = (m : Int)
        · rw [List.filter_cons_of_neg (by simp [e])]
          have hid : r.filter (fun x => decide (x ≠ (m : Int))) = r := List.filter_eq_self.mpr fun y hy => by
            refine decide_eq_true fun z => hn.1 ?_
            rw [e, ← z]
            exact hy
          rw [hid, List.length_cons]
          exact Nat.le_refl _
        · rw [List.filter_cons_of_pos (by simpa using e), List.length_cons, List.length_cons]
          have := ihr hn.2
          omega
    omega
theorem Sv.ok.len {b m : Nat} {s : Sv} (h : s.ok b m) : s.m.length ≤ m := by
  have q := nodup_len m (ksI s.m) h.nd fun x hx => by
    obtain ⟨p, hp, rfl⟩ := List.mem_map.mp hx
    exact h.k p hp
  unfold ksI at q
  rwa [List.length_map] at q
structure Rs where
  env : Str → Option Sv
  said : List (Str ⊕ Sv)
  made : List Int
def rdS (fix : List Int) (p : Int) (st : Rs) : Sv × Rs := if p ∈ fix then (⟨0, []⟩, st) else (⟨0, [((st.made.length : Nat), 1)]⟩, { st with made := st.made ++ [p] })
def Ex.num : Ex → Int
  | .int i => i
  | _ => 0
def Ex.ev (fix : List Int) (p : Int) : Ex → Rs → Sv × Rs
  | .int i, st => (⟨i, []⟩, st)
  | .name x, st => match st.env x with
    | some s => (s, st)
    | none => rdS fix p st
  | .bin o a b, st => if o = "times" then (both ⟨0, []⟩ (b.ev fix p st).1 a.num, (b.ev fix p st).2)
    else (both (a.ev fix p st).1 (b.ev fix p (a.ev fix p st).2).1 (if o = "plus" then 1 else -1), (b.ev fix p (a.ev fix p st).2).2)
def Sv.non (f : Int → Bool) (s : Sv) : Bool := ((s.m.map (·.2)).filter f).isEmpty
def lessV (v : Sv) : Option Bool := if v.non (fun x => !decide (x = 0)) = true then some (decide (v.n < 0)) else none
def restV (b r : Int) (v : Sv) : Option Bool := if v.non (fun x => !decide (x % b = 0)) = true then some (decide (v.n % b = r)) else none
def Ts.tr (fix : List Int) (p : Int) : Ts → Rs → Option Bool × Rs
  | .not t, st => ((t.tr fix p st).1.map (! ·), (t.tr fix p st).2)
  | .given x, st => (some (st.env x).isSome, st)
  | .rest e b r, st => (restV b r (e.ev fix p st).1, (e.ev fix p st).2)
  | .less a b, st => (lessV (both (a.ev fix p st).1 (b.ev fix p (a.ev fix p st).2).1 (-1)), (b.ev fix p (a.ev fix p st).2).2)
def setE (env : Str → Option Sv) (x : Str) (o : Option Sv) : Str → Option Sv := fun y => if y = x then o else env y
def Pl.go (fix : List Int) (p : Int) : Pl → Rs → Option Str × Rs
  | .set x e, st => (none, { (e.ev fix p st).2 with env := setE (e.ev fix p st).2.env x (some (e.ev fix p st).1) })
  | .unset x, st => (none, { st with env := setE st.env x none })
  | .tell e, st => (none, { (e.ev fix p st).2 with said := (e.ev fix p st).2.said ++ [.inr (e.ev fix p st).1] })
  | .say w, st => (none, { st with said := st.said ++ [.inl w] })
  | .stop w, st => (some w, st)
def iterS (f : Rs → Option Str × Rs) : Nat → Rs → Option Str × Rs
  | 0, st => (none, st)
  | n + 1, st => match f st with
    | (some w, st') => (some w, st')
    | (none, st') => iterS f n st'
mutual
def Sm.go (fix : List Int) : Int → Sm → Rs → Option Str × Rs
  | p, .pl s, st => s.go fix p st
  | p, .ifs t y z, st => match t.tr fix p st with
    | (none, st') => (some "unsure", st')
    | (some true, st') => Sm.goL fix (p + 1) y st'
    | (some false, st') => Sm.goL fix (p + 1 + (Sm.sizes y : Nat)) z st'
  | p, .rep k b, st => iterS (fun st => Sm.goL fix (p + 1) b st) k.toNat st
def Sm.goL (fix : List Int) : Int → List Sm → Rs → Option Str × Rs
  | _, [], st => (none, st)
  | p, s :: r, st => match Sm.go fix p s st with
    | (some w, st') => (some w, st')
    | (none, st') => Sm.goL fix (p + (s.size : Nat)) r st'
end
structure Rs.ok (b L : Nat) (st : Rs) : Prop where
  env : ∀ x s, st.env x = some s → s.ok b st.made.length
  said : ∀ s, .inr s ∈ st.said → s.ok b st.made.length
  sl : st.said.length ≤ L
  ml : st.made.length ≤ 16 * L
theorem Rs.ok.mono {b L b' L' : Nat} {st : Rs} (h : st.ok b L) (hb : b ≤ b') (hL : L ≤ L') : st.ok b' L' :=
  ⟨fun x s e => (h.env x s e).mono hb (Nat.le_refl _), fun s e => (h.said s e).mono hb (Nat.le_refl _), Nat.le_trans h.sl hL, by have := h.ml; omega⟩
/-- a state with the same names and items, and more readings -/
structure Rs.more (st st' : Rs) (k : Nat) : Prop where
  env : st'.env = st.env
  said : st'.said = st.said
  ge : st.made.length ≤ st'.made.length
  le : st'.made.length ≤ st.made.length + k
theorem Rs.more.refl (st : Rs) (k : Nat) : st.more st k := ⟨rfl, rfl, Nat.le_refl _, by omega⟩
theorem Rs.more.trans {a b c : Rs} {k l : Nat} (h : a.more b k) (g : b.more c l) : a.more c (k + l) :=
  ⟨g.env.trans h.env, g.said.trans h.said, Nat.le_trans h.ge g.ge, by have := h.le; have := g.le; omega⟩
theorem rdS_ok (fix : List Int) (p : Int) (st : Rs) : st.more (rdS fix p st).2 1 ∧ ∀ b, 1 ≤ b → (rdS fix p st).1.ok b (rdS fix p st).2.made.length := by
  unfold rdS
  split
  · refine ⟨Rs.more.refl st 1, fun b hb => ⟨?_, (fun p hp => nomatch hp), (fun p hp => nomatch hp), List.nodup_nil⟩⟩
    exact Nat.lt_of_lt_of_le Nat.zero_lt_one (Nat.one_le_two_pow)
  · refine ⟨⟨rfl, rfl, by simp, by simp⟩, fun b hb => ⟨Nat.lt_of_lt_of_le Nat.zero_lt_one (Nat.one_le_two_pow), fun p hp => ?_, fun p hp => ?_, by simp [ksI]⟩⟩
    · rw [List.mem_singleton.mp hp]
      exact Nat.lt_of_lt_of_le (by decide : (1 : Int).natAbs < 2 ^ 1) (two_le hb)
    · rw [List.mem_singleton.mp hp]
      simp
      omega
theorem Ex.ev_ok (fix : List Int) (p : Int) : ∀ {n : Nat} {e : Ex} {st : Rs} {b : Nat}, e.vd n → (∀ x s, st.env x = some s → s.ok b st.made.length) → 7 ≤ b →
    st.more (e.ev fix p st).2 (2 ^ n) ∧ (e.ev fix p st).1.ok (b + 4 * n) (e.ev fix p st).2.made.length
  | 0, _, _, _, h, _, _ => h.elim
  | n + 1, .int i, st, b, h, hs, hb => by
    refine ⟨Rs.more.refl st _, ?_, (fun p hp => nomatch hp), (fun p hp => nomatch hp), List.nodup_nil⟩
    have h1 : -99 ≤ i := h.1
    have h2 : i ≤ 99 := h.2
    show i.natAbs < 2 ^ (b + 4 * (n + 1))
    exact Nat.lt_of_lt_of_le (show i.natAbs < 2 ^ 7 by omega) (two_le (by omega))
  | n + 1, .name x, st, b, h, hs, hb => by
    rw [Ex.ev]
    split
    · rename_i s e
      exact ⟨Rs.more.refl st _, (hs x s e).mono (by omega) (Nat.le_refl _)⟩
    · have q := rdS_ok fix p st
      refine ⟨⟨q.1.env, q.1.said, q.1.ge, ?_⟩, q.2 _ (by omega)⟩
      have := q.1.le
      have := Nat.one_le_two_pow (n := n + 1)
      omega
  | n + 1, .bin o x y, st, b, h, hs, hb => by
    obtain ⟨hy, h⟩ := h
    rw [Ex.ev]
    have e2 : 2 ^ (n + 1) = 2 ^ n + 2 ^ n := by rw [Nat.pow_succ]; omega
    rcases h with ⟨rfl, i, rfl, i1, i2⟩ | ⟨ho, hx⟩
    · rw [if_pos rfl]
      obtain ⟨m1, o1⟩ := Ex.ev_ok fix p (st := st) hy hs hb
      have h2n := Nat.one_le_two_pow (n := n)
      refine ⟨⟨m1.env, m1.said, m1.ge, Nat.le_trans m1.le (by omega)⟩, ?_⟩
      have z : (⟨0, []⟩ : Sv).ok (b + 4 * n) (y.ev fix p st).2.made.length := ⟨Nat.lt_of_lt_of_le Nat.zero_lt_one (Nat.one_le_two_pow), (fun p hp => nomatch hp), (fun p hp => nomatch hp), List.nodup_nil⟩
      exact (z.both o1 i1 i2).mono (by omega) (Nat.le_refl _)
    · have hot : o ≠ "times" := by
        rcases ho with rfl | rfl <;> decide +kernel
      rw [if_neg hot]
      obtain ⟨m1, o1⟩ := Ex.ev_ok fix p (st := st) hx hs hb
      have hs2 : ∀ z s, (x.ev fix p st).2.env z = some s → s.ok b (x.ev fix p st).2.made.length := fun z s e => by
        rw [m1.env] at e
        exact (hs z s e).mono (Nat.le_refl _) m1.ge
      obtain ⟨m2, o2⟩ := Ex.ev_ok fix p (st := (x.ev fix p st).2) hy hs2 hb
      have m12 := m1.trans m2
      refine ⟨⟨m12.env, m12.said, m12.ge, Nat.le_trans m12.le (by omega)⟩, ?_⟩
      have t9 : -9 ≤ (if o = "plus" then (1 : Int) else -1) ∧ (if o = "plus" then (1 : Int) else -1) ≤ 9 := by split <;> omega
      exact ((o1.mono (Nat.le_refl _) m2.ge).both o2 t9.1 t9.2).mono (by omega) (Nat.le_refl _)
theorem Ts.tr_ok (fix : List Int) (p : Int) : ∀ {n : Nat} {t : Ts} {st : Rs} {b : Nat}, t.vd n → (∀ x s, st.env x = some s → s.ok b st.made.length) → 7 ≤ b → st.more (t.tr fix p st).2 16
  | n + 1, .not t, st, b, h, hs, hb => Ts.tr_ok fix p (n := n) (t := t) h hs hb
  | n, .given x, st, b, h, hs, hb => Rs.more.refl st _
  | n, .rest e c r, st, b, h, hs, hb => by
    have q : e.vd 3 := by cases n <;> exact h.1
    have := (Ex.ev_ok fix p q hs hb).1
    exact ⟨this.env, this.said, this.ge, Nat.le_trans this.le (by omega)⟩
  | n, .less x y, st, b, h, hs, hb => by
    have q : x.vd 3 ∧ y.vd 3 := by cases n <;> exact h
    have m1 := (Ex.ev_ok fix p q.1 hs hb).1
    have hs2 : ∀ z s, (x.ev fix p st).2.env z = some s → s.ok b (x.ev fix p st).2.made.length := fun z s e => by
      rw [m1.env] at e
      exact (hs z s e).mono (Nat.le_refl _) m1.ge
    have m2 := (Ex.ev_ok fix p q.2 hs2 hb).1
    have m12 := m1.trans m2
    exact ⟨m12.env, m12.said, m12.ge, Nat.le_trans m12.le (by omega)⟩
mutual
def Sm.wt : Sm → Nat
  | .pl _ => 1
  | .ifs _ y z => 1 + (Sm.wts y + Sm.wts z)
  | .rep k b => 1 + Sm.wts b * k.toNat
def Sm.wts : List Sm → Nat
  | [] => 0
  | s :: r => Sm.wt s + Sm.wts r
end
theorem Sm.wts_cnts : ∀ (n : Nat) (b : List Sm), VdB n b → (Sm.wts b : Int) = Sm.cnts "weight" b := by
  intro n
  induction n with
  | zero =>
    intro b h
    have h : b = [] := h
    subst h
    rw [Sm.wts, Sm.cnts]
    rfl
  | succ n ih =>
    intro b h
    induction b with
    | nil => rw [Sm.wts, Sm.cnts]; rfl
    | cons s r ihr =>
      have hr := ihr fun z hz => h z (List.mem_cons_of_mem _ hz)
      have hs : (s.wt : Int) = Sm.cnt "weight" s := by
        have hv := h s (List.mem_cons_self ..)
        have hp := hv.parts
        cases s with
        | pl p => rw [Sm.wt, Sm.cnt_pl, if_pos rfl]; rfl
        | ifs t y z =>
          have q1 := ih y (hp y (by simp [Sm.parts]))
          have q2 := ih z (hp z (by simp [Sm.parts]))
          rw [Sm.wt, Sm.cnt, Sm.cnt_w]
          omega
        | rep k b =>
          have hk : 0 ≤ k := by cases n <;> exact hv.1
          have q1 := ih b (hp b (by simp [Sm.parts]))
          rw [Sm.wt, Sm.cnt, Sm.cnt_w, ← q1]
          have : ((k.toNat : Nat) : Int) = k := Int.toNat_of_nonneg hk
          rw [Int.natCast_add, Int.natCast_mul, this]
          rfl
      rw [Sm.wts, Sm.cnts]
      omega
theorem Rs.ok.more {b L k : Nat} {st st' : Rs} (h : st.ok b L) (m : st.more st' k) (hk : k ≤ 16) : st'.ok b (L + 1) := by
  have := m.le; have := h.ml; have := h.sl
  exact ⟨fun x s e => (h.env x s (by rw [← m.env]; exact e)).mono (Nat.le_refl _) m.ge, fun s e => (h.said s (by rw [← m.said]; exact e)).mono (Nat.le_refl _) m.ge, by rw [m.said]; omega, by omega⟩
theorem Pl.go_ok (fix : List Int) (p : Int) {s : Pl} {st : Rs} {b L : Nat} (h : s.vd) (hs : st.ok b L) (hb : 7 ≤ b) : (s.go fix p st).2.ok (b + 12) (L + 1) := by
  cases s with
  | set x e =>
    obtain ⟨m, o⟩ := Ex.ev_ok fix p h.2 hs.env hb
    have q := hs.more m (by decide)
    rw [Pl.go]
    refine ⟨fun y s e' => ?_, fun s e' => (q.said s e').mono (by omega) (Nat.le_refl _), q.sl, q.ml⟩
    have e' : setE _ x _ y = some s := e'
    unfold setE at e'
    split at e'
    · cases e'
      exact o
    · exact (q.env y s e').mono (by omega) (Nat.le_refl _)
  | unset x =>
    rw [Pl.go]
    refine ⟨fun y s e' => ?_, fun s e' => (hs.said s e').mono (by omega) (Nat.le_refl _), by have := hs.sl; exact Nat.le_trans this (by omega), by have := hs.ml; exact Nat.le_trans this (by omega)⟩
    have e' : setE _ x _ y = some s := e'
    unfold setE at e'
    split at e'
    · cases e'
    · exact (hs.env y s e').mono (by omega) (Nat.le_refl _)
  | tell e =>
    obtain ⟨m, o⟩ := Ex.ev_ok fix p (n := 3) h hs.env hb
    have q := hs.more m (by decide)
    rw [Pl.go]
    refine ⟨fun y s e' => (q.env y s e').mono (by omega) (Nat.le_refl _), fun s e' => ?_, ?_, q.ml⟩
    · rcases List.mem_append.mp e' with e' | e'
      · exact (q.said s e').mono (by omega) (Nat.le_refl _)
      · cases List.mem_singleton.mp e'
        exact o
    · show ((Ex.ev fix p e st).2.said ++ [_]).length ≤ L + 1
      rw [List.length_append, m.said]
      have := hs.sl
      simpa using this
  | say w =>
    rw [Pl.go]
    refine ⟨fun y s e' => (hs.env y s e').mono (by omega) (Nat.le_refl _), fun s e' => ?_, ?_, by have := hs.ml; exact Nat.le_trans this (by omega)⟩
    · rcases List.mem_append.mp e' with e' | e'
      · exact (hs.said s e').mono (by omega) (Nat.le_refl _)
      · cases List.mem_singleton.mp e'
    · show (st.said ++ [_]).length ≤ L + 1
      rw [List.length_append]
      have := hs.sl
      simpa using this
  | stop w => exact hs.mono (by omega) (by omega)
theorem iterS_ok {f : Rs → Option Str × Rs} {w : Nat} (hf : ∀ (st : Rs) (b L : Nat), st.ok b L → 7 ≤ b → (f st).2.ok (b + 12 * w) (L + w)) : ∀ (k : Nat) (st : Rs) (b L : Nat), st.ok b L → 7 ≤ b → (iterS f k st).2.ok (b + 12 * (w * k)) (L + w * k)
  | 0, st, b, L, h, _ => by
    rw [iterS]
    exact h.mono (by omega) (by omega)
  | k + 1, st, b, L, h, hb => by
    have q := hf st b L h hb
    rw [iterS]
    cases e : f st with
    | mk o st' =>
      rw [e] at q
      have e2 : w * (k + 1) = w * k + w := by rw [Nat.mul_succ]
      cases o with
      | some x => exact q.mono (by omega) (by omega)
      | none =>
        have z := iterS_ok hf k st' _ _ q (by omega)
        exact z.mono (by omega) (by omega)
theorem Sm.goL_ok (fix : List Int) : ∀ (n : Nat) (bl : List Sm) (p : Int) (st : Rs) (b L : Nat), VdB n bl → st.ok b L → 7 ≤ b → (Sm.goL fix p bl st).2.ok (b + 12 * Sm.wts bl) (L + Sm.wts bl) := by
  intro n
  induction n with
  | zero =>
    intro bl p st b L h hs hb
    have h : bl = [] := h
    subst h
    rw [Sm.goL, Sm.wts]
    exact hs.mono (by omega) (by omega)
  | succ n ih =>
    intro bl
    induction bl with
    | nil =>
      intro p st b L h hs hb
      rw [Sm.goL, Sm.wts]
      exact hs.mono (by omega) (by omega)
    | cons s r ihr =>
      intro p st b L h hs hb
      have hv := h s (List.mem_cons_self ..)
      have hp := hv.parts
      have h1 : (Sm.go fix p s st).2.ok (b + 12 * s.wt) (L + s.wt) := by
        cases s with
        | pl q =>
          have q' : q.vd := by cases n <;> exact hv
          rw [Sm.go, Sm.wt]
          exact Pl.go_ok fix p q' hs hb
        | ifs t y z =>
          have ht : t.vd 2 := by cases n <;> exact hv.1
          have m := Ts.tr_ok fix p ht hs.env hb
          have hs' := hs.more m (Nat.le_refl _)
          rw [Sm.go, Sm.wt]
          cases e : t.tr fix p st with
          | mk o st' =>
            rw [e] at hs'
            match o with
            | none => exact hs'.mono (by omega) (by omega)
            | some true => exact (ih y (p + 1) st' b (L + 1) (hp y (by simp [Sm.parts])) hs' hb).mono (by omega) (by omega)
            | some false => exact (ih z _ st' b (L + 1) (hp z (by simp [Sm.parts])) hs' hb).mono (by omega) (by omega)
        | rep k bb =>
          rw [Sm.go, Sm.wt]
          exact (iterS_ok (fun st b L h hb => ih bb (p + 1) st b L (hp bb (by simp [Sm.parts])) h hb) k.toNat st b L hs hb).mono (by omega) (by omega)
      rw [Sm.goL, Sm.wts]
      cases e : Sm.go fix p s st with
      | mk o st' =>
        rw [e] at h1
        cases o with
        | some w => exact h1.mono (by omega) (by omega)
        | none => exact (ihr _ st' _ _ (fun z hz => h z (List.mem_cons_of_mem _ hz)) h1 (by omega)).mono (by omega) (by omega)
def SvT (M : List Addr) (K : PySem.W.Frag) (H : Hp) (v : V) (s : Sv) : Prop := ∃ a dd, v = .ref a ∧ SqT K H a [.int s.n, .ref dd] ∧ H dd = some (.dK (kvI s.m)) ∧ dd ∉ M
def SvL (M : List Addr) (H : Hp) (v : V) (s : Sv) : Prop := ∃ a dd, v = .ref a ∧ H a = some (.lst [.int s.n, .ref dd]) ∧ H dd = some (.dK (kvI s.m)) ∧ a ∉ M ∧ dd ∉ M
section
variable {M N : List Addr} {K : PySem.W.Frag} {H H1 : Hp} {v : V} {s : Sv}
theorem SvT.kp (h : SvT M K H v s) (k : Kp N H H1) (hs : ∀ b ∈ N, b ∈ M) : SvT M K H1 v s := by
  obtain ⟨a, dd, e, h1, h2, h3⟩ := h
  exact ⟨a, dd, e, sqT_kp k h1, k.get h2 fun m => h3 (hs _ m), h3⟩
theorem SvT.kp0 (h : SvT M K H v s) (k : Kp [] H H1) : SvT M K H1 v s := h.kp k (by simp)
theorem SvT.sub (h : SvT M K H v s) (hs : ∀ b ∈ N, b ∈ M) : SvT N K H v s := by
  obtain ⟨a, dd, e, h1, h2, h3⟩ := h
  exact ⟨a, dd, e, h1, h2, fun m => h3 (hs _ m)⟩
theorem SvT.fresh {l : Addr} (h : SvT M K H v s) (n : H l = none) : SvT (l :: M) K H v s := by
  obtain ⟨a, dd, e, h1, h2, h3⟩ := h
  refine ⟨a, dd, e, h1, h2, fun m => ?_⟩
  rcases List.mem_cons.mp m with z | z
  · rw [z, n] at h2; cases h2
  · exact h3 z
theorem SvL.kp (h : SvL M H v s) (k : Kp N H H1) (hs : ∀ b ∈ N, b ∈ M) : SvL M H1 v s := by
  obtain ⟨a, dd, e, h1, h2, h3, h4⟩ := h
  exact ⟨a, dd, e, k.get h1 fun m => h3 (hs _ m), k.get h2 fun m => h4 (hs _ m), h3, h4⟩
theorem SvL.kp0 (h : SvL M H v s) (k : Kp [] H H1) : SvL M H1 v s := h.kp k (by simp)
theorem SvL.sub (h : SvL M H v s) (hs : ∀ b ∈ N, b ∈ M) : SvL N H v s := by
  obtain ⟨a, dd, e, h1, h2, h3, h4⟩ := h
  exact ⟨a, dd, e, h1, h2, fun m => h3 (hs _ m), fun m => h4 (hs _ m)⟩
theorem SvL.fresh {l : Addr} (h : SvL M H v s) (n : H l = none) : SvL (l :: M) H v s := by
  obtain ⟨a, dd, e, h1, h2, h3, h4⟩ := h
  refine ⟨a, dd, e, h1, h2, fun m => ?_, fun m => ?_⟩
  · rcases List.mem_cons.mp m with z | z
    · rw [z, n] at h1; cases h1
    · exact h3 z
  · rcases List.mem_cons.mp m with z | z
    · rw [z, n] at h2; cases h2
    · exact h4 z
end
/-- the names: the program's dict, the law's dict (None: unset) -/
def EnvT (M : List Addr) (K : PySem.W.Frag) (H : Hp) (kvs : List (Key × V)) (env : Str → Option Sv) : Prop := ∀ x : Str,
  (valV kvs (Sum.inr x) = none ∧ env x = none) ∨ ∃ v s, valV kvs (Sum.inr x) = some v ∧ env x = some s ∧ SvT M K H v s
def EnvL (M : List Addr) (H : Hp) (kvs : List (Key × V)) (env : Str → Option Sv) : Prop := ∀ x : Str,
  ((valV kvs (Sum.inr x) = none ∨ valV kvs (Sum.inr x) = some .non) ∧ env x = none) ∨ ∃ v s, valV kvs (Sum.inr x) = some v ∧ env x = some s ∧ SvL M H v s
def ItT (M : List Addr) (K : PySem.W.Frag) (H : Hp) (v : V) : Str ⊕ Sv → Prop
  | .inl w => v = .str w
  | .inr s => SvT M K H v s
def ItL (M : List Addr) (H : Hp) (v : V) : Str ⊕ Sv → Prop
  | .inl w => v = .str w
  | .inr s => SvL M H v s
structure ItsT (M : List Addr) (K : PySem.W.Frag) (H : Hp) (vs : List V) (its : List (Str ⊕ Sv)) : Prop where
  len : vs.length = its.length
  all : ∀ (i : Nat) (v : V) (t : Str ⊕ Sv), vs[i]? = some v → its[i]? = some t → ItT M K H v t
structure ItsL (M : List Addr) (H : Hp) (vs : List V) (its : List (Str ⊕ Sv)) : Prop where
  len : vs.length = its.length
  all : ∀ (i : Nat) (v : V) (t : Str ⊕ Sv), vs[i]? = some v → its[i]? = some t → ItL M H v t
section
variable {M N : List Addr} {K : PySem.W.Frag} {H H1 : Hp} {kvs : List (Key × V)} {env : Str → Option Sv} {vs : List V} {its : List (Str ⊕ Sv)} {v : V} {t : Str ⊕ Sv}
theorem EnvT.kp (h : EnvT M K H kvs env) (k : Kp N H H1) (hs : ∀ b ∈ N, b ∈ M) : EnvT M K H1 kvs env := fun x => by
  rcases h x with h | ⟨v, s, h1, h2, h3⟩
  · exact .inl h
  · exact .inr ⟨v, s, h1, h2, h3.kp k hs⟩
theorem EnvL.kp (h : EnvL M H kvs env) (k : Kp N H H1) (hs : ∀ b ∈ N, b ∈ M) : EnvL M H1 kvs env := fun x => by
  rcases h x with h | ⟨v, s, h1, h2, h3⟩
  · exact .inl h
  · exact .inr ⟨v, s, h1, h2, h3.kp k hs⟩
theorem ItT.kp (h : ItT M K H v t) (k : Kp N H H1) (hs : ∀ b ∈ N, b ∈ M) : ItT M K H1 v t := by
  cases t with
  | inl w => exact h
  | inr s => exact SvT.kp h k hs
theorem ItL.kp (h : ItL M H v t) (k : Kp N H H1) (hs : ∀ b ∈ N, b ∈ M) : ItL M H1 v t := by
  cases t with
  | inl w => exact h
  | inr s => exact SvL.kp h k hs
theorem ItsT.kp (h : ItsT M K H vs its) (k : Kp N H H1) (hs : ∀ b ∈ N, b ∈ M) : ItsT M K H1 vs its := ⟨h.len, fun i v t e e' => (h.all i v t e e').kp k hs⟩
theorem ItsL.kp (h : ItsL M H vs its) (k : Kp N H H1) (hs : ∀ b ∈ N, b ∈ M) : ItsL M H1 vs its := ⟨h.len, fun i v t e e' => (h.all i v t e e').kp k hs⟩
theorem ItsT.snoc (h : ItsT M K H vs its) (ht : ItT M K H v t) : ItsT M K H (vs ++ [v]) (its ++ [t]) := by
  refine ⟨by rw [List.length_append, List.length_append, h.len]; rfl, fun i u e q q' => ?_⟩
  by_cases hi : i < vs.length
  · rw [List.getElem?_append_left hi] at q
    rw [List.getElem?_append_left (by rw [← h.len]; exact hi)] at q'
    exact h.all i u e q q'
  · rw [List.getElem?_append_right (by omega)] at q
    rw [List.getElem?_append_right (by rw [← h.len]; omega), ← h.len] at q'
    have hlt := (List.getElem?_eq_some_iff.mp q).1
    rw [List.length_singleton] at hlt
    obtain h0 : i - vs.length = 0 := by omega
    rw [h0] at q q'
    cases q
    cases q'
    exact ht
theorem ItsL.snoc (h : ItsL M H vs its) (ht : ItL M H v t) : ItsL M H (vs ++ [v]) (its ++ [t]) := by
  refine ⟨by rw [List.length_append, List.length_append, h.len]; rfl, fun i u e q q' => ?_⟩
  by_cases hi : i < vs.length
  · rw [List.getElem?_append_left hi] at q
    rw [List.getElem?_append_left (by rw [← h.len]; exact hi)] at q'
    exact h.all i u e q q'
  · rw [List.getElem?_append_right (by omega)] at q
    rw [List.getElem?_append_right (by rw [← h.len]; omega), ← h.len] at q'
    have hlt := (List.getElem?_eq_some_iff.mp q).1
    rw [List.length_singleton] at hlt
    obtain h0 : i - vs.length = 0 := by omega
    rw [h0] at q q'
    cases q
    cases q'
    exact ht
theorem EnvT.put {x : Str} {s : Sv} (h : EnvT M K H kvs env) (hv : SvT M K H v s) : EnvT M K H (putK kvs (Sum.inr x) v) (setE env x (some s)) := fun y => by
  rw [valV_put]
  unfold setE
  by_cases e : y = x
  · rw [if_pos (by rw [e]), if_pos e]
    exact .inr ⟨v, s, rfl, rfl, hv⟩
  · rw [if_neg (fun z => e (by injection z)), if_neg e]
    exact h y
theorem EnvL.put {x : Str} {s : Sv} (h : EnvL M H kvs env) (hv : SvL M H v s) : EnvL M H (putK kvs (Sum.inr x) v) (setE env x (some s)) := fun y => by
  rw [valV_put]
  unfold setE
  by_cases e : y = x
  · rw [if_pos (by rw [e]), if_pos e]
    exact .inr ⟨v, s, rfl, rfl, hv⟩
  · rw [if_neg (fun z => e (by injection z)), if_neg e]
    exact h y
theorem valV_drop (k j : Key) : ∀ kvs : List (Key × V), valV (dropK kvs k) j = if j = k then none else valV kvs j
  | [] => by split <;> rfl
  | p :: r => by
    have ih := valV_drop k j r
    by_cases e : p.1 = k
    · have e1 : dropK (p :: r) k = dropK r k := by unfold dropK; rw [List.filter_cons_of_neg (by simp [e])]
      rw [e1, ih]
      split
      · rfl
      · rename_i hj
        rw [valV_neg fun z => hj (by rw [← z, e])]
    · have e1 : dropK (p :: r) k = p :: dropK r k := by unfold dropK; rw [List.filter_cons_of_pos (by simpa using e)]
      rw [e1]
      by_cases ej : p.1 = j
      · rw [valV_pos ej, if_neg (fun z => e (by rw [ej, z])), valV_pos ej]
      · rw [valV_neg ej, valV_neg ej, ih]
theorem EnvT.drop {x : Str} (h : EnvT M K H kvs env) : EnvT M K H (dropK kvs (Sum.inr x)) (setE env x none) := fun y => by
  rw [valV_drop]
  unfold setE
  by_cases e : y = x
  · rw [if_pos (by rw [e]), if_pos e]
    exact .inl ⟨rfl, rfl⟩
  · rw [if_neg (fun z => e (by injection z)), if_neg e]
    exact h y
theorem EnvT.same {x : Str} (h : EnvT M K H kvs env) (e : valV kvs (Sum.inr x) = none) : EnvT M K H kvs (setE env x none) := fun y => by
  unfold setE
  by_cases ey : y = x
  · rw [if_pos ey, ey]
    exact .inl ⟨e, rfl⟩
  · rw [if_neg ey]
    exact h y
end
/-- the object of a run -/
structure Crs (K : PySem.W.Frag) (C sf nd sd rd : Addr) (fv : V) (fix : List Int) (H : Hp) (st : Rs) (L : Nat) : Prop where
  obj : ∃ dx, H sf = some (.ins C dx [("names", .ref nd), ("said", .ref sd), ("readings", .ref rd), ("fix", fv)])
  names : ∃ kvs, H nd = some (.dK kvs) ∧ EnvT [nd, sd, rd] K H kvs st.env ∧ kvs.length ≤ L
  said : ∃ vs, H sd = some (.lst vs) ∧ ItsT [nd, sd, rd] K H vs st.said
  made : H rd = some (.lst (st.made.map V.int))
  fixed : ∃ a, fv = .ref a ∧ SqT K H a (fix.map V.int)
  ne : sd ≠ rd
theorem Crs.ms {K : PySem.W.Frag} {C sf nd sd rd : Addr} {fv : V} {fix : List Int} {H : Hp} {st : Rs} {L : Nat} (c : Crs K C sf nd sd rd fv fix H st L) : Ms [nd, sd, rd] H := by
  obtain ⟨kvs, h1, _⟩ := c.names
  obtain ⟨vs, h2, _⟩ := c.said
  exact Ms.cons h1 trivial (Ms.cons h2 trivial (Ms.cons c.made trivial Ms.nil))
theorem Ms.oc {M : List Addr} {H : Hp} (h : Ms M H) : Oc M H := fun a m => by
  obtain ⟨o, e, _⟩ := h a m
  exact ⟨o, e⟩
theorem Crs.kp0 {K : PySem.W.Frag} {C sf nd sd rd : Addr} {fv : V} {fix : List Int} {H H1 : Hp} {st : Rs} {L : Nat} (c : Crs K C sf nd sd rd fv fix H st L) (k : Kp [] H H1) : Crs K C sf nd sd rd fv fix H1 st L := by
  obtain ⟨dx, h0⟩ := c.obj
  obtain ⟨kvs, h1, h2, h3⟩ := c.names
  obtain ⟨vs, h4, h5⟩ := c.said
  obtain ⟨a, h6, h7⟩ := c.fixed
  exact ⟨⟨dx, k.get h0 (by simp)⟩, ⟨kvs, k.get h1 (by simp), h2.kp k (by simp), h3⟩, ⟨vs, k.get h4 (by simp), h5.kp k (by simp)⟩, k.get c.made (by simp), ⟨a, h6, sqT_kp k h7⟩, c.ne⟩
def wdV : Option Str → V
  | none => .non
  | some w => .str w
def trV : Option Bool → V
  | none => .non
  | some b => .bl b
end Aw
namespace Aw
open PySem PySem.Spec L2
theorem Sm.size_mem {c : Sm} : ∀ {b : List Sm}, c ∈ b → c.size ≤ Sm.sizes b
  | _ :: r, .head _ => by rw [Sm.sizes]; omega
  | _ :: r, .tail _ h => by have := Sm.size_mem h; rw [Sm.sizes]; omega
theorem Sm.sizes_sum : ∀ b : List Sm, (b.map fun c => ((c.size : Nat) : Int)).sum = ((Sm.sizes b : Nat) : Int)
  | [] => by rw [Sm.sizes]; rfl
  | c :: r => by rw [List.map_cons, List.sum_cons, Sm.sizes_sum r, Sm.sizes]; omega
theorem drop_cons {α : Type} {l : List α} {i : Nat} {c : α} (h : l[i]? = some c) : l.drop i = c :: l.drop (i + 1) := by
  obtain ⟨hi, e⟩ := List.getElem?_eq_some_iff.mp h
  rw [List.drop_eq_getElem_cons hi, e]
theorem Sm.wts_app : ∀ a b : List Sm, Sm.wts (a ++ b) = Sm.wts a + Sm.wts b
  | [], b => by rw [List.nil_append, Sm.wts, Nat.zero_add]
  | s :: r, b => by rw [List.cons_append, Sm.wts, Sm.wts, Sm.wts_app r b, Nat.add_assoc]
theorem Sm.wts_take {bl : List Sm} {i : Nat} {c : Sm} (h : bl[i]? = some c) : Sm.wts (bl.take (i + 1)) = Sm.wts (bl.take i) + c.wt ∧ Sm.wts (bl.take i) + c.wt ≤ Sm.wts bl := by
  have e : Sm.wts (bl.take (i + 1)) = Sm.wts (bl.take i) + c.wt := by
    rw [List.take_add_one, h, Sm.wts_app]
    show _ + Sm.wts [c] = _
    rw [Sm.wts, Sm.wts]
    omega
  refine ⟨e, ?_⟩
  have := Sm.wts_app (bl.take (i + 1)) (bl.drop (i + 1))
  rw [List.take_append_drop] at this
  omega
theorem Sm.go_ok (fix : List Int) (p : Int) {n : Nat} {c : Sm} {st : Rs} {b L : Nat} (h : c.vd n) (hs : st.ok b L) (hb : 7 ≤ b) : (Sm.go fix p c st).2.ok (b + 12 * c.wt) (L + c.wt) := by
  have q := Sm.goL_ok fix (n + 1) [c] p st b L (fun s hs => by rw [List.mem_singleton.mp hs]; exact h) hs hb
  rw [Sm.goL, Sm.wts, Sm.wts, Nat.add_zero] at q
  cases e : Sm.go fix p c st with
  | mk o st' =>
    rw [e] at q
    cases o with
    | none => simpa only [Sm.goL] using q
    | some w => exact q
theorem DtL.get {K : PySem.W.Frag} {H : Hp} {vs : List V} {ds : List PyData} {i : Nat} {v : V} (h : DtL K H vs ds) (e : vs[i]? = some v) : ∃ d, ds[i]? = some d ∧ Dt K H v d := by
  have hi := (List.getElem?_eq_some_iff.mp e).1
  rw [h.len] at hi
  exact ⟨ds[i], List.getElem?_eq_getElem hi, h.all i v _ e (List.getElem?_eq_getElem hi)⟩
theorem DtL.un {K : PySem.W.Frag} {H : Hp} {vs : List V} {ds : List PyData} {d : PyData} (h : DtL K H vs (d :: ds)) : ∃ v us, vs = v :: us ∧ Dt K H v d := by
  cases vs with
  | nil => have := h.len; cases this
  | cons v us => exact ⟨v, us, rfl, h.all 0 v d rfl rfl⟩
theorem atI0 (x : V) (xs : List V) : atI (x :: xs) 0 = some x := by
  unfold atI ixN
  simp
theorem Pl.head2 (s : Pl) : ∃ (h : Str) (ds : List PyData), s.d = .tuple (.str h :: ds) ∧ h ≠ "if" ∧ h ≠ "repeat" := by
  cases s with
  | set x e => exact ⟨_, _, rfl, by decide +kernel, by decide +kernel⟩
  | unset x => exact ⟨_, _, rfl, by decide +kernel, by decide +kernel⟩
  | tell e => exact ⟨_, _, rfl, by decide +kernel, by decide +kernel⟩
  | say w => exact ⟨_, _, rfl, by decide +kernel, by decide +kernel⟩
  | stop w => exact ⟨_, _, rfl, by decide +kernel, by decide +kernel⟩
def spPlaces (K : PySem.W.Frag) (n : Nat) : Sp := fun vs H Q _ => ∃ (v : V) (s : Sm), vs = [v] ∧ Dw [] K H v s.d ∧ s.vd n ∧ s.size ≤ 10000 ∧ ∀ H', Kp [] H H' → Q (.int (s.size : Nat)) H'
/-- a sum and so many times another -/
def spAdded (K : PySem.W.Frag) : Sp := fun vs H Q _ => ∃ (M : List Addr) (v u : V) (s r : Sv) (t : Int) (b m : Nat), vs = [v, u, .int t] ∧ Oc M H ∧ SvT M K H v s ∧ SvT M K H u r ∧ s.ok b m ∧ r.ok b m ∧ m ≤ 10000 ∧ -9 ≤ t ∧ t ≤ 9 ∧
  ∀ (H' : Hp) (z : V), Kp [] H H' → SvT M K H' z (both s r t) → Q z H'
def spWholeS (K : PySem.W.Frag) : Sp := fun vs H Q _ => ∃ (M : List Addr) (i : Int), vs = [.int i] ∧ Oc M H ∧ ∀ (H' : Hp) (z : V), Kp [] H H' → SvT M K H' z ⟨i, []⟩ → Q z H'
/-- what a run's object promises behind a step -/
def spRead (K : PySem.W.Frag) (C : Addr) : Sp := fun vs H Q _ => ∃ (sf nd sd rd : Addr) (fv : V) (fix : List Int) (st : Rs) (L : Nat) (p : Int), vs = [.ref sf, .int p] ∧ Crs K C sf nd sd rd fv fix H st L ∧ st.made.length ≤ 9000 ∧
  ∀ (H' : Hp) (z : V), Kp [nd, sd, rd] H H' → Crs K C sf nd sd rd fv fix H' (rdS fix p st).2 L → SvT [nd, sd, rd] K H' z (rdS fix p st).1 → Q z H'
def spWorth (K : PySem.W.Frag) (C : Addr) (n : Nat) : Sp := fun vs H Q _ => ∃ (sf nd sd rd : Addr) (fv v : V) (fix : List Int) (st : Rs) (L b : Nat) (p : Int) (e : Ex), vs = [.ref sf, v, .int p] ∧ Crs K C sf nd sd rd fv fix H st L ∧ Dt K H v e.d ∧ e.vd n ∧
  (∀ x s, st.env x = some s → s.ok b st.made.length) ∧ 7 ≤ b ∧ st.made.length + 2 ^ n ≤ 9000 ∧
  ∀ (H' : Hp) (z : V), Kp [nd, sd, rd] H H' → Crs K C sf nd sd rd fv fix H' (e.ev fix p st).2 L → SvT [nd, sd, rd] K H' z (e.ev fix p st).1 → Q z H'
def spTruth (K : PySem.W.Frag) (C : Addr) (n : Nat) : Sp := fun vs H Q _ => ∃ (sf nd sd rd : Addr) (fv v : V) (fix : List Int) (st : Rs) (L b : Nat) (p : Int) (t : Ts), vs = [.ref sf, v, .int p] ∧ Crs K C sf nd sd rd fv fix H st L ∧ Dt K H v t.d ∧ t.vd n ∧
  (∀ x s, st.env x = some s → s.ok b st.made.length) ∧ 7 ≤ b ∧ st.made.length + 16 ≤ 9000 ∧
  ∀ (H' : Hp), Kp [nd, sd, rd] H H' → Crs K C sf nd sd rd fv fix H' (t.tr fix p st).2 L → Q (trV (t.tr fix p st).1) H'
def spDo (K : PySem.W.Frag) (C : Addr) : Sp := fun vs H Q _ => ∃ (sf nd sd rd : Addr) (fv v : V) (fix : List Int) (st : Rs) (L b : Nat) (p : Int) (s : Pl), vs = [.ref sf, v, .int p] ∧ Crs K C sf nd sd rd fv fix H st L ∧ Dt K H v s.d ∧ s.vd ∧
  st.ok b L ∧ 7 ≤ b ∧ L ≤ 500 ∧
  ∀ (H' : Hp), Kp [nd, sd, rd] H H' → Crs K C sf nd sd rd fv fix H' (s.go fix p st).2 (L + 1) → Q (wdV (s.go fix p st).1) H'
def spGo (K : PySem.W.Frag) (C : Addr) (n : Nat) : Sp := fun vs H Q _ => ∃ (sf nd sd rd : Addr) (fv v : V) (fix : List Int) (st : Rs) (L b : Nat) (p : Int) (bl : List Sm), vs = [.ref sf, v, .int p] ∧ Crs K C sf nd sd rd fv fix H st L ∧ Dt K H v (.tuple (Sm.ds bl)) ∧ VdB n bl ∧
  st.ok b L ∧ 7 ≤ b ∧ L + Sm.wts bl ≤ 500 ∧ Sm.sizes bl ≤ 10000 ∧
  ∀ (H' : Hp), Kp [nd, sd, rd] H H' → Crs K C sf nd sd rd fv fix H' (Sm.goL fix p bl st).2 (L + Sm.wts bl) → Q (wdV (Sm.goL fix p bl st).1) H'
/-- a statement with blocks -/
def spBlk (K : PySem.W.Frag) (C : Addr) (n : Nat) (rep : Bool) : Sp := fun vs H Q _ => ∃ (sf nd sd rd : Addr) (fv v : V) (fix : List Int) (st : Rs) (L b : Nat) (p : Int) (s : Sm), vs = [.ref sf, v, .int p] ∧ Crs K C sf nd sd rd fv fix H st L ∧ Dt K H v s.d ∧ s.vd n ∧
  (if rep = true then ∃ k bb, s = .rep k bb else ∃ t y z, s = .ifs t y z) ∧
  st.ok b L ∧ 7 ≤ b ∧ L + s.wt ≤ 500 ∧ s.size ≤ 10000 ∧
  ∀ (H' : Hp), Kp [nd, sd, rd] H H' → Crs K C sf nd sd rd fv fix H' (Sm.go fix p s st).2 (L + s.wt) → Q (wdV (Sm.go fix p s st).1) H'
/-- the class of runs -/
structure CT (K : PySem.W.Frag) (C : Addr) : Prop where
  cl : Cls K C
  nN : NoAttr K C "names"
  nS : NoAttr K C "said"
  nR : NoAttr K C "readings"
  nF : NoAttr K C "fix"
theorem inV_ints (p : Int) : ∀ l : List Int, inV (.int p) (l.map V.int) = decide (p ∈ l)
  | [] => rfl
  | x :: r => by
    have q := inV_ints p r
    unfold inV at q ⊢
    rw [List.map_cons, List.any_cons, q]
    show (decide (x = p) || decide (p ∈ r)) = _
    by_cases e : p = x
    · simp [e]
    · have e2 : ¬ x = p := fun z => e z.symm
      simp [e, e2]
theorem flat_ints (l : List Int) : (l.map V.int).all flatV = true := by
  rw [List.all_eq_true]
  intro v hv
  obtain ⟨i, _, rfl⟩ := List.mem_map.mp hv
  rfl
theorem dec_int (x y : Int) : decide (V.int x = V.int y) = decide (x = y) := decide_eq_decide.mpr ⟨fun e => by injection e, fun e => by rw [e]⟩
/-- tuples stay when a dict is locked -/
theorem sqT_lock {K : PySem.W.Frag} {H : Hp} {a d : Addr} {xs : List V} {u w : HO} (h : SqT K H a xs) (e : H d = some u) (m : Mut u) : SqT K (upd H d w) a xs := by
  rcases h with (h | ⟨o, h⟩) | h
  · exact .inl (.inl (by rw [upd_ne (fun z => by rw [z, e] at h; cases h; exact m)]; exact h))
  · exact .inl (.inr ⟨o, by rw [upd_ne (fun z => by rw [z, e] at h; cases h; exact m)]; exact h⟩)
  · exact .inr h
def st0 (n : Int) : Rs := ⟨fun y => if y = "n" then some ⟨n, []⟩ else none, [], []⟩
def spInit (K : PySem.W.Frag) (C : Addr) : Sp := fun vs H Q _ => ∃ (sf dx a : Addr) (n : Int) (fix : List Int), vs = [.ref sf, .int n, .ref a] ∧ H sf = some (.ins C dx []) ∧ SqT K H a (fix.map V.int) ∧
  ∀ (H' : Hp) (nd sd rd : Addr), H nd = none → H sd = none → H rd = none → Kp [sf] H H' → Crs K C sf nd sd rd (.ref a) fix H' (st0 n) 1 → Q .non H'
section
variable {K : PySem.W.Frag} {C sf nd sd rd : Addr} {fv : V} {fix : List Int} {H H1 : Hp} {st st' : Rs} {L : Nat}
theorem Crs.mono {L' : Nat} (c : Crs K C sf nd sd rd fv fix H st L) (h : L ≤ L') : Crs K C sf nd sd rd fv fix H st L' := by
  obtain ⟨kvs, h1, h2, h3⟩ := c.names
  exact ⟨c.obj, ⟨kvs, h1, h2, Nat.le_trans h3 h⟩, c.said, c.made, c.fixed, c.ne⟩
theorem Crs.nds (c : Crs K C sf nd sd rd fv fix H st L) : nd ≠ sd ∧ nd ≠ rd ∧ sf ≠ nd ∧ sf ≠ sd ∧ sf ≠ rd := by
  obtain ⟨dx, h0⟩ := c.obj
  obtain ⟨kvs, h1, _⟩ := c.names
  obtain ⟨vs, h2, _⟩ := c.said
  have h3 := c.made
  refine ⟨ne_of h1 h2 (by intro z; cases z), ne_of h1 h3 (by intro z; cases z), ne_of h0 h1 (by intro z; cases z), ne_of h0 h2 (by intro z; cases z), ne_of h0 h3 (by intro z; cases z)⟩
/-- a reading is added -/
theorem Crs.read {q : Int} (c : Crs K C sf nd sd rd fv fix H st L) : Crs K C sf nd sd rd fv fix (upd H rd (.lst (st.made.map V.int ++ [.int q]))) { st with made := st.made ++ [q] } L := by
  obtain ⟨n1, n2, n3, n4, n5⟩ := c.nds
  obtain ⟨dx, h0⟩ := c.obj
  obtain ⟨kvs, h1, h2, h3⟩ := c.names
  obtain ⟨vs, h4, h5⟩ := c.said
  obtain ⟨a, h6, h7⟩ := c.fixed
  have k := kpW (o := .lst (st.made.map V.int ++ [.int q])) c.made
  exact ⟨⟨dx, k.get h0 (by simp [n5])⟩, ⟨kvs, k.get h1 (by simp [n2]), h2.kp k (by simp), h3⟩, ⟨vs, k.get h4 (by simp [c.ne]), h5.kp k (by simp)⟩, by rw [upd_same, List.map_append]; rfl, ⟨a, h6, sqT_kp k h7⟩, c.ne⟩
theorem Crs.kpr {q : Int} (c : Crs K C sf nd sd rd fv fix H st L) : Kp [nd, sd, rd] H (upd H rd (.lst (st.made.map V.int ++ [.int q]))) := (Kp.reflM c.ms).write (by simp)
theorem Crs.envs {kvs' : List (Key × V)} {env' : Str → Option Sv} {L' : Nat} (c : Crs K C sf nd sd rd fv fix H st L) (hE : EnvT [nd, sd, rd] K H kvs' env') (hl : kvs'.length ≤ L') :
    Crs K C sf nd sd rd fv fix (upd H nd (.dK kvs')) { st with env := env' } L' ∧ Kp [nd, sd, rd] H (upd H nd (.dK kvs')) := by
  obtain ⟨n1, n2, n3, n4, n5⟩ := c.nds
  obtain ⟨dx, h0⟩ := c.obj
  obtain ⟨kvs, h1, h2, h3⟩ := c.names
  obtain ⟨vs, h4, h5⟩ := c.said
  obtain ⟨a, h6, h7⟩ := c.fixed
  have k : Kp [nd] H (upd H nd (.dK kvs')) := kpW2 h1 trivial
  exact ⟨⟨⟨dx, k.get h0 (by simp [n3])⟩, ⟨kvs', upd_same, hE.kp k (by simp), hl⟩, ⟨vs, k.get h4 (by simp [Ne.symm n1]), h5.kp k (by simp)⟩, k.get c.made (by simp [Ne.symm n2]), ⟨a, h6, sqT_kp k h7⟩, c.ne⟩, (Kp.reflM c.ms).write (by simp)⟩
theorem Crs.tells {vs : List V} {v : V} {t : Str ⊕ Sv} (c : Crs K C sf nd sd rd fv fix H st L) (h4 : H sd = some (.lst vs)) (h5 : ItsT [nd, sd, rd] K H vs st.said) (ht : ItT [nd, sd, rd] K H v t) :
    Crs K C sf nd sd rd fv fix (upd H sd (.lst (vs ++ [v]))) { st with said := st.said ++ [t] } L ∧ Kp [nd, sd, rd] H (upd H sd (.lst (vs ++ [v]))) := by
  obtain ⟨n1, n2, n3, n4, n5⟩ := c.nds
  obtain ⟨dx, h0⟩ := c.obj
  obtain ⟨kvs, h1, h2, h3⟩ := c.names
  obtain ⟨a, h6, h7⟩ := c.fixed
  have k : Kp [sd] H (upd H sd (.lst (vs ++ [v]))) := kpW2 h4 trivial
  exact ⟨⟨⟨dx, k.get h0 (by simp [n4])⟩, ⟨kvs, k.get h1 (by simp [n1]), h2.kp k (by simp), h3⟩, ⟨_, upd_same, (h5.snoc ht).kp k (by simp)⟩, k.get c.made (by simp [Ne.symm c.ne]), ⟨a, h6, sqT_kp k h7⟩, c.ne⟩, (Kp.reflM c.ms).write (by simp)⟩
theorem putK_len (kvs : List (Key × V)) (k : Key) (v : V) : (putK kvs k v).length ≤ kvs.length + 1 := by
  induction kvs with
  | nil => simp [putK]
  | cons p r ih =>
    unfold putK
    split <;> simp_all
theorem dropK_len (kvs : List (Key × V)) (k : Key) : (dropK kvs k).length ≤ kvs.length := List.length_filter_le _ _
end
end Aw
namespace Aw
open PySem PySem.Spec L2
def mulD (s : Sv) (m : Nat) : List PyData := (List.range m).map fun (i : Nat) => .int (getI s.m (i : Nat))
theorem mulD_len (s : Sv) (m : Nat) : (mulD s m).length = m := by unfold mulD; rw [List.length_map, List.length_range]
theorem mulD_succ (s : Sv) (m : Nat) : mulD s (m + 1) = mulD s m ++ [.int (getI s.m m)] := by unfold mulD; rw [List.range_succ, List.map_append]; rfl
def itD (m : Nat) : Str ⊕ Sv → PyData
  | .inl w => .str w
  | .inr s => .tuple [.int s.n, .tuple (mulD s m)]
def wdD : Option Str → PyData
  | none => .none
  | some w => .str w
theorem DtL.ints {K : PySem.W.Frag} {H : Hp} : ∀ l : List Int, DtL K H (l.map V.int) (l.map PyData.int)
  | [] => DtL.nil
  | i :: r => DtL.cons (.int i) (DtL.ints r)
theorem wdD_dt {K : PySem.W.Frag} {H : Hp} (o : Option Str) : Dt K H (wdV o) (wdD o) := by
  cases o with
  | none => exact .non
  | some w => exact .str w
theorem r_is2tF {K : PySem.W.Frag} {H : Hp} {Q : VK} {a : Addr} {xs : List V} (h : SqT K H a xs) (q : Q (.bl false) H) : qIs2 K [.ref a, .ty "str"] H Q :=
  ⟨.ref a, .tuple [], "str", rfl, tyX_T h, by decide, by rw [show isaD (.tuple []) "str" = false by decide]; exact q⟩
def spMults (K : PySem.W.Frag) : Sp := fun vs H Q _ => ∃ (M : List Addr) (v : V) (s : Sv) (m : Nat), vs = [v, .int (m : Nat)] ∧ SvT M K H v s ∧ m ≤ 10000 ∧
  ∀ (H' : Hp) (z : V), Kp [] H H' → Dt K H' z (.tuple (mulD s m)) → Q z H'
/-- the run of a program -/
def runR (fix : List Int) (n : Int) (bl : List Sm) : Option Str × Rs := Sm.goL fix 0 bl (st0 n)
def crD (fix : List Int) (n : Int) (bl : List Sm) : PyData :=
  .tuple [.tuple ((runR fix n bl).2.said.map (itD (runR fix n bl).2.made.length)), wdD (runR fix n bl).1, .tuple ((runR fix n bl).2.made.map PyData.int)]
def spCourse (K : PySem.W.Frag) : Sp := fun vs H Q _ => ∃ (v : V) (a : Addr) (n : Int) (fix : List Int) (bl : List Sm), vs = [v, .int n, .ref a] ∧ Dt K H v (.tuple (Sm.ds bl)) ∧ VdB 4 bl ∧ n.natAbs < 2 ^ 200 ∧ Sm.wts bl ≤ 400 ∧ Sm.sizes bl ≤ 10000 ∧
  SqT K H a (fix.map V.int) ∧ ∀ (H' : Hp) (z : V), Kp [] H H' → Dt K H' z (crD fix n bl) → Q z H'
def smD (fix : List Int) (n : Int) (bl : List Sm) : PyData :=
  .tuple [.tuple ((runR fix n bl).2.said.map (itD (runR fix n bl).2.made.length)), wdD (runR fix n bl).1, .int ((runR fix n bl).2.made.length : Nat)]
def spSums (K : PySem.W.Frag) : Sp := fun vs H Q _ => ∃ (v : V) (n : Int) (bl : List Sm), vs = [v, .int n] ∧ Dt K H v (.tuple (Sm.ds bl)) ∧ VdB 4 bl ∧ n.natAbs < 2 ^ 200 ∧ Sm.wts bl ≤ 400 ∧ Sm.sizes bl ≤ 10000 ∧
  ∀ (H' : Hp) (z : V), Kp [] H H' → Dt K H' z (smD [] n bl) → Q z H'
theorem st0_ok {n : Int} (h : n.natAbs < 2 ^ 200) : (st0 n).ok 200 1 := by
  refine ⟨fun x s e => ?_, (fun s e => by cases e), Nat.zero_le _, Nat.zero_le _⟩
  unfold st0 at e
  dsimp only at e
  split at e
  · cases e
    exact ⟨h, (fun p hp => nomatch hp), (fun p hp => nomatch hp), List.nodup_nil⟩
  · cases e
/-- what a sum tells with readings -/
def toldI (n : Int) : List Int → List Int → Int
  | m :: ms, r :: rs => toldI (n + m * r) ms rs
  | _, _ => n
end Aw
namespace Aw
open PySem PySem.Spec L2
/-- the law's world -/
def wkv (nd sd rd fa : Addr) : List (Key × V) := [(Sum.inr "names", .ref nd), (Sum.inr "items", .ref sd), (Sum.inr "made", .ref rd), (Sum.inr "fix", .ref fa)]
section
variable {H : Hp} {Q : VK} {wd nd sd rd fa : Addr}
theorem kne {x y : Str} (h : ¬ x = y) (v : V) : ¬ ((Sum.inr x, v) : Key × V).1 = Sum.inr y := fun e => h (by injection e)
theorem r_wN (e : H wd = some (.dK (wkv nd sd rd fa))) (q : Q (.ref nd) H) : DG Q (.ref wd) (.str "names") H :=
  r_DG (dget_k e (valV_pos rfl)) q
theorem r_wS (e : H wd = some (.dK (wkv nd sd rd fa))) (q : Q (.ref sd) H) : DG Q (.ref wd) (.str "items") H :=
  r_DG (dget_k e ((valV_neg (kne (by decide +kernel) _)).trans (valV_pos rfl))) q
theorem r_wR (e : H wd = some (.dK (wkv nd sd rd fa))) (q : Q (.ref rd) H) : DG Q (.ref wd) (.str "made") H :=
  r_DG (dget_k e ((valV_neg (kne (by decide +kernel) _)).trans ((valV_neg (kne (by decide +kernel) _)).trans (valV_pos rfl)))) q
theorem r_wF (e : H wd = some (.dK (wkv nd sd rd fa))) (q : Q (.ref fa) H) : DG Q (.ref wd) (.str "fix") H :=
  r_DG (dget_k e ((valV_neg (kne (by decide +kernel) _)).trans ((valV_neg (kne (by decide +kernel) _)).trans ((valV_neg (kne (by decide +kernel) _)).trans (valV_pos rfl))))) q
end
structure Wld (K : PySem.W.Frag) (wd nd sd rd fa : Addr) (fix : List Int) (H : Hp) (st : Rs) (L : Nat) : Prop where
  obj : H wd = some (.dK (wkv nd sd rd fa))
  names : ∃ kvs, H nd = some (.dK kvs) ∧ EnvL [nd, sd, rd] H kvs st.env ∧ kvs.length ≤ L
  said : ∃ vs, H sd = some (.lst vs) ∧ ItsL [nd, sd, rd] H vs st.said
  made : H rd = some (.lst (st.made.map V.int))
  fixed : SqT K H fa (fix.map V.int)
  ne : sd ≠ rd
  nw : wd ≠ nd
section
variable {K : PySem.W.Frag} {wd nd sd rd fa : Addr} {fix : List Int} {H H1 : Hp} {st st' : Rs} {L : Nat}
theorem Wld.ms (c : Wld K wd nd sd rd fa fix H st L) : Ms [nd, sd, rd] H := by
  obtain ⟨kvs, h1, _⟩ := c.names
  obtain ⟨vs, h2, _⟩ := c.said
  exact Ms.cons h1 trivial (Ms.cons h2 trivial (Ms.cons c.made trivial Ms.nil))
theorem Wld.kp0 (c : Wld K wd nd sd rd fa fix H st L) (k : Kp [] H H1) : Wld K wd nd sd rd fa fix H1 st L := by
  obtain ⟨kvs, h1, h2, h3⟩ := c.names
  obtain ⟨vs, h4, h5⟩ := c.said
  exact ⟨k.get c.obj (by simp), ⟨kvs, k.get h1 (by simp), h2.kp k (by simp), h3⟩, ⟨vs, k.get h4 (by simp), h5.kp k (by simp)⟩, k.get c.made (by simp), sqT_kp k c.fixed, c.ne, c.nw⟩
theorem Wld.mono {L' : Nat} (c : Wld K wd nd sd rd fa fix H st L) (h : L ≤ L') : Wld K wd nd sd rd fa fix H st L' := by
  obtain ⟨kvs, h1, h2, h3⟩ := c.names
  exact ⟨c.obj, ⟨kvs, h1, h2, Nat.le_trans h3 h⟩, c.said, c.made, c.fixed, c.ne, c.nw⟩
theorem Wld.nds (c : Wld K wd nd sd rd fa fix H st L) : nd ≠ sd ∧ nd ≠ rd ∧ wd ≠ nd ∧ wd ≠ sd ∧ wd ≠ rd := by
  have h0 := c.obj
  obtain ⟨kvs, h1, _⟩ := c.names
  obtain ⟨vs, h2, _⟩ := c.said
  have h3 := c.made
  exact ⟨ne_of h1 h2 (by intro z; cases z), ne_of h1 h3 (by intro z; cases z), c.nw, ne_of h0 h2 (by intro z; cases z), ne_of h0 h3 (by intro z; cases z)⟩
theorem Wld.read {q : Int} (c : Wld K wd nd sd rd fa fix H st L) : Wld K wd nd sd rd fa fix (upd H rd (.lst (st.made.map V.int ++ [.int q]))) { st with made := st.made ++ [q] } L ∧ Kp [nd, sd, rd] H (upd H rd (.lst (st.made.map V.int ++ [.int q]))) := by
  obtain ⟨n1, n2, n3, n4, n5⟩ := c.nds
  obtain ⟨kvs, h1, h2, h3⟩ := c.names
  obtain ⟨vs, h4, h5⟩ := c.said
  have k := kpW (o := .lst (st.made.map V.int ++ [.int q])) c.made
  exact ⟨⟨k.get c.obj (by simp [n5]), ⟨kvs, k.get h1 (by simp [n2]), h2.kp k (by simp), h3⟩, ⟨vs, k.get h4 (by simp [c.ne]), h5.kp k (by simp)⟩, by rw [upd_same, List.map_append]; rfl, sqT_kp k c.fixed, c.ne, c.nw⟩, (Kp.reflM c.ms).write (by simp)⟩
theorem Wld.envs {kvs' : List (Key × V)} {env' : Str → Option Sv} {L' : Nat} (c : Wld K wd nd sd rd fa fix H st L) (hE : EnvL [nd, sd, rd] H kvs' env') (hl : kvs'.length ≤ L') :
    Wld K wd nd sd rd fa fix (upd H nd (.dK kvs')) { st with env := env' } L' ∧ Kp [nd, sd, rd] H (upd H nd (.dK kvs')) := by
  obtain ⟨n1, n2, n3, n4, n5⟩ := c.nds
  obtain ⟨kvs, h1, h2, h3⟩ := c.names
  obtain ⟨vs, h4, h5⟩ := c.said
  have k : Kp [nd] H (upd H nd (.dK kvs')) := kpW2 h1 trivial
  exact ⟨⟨k.get c.obj (by simp [n3]), ⟨kvs', upd_same, hE.kp k (by simp), hl⟩, ⟨vs, k.get h4 (by simp [Ne.symm n1]), h5.kp k (by simp)⟩, k.get c.made (by simp [Ne.symm n2]), sqT_kp k c.fixed, c.ne, c.nw⟩, (Kp.reflM c.ms).write (by simp)⟩
theorem Wld.tells {vs : List V} {v : V} {t : Str ⊕ Sv} (c : Wld K wd nd sd rd fa fix H st L) (h4 : H sd = some (.lst vs)) (h5 : ItsL [nd, sd, rd] H vs st.said) (ht : ItL [nd, sd, rd] H v t) :
    Wld K wd nd sd rd fa fix (upd H sd (.lst (vs ++ [v]))) { st with said := st.said ++ [t] } L ∧ Kp [nd, sd, rd] H (upd H sd (.lst (vs ++ [v]))) := by
  obtain ⟨n1, n2, n3, n4, n5⟩ := c.nds
  obtain ⟨kvs, h1, h2, h3⟩ := c.names
  have k : Kp [sd] H (upd H sd (.lst (vs ++ [v]))) := kpW2 h4 trivial
  exact ⟨⟨k.get c.obj (by simp [n4]), ⟨kvs, k.get h1 (by simp [n1]), h2.kp k (by simp), h3⟩, ⟨_, upd_same, (h5.snoc ht).kp k (by simp)⟩, k.get c.made (by simp [Ne.symm c.ne]), sqT_kp k c.fixed, c.ne, c.nw⟩, (Kp.reflM c.ms).write (by simp)⟩
end
structure PrsL (K : PySem.W.Frag) (M : List Addr) (H : Hp) (l : Addr) (ts : List V) (prs : List (List Sm × Int)) (n : Nat) : Prop where
  li : H l = some (.lst ts)
  nm : l ∉ M
  len : ts.length = prs.length
  all : ∀ (i : Nat) (t : V) (p : List Sm × Int), ts[i]? = some t → prs[i]? = some p → ∃ ta bv, t = .ref ta ∧ SqT K H ta [bv, .int p.2] ∧ Dt K H bv (.tuple (Sm.ds p.1))
  vd : ∀ p ∈ prs, VdB n p.1 ∧ Sm.sizes p.1 ≤ 10000
theorem PrsL.kp {K : PySem.W.Frag} {M : List Addr} {H H1 : Hp} {l : Addr} {ts : List V} {prs : List (List Sm × Int)} {n : Nat} (h : PrsL K M H l ts prs n) (k : Kp M H H1) : PrsL K M H1 l ts prs n :=
  ⟨k.get h.li h.nm, h.nm, h.len, fun i t p e e' => by
    obtain ⟨ta, bv, e1, e2, e3⟩ := h.all i t p e e'
    exact ⟨ta, bv, e1, sqT_kp k e2, e3.kp k⟩, h.vd⟩
theorem PrsL.nil {K : PySem.W.Frag} {M : List Addr} {H : Hp} {l : Addr} {n : Nat} (e : H l = some (.lst [])) (nm : l ∉ M) : PrsL K M H l [] [] n :=
  ⟨e, nm, rfl, fun i t p e => by simp at e, fun p hp => nomatch hp⟩
theorem PrsL.rep {K : PySem.W.Frag} {M : List Addr} {H : Hp} {l ta : Addr} {n : Nat} {bv : V} {b : List Sm} {q : Int} (c : Nat) (e : H l = some (.lst (List.replicate c (.ref ta)))) (nm : l ∉ M) (h : SqT K H ta [bv, .int q]) (hb : Dt K H bv (.tuple (Sm.ds b))) (hv : VdB n b) (hz : Sm.sizes b ≤ 10000) :
    PrsL K M H l (List.replicate c (.ref ta)) (List.replicate c (b, q)) n :=
  ⟨e, nm, by rw [List.length_replicate, List.length_replicate], fun i t p e1 e2 => by
    rw [List.mem_replicate.mp (List.mem_of_getElem? e1) |>.2, List.mem_replicate.mp (List.mem_of_getElem? e2) |>.2]
    exact ⟨ta, bv, rfl, h, hb⟩, fun p hp => by rw [(List.mem_replicate.mp hp).2]; exact ⟨hv, hz⟩⟩
def spNum : Sp := fun vs H Q _ => ∃ (d c : Addr) (n : Int), vs = [.ref d] ∧ Deck H d c n ∧ n + 5000 < 10 ^ 12 ∧
  ∀ (H' : Hp) (i n' : Int), Deck H' d c n' → n ≤ n' → n' ≤ n + 10 → Kp [d, c] H H' → i.natAbs < 2 ^ 200 → Q (.int i) H'
end Aw
namespace Aw
open PySem PySem.Spec L2
def wOk (w : Str) : Prop := PyData.strOk w = true ∧ w.length ≤ 8
def Rs.wds (st : Rs) : Prop := ∀ w, .inl w ∈ st.said → wOk w
def oOk (o : Option Str) : Prop := ∀ w, o = some w → wOk w
theorem unsure_ok : wOk "unsure" := lit_ok (by decide +kernel)
theorem Rs.more.wds {a b : Rs} {k : Nat} (m : a.more b k) (h : a.wds) : b.wds := fun w hw => h w (by rw [← m.said]; exact hw)
theorem iterS_wds {f : Rs → Option Str × Rs} {I : Rs → Prop} (hf : ∀ st : Rs, I st → I (f st).2 ∧ oOk (f st).1) : ∀ (k : Nat) (st : Rs), I st → I (iterS f k st).2 ∧ oOk (iterS f k st).1
  | 0, st, h => ⟨h, fun w e => nomatch e⟩
  | k + 1, st, h => by
    have q := hf st h
    rw [iterS]
    cases e : f st with
    | mk o st' =>
      rw [e] at q
      cases o with
      | some w => exact q
      | none => exact iterS_wds hf k st' q.1
theorem Pl.go_wds (fix : List Int) (p : Int) {s : Pl} {st : Rs} {b L : Nat} (h : s.vd) (hs : st.ok b L) (hb : 7 ≤ b) (hw : st.wds) : (s.go fix p st).2.wds ∧ oOk (s.go fix p st).1 := by
  cases s with
  | set x e =>
    have m := (Ex.ev_ok fix p h.2 hs.env hb).1
    exact ⟨m.wds hw, fun w e => nomatch e⟩
  | unset x => exact ⟨hw, fun w e => nomatch e⟩
  | tell e =>
    have m := (Ex.ev_ok fix p (n := 3) h hs.env hb).1
    refine ⟨fun w hm => ?_, fun w e => nomatch e⟩
    rcases List.mem_append.mp hm with z | z
    · exact m.wds hw w z
    · cases List.mem_singleton.mp z
  | say x =>
    refine ⟨fun w hm => ?_, fun w e => nomatch e⟩
    rcases List.mem_append.mp hm with z | z
    · exact hw w z
    · cases List.mem_singleton.mp z
      exact word_ok h
  | stop x => exact ⟨hw, fun w e => by cases e; exact word_ok h⟩
/-- states within some bounds, with right words -/
def Rs.fine (st : Rs) : Prop := st.wds ∧ ∃ b L, st.ok b L ∧ 7 ≤ b
theorem Sm.goL_wds (fix : List Int) : ∀ (n : Nat) (bl : List Sm) (p : Int) (st : Rs), VdB n bl → st.fine → (Sm.goL fix p bl st).2.fine ∧ oOk (Sm.goL fix p bl st).1 := by
  intro n
  induction n with
  | zero =>
    intro bl p st h hs
    have h : bl = [] := h
    subst h
    rw [Sm.goL]
    exact ⟨hs, fun w e => nomatch e⟩
  | succ n ih =>
    intro bl
    induction bl with
    | nil =>
      intro p st h hs
      rw [Sm.goL]
      exact ⟨hs, fun w e => nomatch e⟩
    | cons s r ihr =>
      intro p st h hs
      have hv := h s (List.mem_cons_self ..)
      have hp := hv.parts
      have h1 : (Sm.go fix p s st).2.fine ∧ oOk (Sm.go fix p s st).1 := by
        obtain ⟨hw, b, L, hok, hb⟩ := hs
        cases s with
        | pl q =>
          have q' : q.vd := by cases n <;> exact hv
          rw [Sm.go]
          have z := Pl.go_wds fix p q' hok hb hw
          exact ⟨⟨z.1, _, _, Pl.go_ok fix p q' hok hb, by omega⟩, z.2⟩
        | ifs t y z =>
          have ht : t.vd 2 := by cases n <;> exact hv.1
          have m := Ts.tr_ok fix p ht hok.env hb
          have hs' : (t.tr fix p st).2.fine := ⟨m.wds hw, b, _, hok.more m (Nat.le_refl _), hb⟩
          rw [Sm.go]
          cases e : t.tr fix p st with
          | mk o st' =>
            rw [e] at hs'
            match o with
            | none => exact ⟨hs', fun w e => by cases e; exact unsure_ok⟩
            | some true => exact ih y (p + 1) st' (hp y (by simp [Sm.parts])) hs'
            | some false => exact ih z _ st' (hp z (by simp [Sm.parts])) hs'
        | rep k bb =>
          rw [Sm.go]
          exact iterS_wds (I := Rs.fine) (fun st h => ih bb (p + 1) st (hp bb (by simp [Sm.parts])) h) k.toNat st ⟨hw, b, L, hok, hb⟩
      rw [Sm.goL]
      cases e : Sm.go fix p s st with
      | mk o st' =>
        rw [e] at h1
        cases o with
        | some w => exact h1
        | none => exact ihr _ st' (fun z hz => h z (List.mem_cons_of_mem _ hz)) h1.1
structure ShwL (ds : List PyData) (k n : Nat) : Prop where
  sh : PyData.showableAll ds = true
  nd : PyData.hasDictAll ds = false
  dep : PyData.depthAll ds ≤ k
  cnt : (PyData.shownAll ds).length = ds.length
  len : ((PyData.shownAll ds).map (·.length)).sum ≤ n
theorem ShwL.nil {k : Nat} : ShwL [] k 0 := ⟨by rw [PyData.showableAll], by rw [PyData.hasDictAll], by rw [PyData.depthAll]; exact Nat.zero_le _, by rw [PyData.shownAll]; rfl, by rw [PyData.shownAll]; exact Nat.zero_le _⟩
theorem ShwL.cons {d : PyData} {ds : List PyData} {k n m : Nat} (a : Shw d k n) (b : ShwL ds k m) : ShwL (d :: ds) k (n + m) := by
  refine ⟨by rw [PyData.showableAll, a.sh, b.sh]; rfl, by rw [PyData.hasDictAll, a.nd, b.nd]; rfl, ?_, ?_, ?_⟩
  · rw [PyData.depthAll]
    have := a.dep; have := b.dep
    omega
  · rw [PyData.shownAll, List.length_cons, List.length_cons, b.cnt]
  · rw [PyData.shownAll, List.map_cons, List.sum_cons]
    have := a.len; have := b.len
    omega
theorem ShwL.all {ds : List PyData} {k n : Nat} (h : ∀ d ∈ ds, Shw d k n) : ShwL ds k (ds.length * n) := by
  obtain ⟨a1, a2, a3, a4, a5⟩ := shownAll_len h
  exact ⟨a1, a2, a3, a4, a5⟩
theorem ShwL.tup {ds : List PyData} {k n : Nat} (h : ShwL ds k n) : Shw (.tuple ds) (k + 1) (n + 2 * ds.length + 3) := by
  have := h.dep
  refine ⟨by rw [PyData.showable]; exact h.sh, by rw [PyData.hasDict]; exact h.nd, by rw [PyData.depth]; omega, ?_⟩
  rw [PyData.shown]
  have q := tupleText_len_le (PyData.shownAll ds)
  have := h.len
  rw [h.cnt] at q
  omega
theorem Shw.big {i : Int} {k : Nat} (h : i.natAbs < 2 ^ 560) : Shw (.int i) k 171 := by
  have h1 : i.natAbs.log2 < 1920 := by
    by_cases h0 : i.natAbs = 0
    · rw [h0]
      decide
    · exact Nat.lt_of_lt_of_le ((Nat.log2_lt h0).mpr h) (by decide)
  refine ⟨by rw [PyData.showable]; exact decide_eq_true h1, by rw [PyData.hasDict], by rw [PyData.depth]; exact Nat.zero_le _, ?_⟩
  rw [PyData.shown]
  have q := int_text_length_le10 (a := i) (k := 170) (by decide) (Nat.lt_trans h (by decide +kernel))
  show (Str.ofString (toString i)).length ≤ 171
  rw [ofString_length]
  omega
theorem Shw.wd {o : Option Str} {k : Nat} (h : oOk o) : Shw (wdD o) k 82 := by
  cases o with
  | none => exact Shw.non.mono (Nat.le_refl _) (by omega)
  | some w => exact Shw.str ⟨(h w rfl).1, (h w rfl).2⟩
theorem runR_fine {fix : List Int} {n : Int} {bl : List Sm} (hv : VdB 4 bl) (hn : n.natAbs < 2 ^ 200) : (runR fix n bl).2.fine ∧ oOk (runR fix n bl).1 :=
  Sm.goL_wds fix 4 bl 0 (st0 n) hv ⟨(fun w hw => by cases hw), 200, 1, st0_ok hn, by omega⟩
theorem smD_shw {fix : List Int} {n : Int} {bl : List Sm} (hv : VdB 4 bl) (hn : n.natAbs < 2 ^ 200) (hw : Sm.wts bl ≤ 30) : Shw (smD fix n bl) 10 10000000 := by
  have hf := runR_fine (fix := fix) hv hn
  have hok : (runR fix n bl).2.ok (200 + 12 * Sm.wts bl) (1 + Sm.wts bl) := Sm.goL_ok fix 4 bl 0 (st0 n) 200 1 hv (st0_ok hn) (by omega)
  unfold smD
  generalize runR fix n bl = R at hf hok
  obtain ⟨o, st⟩ := R
  dsimp only at hf hok ⊢
  have hml := hok.ml
  have hsl := hok.sl
  have hb : ∀ {s : Sv}, s.ok (200 + 12 * Sm.wts bl) st.made.length → s.ok 560 st.made.length := fun h => h.mono (by omega) (Nat.le_refl _)
  have hin : ∀ s : Sv, s.ok 560 st.made.length → ∀ k, Shw (.tuple (mulD s st.made.length)) (k + 1) 90000 := by
    intro s h k
    have q := (ShwL.all (ds := mulD s st.made.length) (k := k) (n := 171) (fun d hd => by
      unfold mulD at hd
      obtain ⟨i, _, rfl⟩ := List.mem_map.mp hd
      exact Shw.big (h.get _))).tup
    rw [mulD_len] at q
    exact q.mono (Nat.le_refl _) (by omega)
  have hit : ∀ d ∈ st.said.map (itD st.made.length), Shw d 3 90300 := by
    intro d hd
    obtain ⟨t, ht, rfl⟩ := List.mem_map.mp hd
    cases t with
    | inl w => exact (Shw.str ⟨(hf.1.1 w ht).1, (hf.1.1 w ht).2⟩).mono (Nat.le_refl _) (by omega)
    | inr s =>
      have hs := hb (hok.said s ht)
      exact ((ShwL.cons (Shw.big (k := 2) hs.n) (ShwL.cons (hin s hs 1) ShwL.nil)).tup).mono (Nat.le_refl _) (by simp)
  have h3 := (ShwL.all hit).tup
  rw [List.length_map] at h3
  have h4 : Shw (.tuple (st.said.map (itD st.made.length))) 4 3000000 := h3.mono (Nat.le_refl _) (by omega)
  have h5 : Shw (.int (st.made.length : Nat)) 4 171 := Shw.big (by
    have : st.made.length < 2 ^ 20 := by omega
    exact Nat.lt_trans (show Int.natAbs (st.made.length : Nat) < 2 ^ 20 by omega) (Nat.pow_lt_pow_right (by decide) (by decide)))
  exact ((ShwL.cons h4 (ShwL.cons (Shw.wd hf.2) (ShwL.cons h5 ShwL.nil))).tup).mono (by omega) (by simp)
end Aw
namespace Aw
open PySem PySem.Spec L2
theorem dfm_mk {K : PySem.W.Frag} {C f : Addr} {m q : Str} {st : Stmt} {ps : List Str}
    {oc kV doc pm cdv ct : Value} {od an : Option Addr} {osl : Array (Option Value)}
    (a : PySem.W.findIn K (.ref C) m = some (some (.ref f)))
    (l : K.lookup f = some ⟨oc, od, .func (PySem.W.fnOf m q (defArgs st) (defBody st) (defScope st) .none kV doc pm an cdv ct), osl⟩)
    (c : PySem.W.codeIn K cdv q = true) (k : PySem.W.keepIn K (.ref f) = true) (i : PySem.W.isFn K (.ref f) = true)
    (b : ∀ (kV doc pm : Value) (an : Option Addr) (cdv ct : Value) (us : List Value), us.length = ps.length →
      bindArgs (PySem.W.fnOf m q (defArgs st) (defBody st) (defScope st) .none kV doc pm an cdv ct) ⟨us, []⟩ = pure (ps.zip us)) :
    DfM K C m q st ps := by
  have F := fun_mk (st := st) l c k
  exact ⟨f, _, F, ⟨a, i, k⟩, F.binds b⟩
theorem na_mk {K : PySem.W.Frag} {C : Addr} {f : Str} (h : PySem.W.findIn K (.ref C) f = some none) : NoAttr K C f := h
theorem HasC.of {P : Program} {w : World} {K : PySem.W.Frag} {mg : Str → Option Value} {base : Heap} {CX : CXT} {x : Str} {C : Addr} {ps : List Str} {k : Nat} {sp : Sp} (h : HasM P w K mg base CX C "__init__" ps k sp)
    (m1 : PySem.W.makesIn K C = true) (kc : PySem.W.keepIn K (.ref C) = true) (m : mg x = some (.ref C)) : HasC P w K mg base CX x C ps k sp := by
  obtain ⟨f, fd, _, M, b, F⟩ := h
  exact ⟨f, fd, ⟨m1, M.at_, M.fn, kc⟩, m, b, F⟩
end Aw
namespace Aw
open PySem PySem.Spec L2
def mulI (s : Sv) (m : Nat) : List Int := (List.range m).map fun (i : Nat) => getI s.m (i : Nat)
def toD (rs : List Int) (m : Nat) : Str ⊕ Sv → PyData
  | .inl w => .str w
  | .inr s => .int (toldI s.n (mulI s m) rs)
end Aw
namespace Aw
open PySem PySem.Spec L2
theorem Sm.head (c : Sm) : ∃ (h : Str) (ds : List PyData), c.d = .tuple (.str h :: ds) := by
  cases c with
  | pl t =>
    obtain ⟨hh, ds, hds, _⟩ := t.head2
    exact ⟨hh, ds, by rw [Sm.d]; exact hds⟩
  | ifs t y z => exact ⟨_, _, by rw [Sm.d]⟩
  | rep k b => exact ⟨_, _, by rw [Sm.d]⟩
theorem VdB.mono {m n : Nat} {b : List Sm} (h : VdB m b) (l : m ≤ n) : VdB n b := by
  cases m with
  | zero =>
    cases n with
    | zero => exact h
    | succ n => rw [show b = [] from h]; exact fun s hs => nomatch hs
  | succ m =>
    cases n with
    | zero => omega
    | succ n => exact fun s hs => (h s hs).mono (by omega)
theorem ls1 {H : Hp} {a : Addr} {xs : List V} (h : H a = some (.lst xs)) : Ls [a] H := fun b m => ⟨xs, by rw [List.mem_singleton.mp m]; exact h⟩
end Aw
namespace Aw
open PySem PySem.Spec L2
/-- more was said, more was read -/
structure Ext (st st' : Rs) : Prop where
  said : ∃ l, st'.said = st.said ++ l
  made : st.made.length ≤ st'.made.length
theorem Ext.trans {a b c : Rs} (h : Ext a b) (g : Ext b c) : Ext a c := by
  obtain ⟨l, e⟩ := h.said
  obtain ⟨m, e'⟩ := g.said
  exact ⟨⟨l ++ m, by rw [e', e, List.append_assoc]⟩, Nat.le_trans h.made g.made⟩
/-- a slice of a tuple of plain data -/
theorem DtL.cut {K : PySem.W.Frag} {H : Hp} {vs : List V} {ds : List PyData} (h : DtL K H vs ds) (lo hi : Option Int) : DtL K H (cutV vs lo hi) (cutD ds lo hi) := by
  unfold cutV cutD
  rw [h.len]
  refine ⟨by rw [List.length_take, List.length_take, List.length_drop, List.length_drop, h.len], fun i v d e e' => ?_⟩
  rw [List.getElem?_take] at e e'
  split at e
  · rename_i hi
    rw [if_pos hi] at e'
    rw [List.getElem?_drop] at e e'
    exact h.all _ v d e e'
  · cases e
theorem r_slD {K : PySem.W.Frag} {H : Hp} {Q : VK} {v : V} {ds : List PyData} {lo hi : Option Int} (h : Dt K H v (.tuple ds)) (k : ∀ H' w, Kp [] H H' → Dt K H' w (.tuple (cutD ds lo hi)) → Q w H') : rSlA K v lo hi H Q := by
  obtain ⟨a, xs, rfl, hT, hL⟩ := h.items
  refine ⟨a, xs, rfl, hT, fun hw => ?_, fun _ p hp => k _ _ (Kp.nil.new hp) (((hL.cut lo hi).kp (Kp.nil.new hp)).tup upd_same)⟩
  refine k _ _ Kp.nil ?_
  have e : cutD ds lo hi = ds := by
    unfold cutD
    rw [hL.len] at hw
    rw [hw.1, hw.2, List.drop_zero, Nat.sub_zero, List.take_length]
  rw [e]
  exact h
theorem Sm.ds_len (x : List Sm) : (Sm.ds x).length = x.length := by rw [Sm.ds_map, List.length_map]
end Aw
namespace Aw
open PySem PySem.Spec L2
theorem Ex.ev_times (fix : List Int) (p : Int) (a b : Ex) (st : Rs) : (Ex.bin "times" a b).ev fix p st = (both ⟨0, []⟩ (b.ev fix p st).1 a.num, (b.ev fix p st).2) := by rw [Ex.ev, if_pos rfl]
theorem Ex.ev_bin (fix : List Int) (p : Int) {o : Str} (h : o ≠ "times") (a b : Ex) (st : Rs) : (Ex.bin o a b).ev fix p st =
    (both (a.ev fix p st).1 (b.ev fix p (a.ev fix p st).2).1 (if o = "plus" then 1 else -1), (b.ev fix p (a.ev fix p st).2).2) := by rw [Ex.ev, if_neg h]
end Aw
namespace Aw
open PySem PySem.Spec L2
def InN (xs : List Str) (x : Str) : Prop := isNameS x = true ∧ x ∈ xs
def Ex.vn (xs : List Str) : Nat → Ex → Prop
  | 0, _ => False
  | _ + 1, .int i => -99 ≤ i ∧ i ≤ 99
  | _ + 1, .name x => InN xs x
  | n + 1, .bin o a b => b.vn xs n ∧ ((o = "times" ∧ ∃ i : Int, a = .int i ∧ -9 ≤ i ∧ i ≤ 9) ∨ ((o = "plus" ∨ o = "minus") ∧ a.vn xs n))
def Ts.vn (xs : List Str) : Nat → Ts → Prop
  | 0, .not _ => False
  | n + 1, .not t => t.vn xs n
  | _, .given x => InN xs x
  | _, .rest e b r => e.vn xs 3 ∧ 2 ≤ b ∧ b ≤ 6 ∧ 0 ≤ r ∧ r ≤ b - 1
  | _, .less a b => a.vn xs 3 ∧ b.vn xs 3
def Pl.vn (xs : List Str) : Pl → Prop
  | .set x e => InN xs x ∧ e.vn xs 3
  | .unset x => InN xs x
  | .tell e => e.vn xs 3
  | .say w => isWordS w = true
  | .stop w => isWordS w = true
def Sm.vn (xs : List Str) : Nat → Sm → Prop
  | _, .pl s => s.vn xs
  | 0, .ifs t y z => t.vn xs 2 ∧ y = [] ∧ z = []
  | 0, .rep k b => 0 ≤ k ∧ k ≤ 8 ∧ b = []
  | n + 1, .ifs t y z => t.vn xs 2 ∧ (∀ s ∈ y, Sm.vn xs n s) ∧ (∀ s ∈ z, Sm.vn xs n s)
  | n + 1, .rep k b => 0 ≤ k ∧ k ≤ 8 ∧ ∀ s ∈ b, Sm.vn xs n s
def VnB (xs : List Str) : Nat → List Sm → Prop
  | 0, b => b = []
  | n + 1, b => ∀ s ∈ b, Sm.vn xs n s
structure NmN (H : Hp) (a : Addr) (xs : List Str) : Prop where
  h : H a = some (.lst (xs.map V.str))
  len : xs.length = 4
  ok : ∀ x ∈ xs, isNameS x = true
  four : ∃ a b c : Str, xs = [("n" : Str), a, b, c] ∧ xs.Nodup ∧ ("spare1" : Str) ∉ xs
theorem NmN.nn {H : Hp} {a : Addr} {xs : List Str} (h : NmN H a xs) : InN xs "n" := by
  obtain ⟨x, y, z, rfl, _⟩ := h.four
  exact ⟨h.ok _ (List.mem_cons_self ..), List.mem_cons_self ..⟩
theorem NmN.kp {M : List Addr} {H H1 : Hp} {a : Addr} {xs : List Str} (h : NmN H a xs) (k : Kp M H H1) (n : a ∉ M) : NmN H1 a xs := ⟨k.get h.h n, h.len, h.ok, h.four⟩
theorem NmN.item {H : Hp} {a : Addr} {xs : List Str} (h : NmN H a xs) {i : Nat} {x : V} (e : (xs.map V.str)[i]? = some x) : ∃ z : Str, x = .str z ∧ InN xs z := by
  rw [List.getElem?_map] at e
  obtain ⟨z, hz, rfl⟩ := Option.map_eq_some_iff.mp e
  exact ⟨z, rfl, h.ok z (List.mem_of_getElem? hz), List.mem_of_getElem? hz⟩
theorem NmN.one {K : PySem.W.Frag} {H : Hp} {Q : VK} {E : XK} {d c a : Addr} {n : Int} {xs : List Str} (h : NmN H a xs) (D : Deck H d c n) (hn : n < 10 ^ 12) (h1 : a ≠ d) (h2 : a ≠ c)
    (k : ∀ (H' : Hp) (z : Str), InN xs z → Deck H' d c (n + 1) → Kp [d, c] H H' → Q (.str z) H') : spOne K [.ref d, .ref a] H Q E := by
  refine spOne.list D hn (SqL.of h.h) h1 h2 (by rw [List.length_map, h.len]; omega) (by rw [List.length_map, h.len]; omega) fun H' i x hx D' k' => ?_
  obtain ⟨z, rfl, hz⟩ := h.item hx
  exact k H' z hz D' k'
def spNmN : Sp := fun vs H Q _ => ∃ (d c : Addr) (n : Int), vs = [.ref d] ∧ Deck H d c n ∧ n + 30 < 10 ^ 12 ∧
  ∀ (H' : Hp) (p : Addr) (xs : List Str) (n' : Int), H p = none → Deck H' d c n' → n ≤ n' → n' ≤ n + 30 → Kp [d, c] H H' → NmN H' p xs → Q (.ref p) H'
theorem Ex.vn.succ {xs : List Str} : ∀ {n : Nat} {e : Ex}, e.vn xs n → e.vn xs (n + 1)
  | 0, _, h => h.elim
  | _ + 1, .int _, h => h
  | _ + 1, .name _, h => h
  | _ + 1, .bin _ _ _, h => ⟨h.1.succ, h.2.imp id fun q => ⟨q.1, q.2.succ⟩⟩
theorem Ex.vn.mono {xs : List Str} {m n : Nat} {e : Ex} (h : e.vn xs m) (q : m ≤ n) : e.vn xs n := by
  induction q with
  | refl => exact h
  | step _ ih => exact ih.succ
theorem Ex.vn_int {xs : List Str} {m : Nat} {i : Int} (h : 1 ≤ m) (h1 : -99 ≤ i) (h2 : i ≤ 99) : (Ex.int i).vn xs m := by
  cases m with
  | zero => omega
  | succ m => exact ⟨h1, h2⟩
theorem Ex.vn_times {xs : List Str} {m : Nat} {i : Int} {e : Ex} (h1 : -9 ≤ i) (h2 : i ≤ 9) (h : e.vn xs m) : (Ex.bin "times" (.int i) e).vn xs (m + 1) := ⟨h, .inl ⟨rfl, i, rfl, h1, h2⟩⟩
def spExN (K : PySem.W.Frag) (m : Nat) : Sp := fun vs H Q _ => ∃ (d c nm : Addr) (n : Int) (xs : List Str), vs = [.ref d, .ref nm, .int m] ∧ Deck H d c n ∧ n + eDraws m < 10 ^ 12 ∧ NmN H nm xs ∧ nm ≠ d ∧ nm ≠ c ∧
  ∀ (H' : Hp) (v : V) (e : Ex) (n' : Int), Deck H' d c n' → n ≤ n' → n' ≤ n + eDraws m → Kp [d, c] H H' → Dt K H' v e.d → e.vn xs m → Q v H'
def spExNA (K : PySem.W.Frag) : Sp := fun vs H Q E => ∃ i : { m : Nat // 1 ≤ m ∧ m ≤ 3 }, spExN K i.1 vs H Q E
theorem spExNA.use {K : PySem.W.Frag} {H : Hp} {Q : VK} {E : XK} {d c nm : Addr} {n m : Int} {xs : List Str} (j : Nat) (D : Deck H d c n) (hn : n + 21 < 10 ^ 12) (N : NmN H nm xs) (n1 : nm ≠ d) (n2 : nm ≠ c) (hj : m = j) (m1 : 1 ≤ j) (m2 : j ≤ 3)
    (k : ∀ (H' : Hp) (v : V) (e : Ex) (n' : Int), Deck H' d c n' → n ≤ n' → n' ≤ n + 21 → Kp [d, c] H H' → Dt K H' v e.d → e.vn xs j → Q v H') : spExNA K [.ref d, .ref nm, .int m] H Q E := by
  have hE : eDraws j ≤ 21 := eDraws_le m2
  refine ⟨⟨j, m1, m2⟩, d, c, nm, n, xs, by rw [hj], D, by show n + ((eDraws j : Nat) : Int) < _; omega, N, n1, n2, fun H' v e n' D' q1 q2 k' hv he => ?_⟩
  have q2 : n' ≤ n + ((eDraws j : Nat) : Int) := q2
  exact k H' v e n' D' q1 (by omega) k' hv he
theorem Ts.vn.succ {xs : List Str} : ∀ {n : Nat} {t : Ts}, t.vn xs n → t.vn xs (n + 1)
  | n + 1, .not t, h => Ts.vn.succ (n := n) (t := t) h
  | n, .given x, h => by cases n <;> exact h
  | n, .rest e b r, h => by cases n <;> exact h
  | n, .less a b, h => by cases n <;> exact h
theorem Ts.vn.mono {xs : List Str} {m n : Nat} {t : Ts} (h : t.vn xs m) (q : m ≤ n) : t.vn xs n := by
  induction q with
  | refl => exact h
  | step _ ih => exact ih.succ
def spTsN (K : PySem.W.Frag) : Sp := fun vs H Q _ => ∃ (d c nm l : Addr) (n ti a b r s : Int) (xs : List Str), vs = [.ref d, .ref nm, .ref l, .int ti] ∧ Deck H d c n ∧ n + 60 < 10 ^ 12 ∧ NmN H nm xs ∧ nm ≠ d ∧ nm ≠ c ∧ nm ≠ l ∧ l ≠ d ∧ l ≠ c ∧
  Lft H l a b r s ∧ 0 ≤ r ∧ 0 ≤ s ∧ 0 ≤ ti ∧
  ∀ (H' : Hp) (v : V) (t : Ts) (n' r' s' : Int), Deck H' d c n' → n ≤ n' → n' ≤ n + 60 → Lft H' l a b r' s' → 0 ≤ r' → 0 ≤ s' → r' = r - ti * t.one "rest" → s' = s - ti * t.one "less" → Kp [d, c, l] H H' → Dt K H' v t.d → t.vn xs 2 → t.lo → Q v H'
def spPlN (K : PySem.W.Frag) : Sp := fun vs H Q _ => ∃ (d c nm : Addr) (n : Int) (xs : List Str), vs = [.ref d, .ref nm] ∧ Deck H d c n ∧ n + 30 < 10 ^ 12 ∧ NmN H nm xs ∧ nm ≠ d ∧ nm ≠ c ∧
  ∀ (H' : Hp) (v : V) (p : Pl) (n' : Int), Deck H' d c n' → n ≤ n' → n' ≤ n + 30 → Kp [d, c] H H' → Dt K H' v p.d → p.vn xs → Q v H'
def spRowN (K : PySem.W.Frag) (e : Nat) : Sp := fun vs H Q _ => ∃ (d c nm l : Addr) (n ti dep a b r s : Int) (xs : List Str), vs = [.ref d, .ref nm, .ref l, .int ti, .int dep] ∧ Deck H d c n ∧ n + 150 * a < 10 ^ 12 ∧
  NmN H nm xs ∧ nm ≠ d ∧ nm ≠ c ∧ nm ≠ l ∧ l ≠ d ∧ l ≠ c ∧ Lft H l a b r s ∧ 0 ≤ a ∧ 0 ≤ b ∧ 0 ≤ r ∧ 0 ≤ s ∧ a ≤ 1000 ∧ 0 ≤ ti ∧ dep + e = 3 ∧
  ∀ (H' : Hp) (v : V) (x : List Sm) (n' a' b' r' s' : Int), Deck H' d c n' → n ≤ n' → n' ≤ n + 150 * (a - a') → Lft H' l a' b' r' s' → 0 ≤ a' → 0 ≤ b' → 0 ≤ r' → 0 ≤ s' → x.length ≤ 1 → Took ti a b r s a' b' r' s' x → Kp [d, c, l] H H' →
    Dt K H' v (rowD x) → (∀ s ∈ x, Sm.vn xs e s) → Q v H'
/-- a block at a depth; e + dep = 4 -/
def spBlN (K : PySem.W.Frag) (e : Nat) : Sp := fun vs H Q _ => ∃ (d c nm l : Addr) (n ti dep a b r s : Int) (xs : List Str), vs = [.ref d, .ref nm, .ref l, .int ti, .int dep] ∧ Deck H d c n ∧ n + 1 + 150 * a < 10 ^ 12 ∧
  NmN H nm xs ∧ nm ≠ d ∧ nm ≠ c ∧ nm ≠ l ∧ l ≠ d ∧ l ≠ c ∧ Lft H l a b r s ∧ 0 ≤ a ∧ 0 ≤ b ∧ 0 ≤ r ∧ 0 ≤ s ∧ a ≤ 1000 ∧ 0 ≤ ti ∧ dep + e = 4 ∧
  ∀ (H' : Hp) (v : V) (x : List Sm) (n' a' b' r' s' : Int), Deck H' d c n' → n ≤ n' → n' ≤ n + 1 + 150 * (a - a') → Lft H' l a' b' r' s' → 0 ≤ a' → 0 ≤ b' → 0 ≤ r' → 0 ≤ s' → Took ti a b r s a' b' r' s' x → Kp [d, c, l] H H' →
    Dt K H' v (.tuple (Sm.ds x)) → VnB xs e x → Q v H'
structure PgN (xs : List Str) (b : List Sm) : Prop where
  vn : ∀ s ∈ b, Sm.vn xs 3 s
  size : Sm.sizes b ≤ 24
  weight : Sm.cnts "weight" b ≤ 30
  rest : Sm.cnts "rest" b ≤ 2
  less : Sm.cnts "less" b ≤ 2
  lo : Sm.los b
def spPgN (K : PySem.W.Frag) : Sp := fun vs H Q _ => ∃ (d c nm : Addr) (n : Int) (xs : List Str), vs = [.ref d, .ref nm] ∧ Deck H d c n ∧ n + 5000 < 10 ^ 12 ∧ NmN H nm xs ∧ nm ≠ d ∧ nm ≠ c ∧
  ∀ (H' : Hp) (v : V) (x : List Sm) (n' : Int), Deck H' d c n' → n ≤ n' → n' ≤ n + 5000 → Kp [d, c] H H' → Dt K H' v (.tuple (Sm.ds x)) → PgN xs x → Q v H'
theorem Ex.vn.vd {xs : List Str} : ∀ {n : Nat} {e : Ex}, e.vn xs n → e.vd n
  | 0, _, h => h.elim
  | _ + 1, .int _, h => h
  | _ + 1, .name _, h => h.1
  | _ + 1, .bin _ _ _, h => ⟨Ex.vn.vd h.1, h.2.imp id fun q => ⟨q.1, Ex.vn.vd q.2⟩⟩
def nmF (l r : Str) (c : Nat) : Str := l ++ ⟨#[c]⟩ ++ r
theorem nmF_cps (l r : Str) (c : Nat) : (nmF l r c).cps.toList = l.cps.toList ++ c :: r.cps.toList := by
  unfold nmF
  rw [Str.cps_append, Str.cps_append, Array.toList_append, Array.toList_append, List.append_assoc]
  rfl
theorem nmF_inj {l r : Str} {c d : Nat} (h : nmF l r c = nmF l r d) : c = d := by
  have e : (nmF l r c).cps.toList = (nmF l r d).cps.toList := by rw [h]
  rw [nmF_cps, nmF_cps] at e
  have q := List.append_cancel_left e
  injection q
theorem nmF_has {l r z : Str} {c : Nat} (h : nmF l r c = z) : c ∈ z.cps.toList ∧ ∀ x ∈ z.cps.toList, x ∈ l.cps.toList ∨ x = c ∨ x ∈ r.cps.toList := by
  rw [← h, nmF_cps]
  refine ⟨by simp, fun x hx => ?_⟩
  simp only [List.mem_append, List.mem_cons] at hx
  exact hx
theorem four_names {l r : Str} (hl : ∀ c ∈ l.cps.toList, c ∈ LTT.cps.toList) (hr : ∀ c ∈ r.cps.toList, c ∈ (LTT ++ ("0123456789" : Str)).cps.toList) :
    ([("n" : Str), nmF l r 113, nmF l r 120, nmF l r 122]).Nodup ∧ ("spare1" : Str) ∉ [("n" : Str), nmF l r 113, nmF l r 120, nmF l r 122] := by
  have hn : ∀ c, c ≠ 110 → ("n" : Str) ≠ nmF l r c := fun c hc e => by
    have q := (nmF_has e.symm).1
    rw [show ("n" : Str).cps.toList = [110] by decide +kernel] at q
    exact hc (List.mem_singleton.mp q)
  have hd : ∀ c d : Nat, c ≠ d → nmF l r c ≠ nmF l r d := fun c d hc e => hc (nmF_inj e)
  have hs : ∀ c, c ≠ 115 → ("spare1" : Str) ≠ nmF l r c := fun c hc e => by
    have q := (nmF_has e.symm).2 115 (by decide +kernel)
    rcases q with q | q | q
    · exact absurd (hl _ q) (by decide +kernel)
    · exact hc q.symm
    · exact absurd (hr _ q) (by decide +kernel)
  refine ⟨?_, ?_⟩
  · simp only [List.nodup_cons, List.mem_cons, List.not_mem_nil, or_false, not_or, not_false_eq_true, List.nodup_nil, and_true]
    exact ⟨⟨hn _ (by decide), hn _ (by decide), hn _ (by decide)⟩, ⟨hd _ _ (by decide), hd _ _ (by decide)⟩, hd _ _ (by decide)⟩
  · simp only [List.mem_cons, List.not_mem_nil, or_false, not_or]
    exact ⟨by decide +kernel, hs _ (by decide), hs _ (by decide), hs _ (by decide)⟩
end Aw
namespace Aw
open PySem PySem.Spec L2
def mkMinus (a b : Ex) : Ex := match b with
  | .int j => .bin "plus" a (.int (0 - j))
  | .bin o c d => if o = "times" then .bin "plus" a (.bin "times" (.int (0 - c.num)) d) else .bin "minus" a (.bin o c d)
  | .name x => .bin "minus" a (.name x)
/-- g: differences are sums with multiples, tests are denied; l: repeats are written out -/
def Ex.ot (sw : Str → Str) (g : Bool) : Ex → Ex
  | .int i => .int i
  | .name x => .name (sw x)
  | .bin o a b => if o = "times" then .bin o a (b.ot sw g) else if o = "minus" ∧ g = true then mkMinus (a.ot sw g) (b.ot sw g) else .bin o (a.ot sw g) (b.ot sw g)
def Ts.ot (sw : Str → Str) (g : Bool) : Ts → Ts
  | .not t => .not (t.ot sw g)
  | .given x => .given (sw x)
  | .rest e b r => .rest (e.ot sw g) b r
  | .less a b => .less (a.ot sw g) (b.ot sw g)
def Pl.ot (sw : Str → Str) (g : Bool) : Pl → Pl
  | .set x e => .set (sw x) (e.ot sw g)
  | .unset x => .unset (sw x)
  | .tell e => .tell (e.ot sw g)
  | .say w => .say w
  | .stop w => .stop w
def otIf (sw : Str → Str) (g : Bool) (t : Ts) (y z : List Sm) : Sm := if g = true then (match t with
  | .not u => .ifs (u.ot sw g) z y
  | t => .ifs (.not (t.ot sw g)) z y) else .ifs (t.ot sw g) y z
mutual
def Sm.ot (sw : Str → Str) (g l : Bool) : Sm → List Sm
  | .pl p => [.pl (p.ot sw g)]
  | .ifs t y z => [otIf sw g t (Sm.ots sw g l y) (Sm.ots sw g l z)]
  | .rep k b => if l = true then (List.replicate k.toNat (Sm.ots sw g l b)).flatten else [.rep k (Sm.ots sw g l b)]
def Sm.ots (sw : Str → Str) (g l : Bool) : List Sm → List Sm
  | [] => []
  | s :: r => Sm.ot sw g l s ++ Sm.ots sw g l r
end
def Ex.nin (xs : List Str) : Ex → Prop
  | .int _ => True
  | .name x => x ∈ xs
  | .bin _ a b => a.nin xs ∧ b.nin xs
def Ts.nin (xs : List Str) : Ts → Prop
  | .not t => t.nin xs
  | .given x => x ∈ xs
  | .rest e _ _ => e.nin xs
  | .less a b => a.nin xs ∧ b.nin xs
def Pl.nin (xs : List Str) : Pl → Prop
  | .set x e => x ∈ xs ∧ e.nin xs
  | .unset x => x ∈ xs
  | .tell e => e.nin xs
  | _ => True
mutual
def Sm.nin (xs : List Str) : Sm → Prop
  | .pl p => p.nin xs
  | .ifs t y z => t.nin xs ∧ Sm.nins xs y ∧ Sm.nins xs z
  | .rep _ b => Sm.nins xs b
def Sm.nins (xs : List Str) : List Sm → Prop
  | [] => True
  | s :: r => Sm.nin xs s ∧ Sm.nins xs r
end
/-- a change of names -/
structure Swp (xs : List Str) (sw : Str → Str) : Prop where
  inj : ∀ x ∈ xs, ∀ y ∈ xs, sw x = sw y → x = y
structure Iso (xs : List Str) (sw : Str → Str) (st st' : Rs) : Prop where
  env : ∀ x ∈ xs, st'.env (sw x) = st.env x
  said : st'.said = st.said
  made : st'.made.length = st.made.length
section
variable {xs : List Str} {sw : Str → Str} {g l : Bool}
theorem Iso.trans {st st1 st2 : Rs} {sw2 : Str → Str} (h : Iso xs sw st st1) (k : Iso xs sw2 st1 st2) (hx : ∀ x ∈ xs, sw x ∈ xs) : Iso xs (sw2 ∘ sw) st st2 :=
  ⟨fun x m => (k.env _ (hx x m)).trans (h.env x m), k.said.trans h.said, k.made.trans h.made⟩
def negM (m : Ml) : Ml := m.map fun p => (p.1, -p.2)
theorem getI_negM (k : Int) : ∀ m : Ml, getI (negM m) k = - getI m k
  | [] => rfl
  | p :: r => by
    have ih := getI_negM k r
    unfold negM at ih ⊢
    rw [List.map_cons]
    by_cases e : p.1 = k
    · rw [getI_pos (p := (p.1, -p.2)) e, getI_pos e]
    · rw [getI_neg (p := (p.1, -p.2)) e, getI_neg e, ih]
theorem putI_negM (m : Ml) (k v : Int) : putI (negM m) k (-v) = negM (putI m k v) := by
  have ha : ((negM m).any fun p => decide (p.1 = k)) = (m.any fun p => decide (p.1 = k)) := by
    unfold negM
    rw [List.any_map]
    rfl
  unfold putI
  rw [ha]
  split
  · unfold negM
    rw [List.map_map, List.map_map]
    congr 1
    funext p
    show (if p.1 = k then (p.1, -v) else (p.1, -p.2)) = ((if p.1 = k then (p.1, v) else p).1, -(if p.1 = k then (p.1, v) else p).2)
    split <;> rfl
  · unfold negM
    rw [List.map_append]
    rfl
theorem bothM_negt (t : Int) : ∀ (d a : Ml), bothM (negM a) d (-t) = negM (bothM a d t)
  | [], a => rfl
  | p :: r, a => by
    show bothM (putI (negM a) p.1 (getI (negM a) p.1 + -t * p.2)) r (-t) = negM (bothM (putI a p.1 (getI a p.1 + t * p.2)) r t)
    rw [← bothM_negt t r, ← putI_negM, getI_negM, show -getI a p.1 + -t * p.2 = -(getI a p.1 + t * p.2) by rw [Int.neg_mul, Int.neg_add]]
theorem bothM_neg1 : ∀ (d a : Ml), bothM a (negM d) 1 = bothM a d (-1)
  | [], a => rfl
  | p :: r, a => by
    show bothM (putI a p.1 (getI a p.1 + 1 * -p.2)) (negM r) 1 = bothM (putI a p.1 (getI a p.1 + -1 * p.2)) r (-1)
    rw [bothM_neg1 r, show getI a p.1 + 1 * -p.2 = getI a p.1 + -1 * p.2 by omega]
theorem both_minus (a d : Sv) (k : Int) : both a (both ⟨0, []⟩ d (0 - k)) 1 = both a (both ⟨0, []⟩ d k) (-1) := by
  unfold both
  dsimp only
  have e : bothM [] d.m (0 - k) = negM (bothM [] d.m k) := by
    have q := bothM_negt k d.m []
    rw [show 0 - k = -k by omega]
    exact q
  rw [e, bothM_neg1, show 0 - k = -k by omega]
  congr 1
  rw [Int.neg_mul]
  omega
theorem mkMinus_ev (p : Int) (a b : Ex) (st : Rs) : (mkMinus a b).ev [] p st = (both (a.ev [] p st).1 (b.ev [] p (a.ev [] p st).2).1 (-1), (b.ev [] p (a.ev [] p st).2).2) := by
  have np : ¬ ("plus" : Str) = "times" := by decide +kernel
  have nm : ¬ ("minus" : Str) = "times" := by decide +kernel
  have nmp : ¬ ("minus" : Str) = "plus" := by decide +kernel
  cases b with
  | int j =>
    show (Ex.bin "plus" a (.int (0 - j))).ev [] p st = _
    rw [Ex.ev_bin [] p np, if_pos rfl]
    refine Prod.ext ?_ rfl
    show both (a.ev [] p st).1 ⟨0 - j, []⟩ 1 = both (a.ev [] p st).1 ⟨j, []⟩ (-1)
    unfold both
    dsimp only
    rw [show (a.ev [] p st).1.n + 1 * (0 - j) = (a.ev [] p st).1.n + -1 * j by omega]
    rfl
  | name x =>
    show (Ex.bin "minus" a (.name x)).ev [] p st = _
    rw [Ex.ev_bin [] p nm, if_neg nmp]
  | bin o c d =>
    by_cases ho : o = "times"
    · have e : mkMinus a (.bin o c d) = .bin "plus" a (.bin "times" (.int (0 - c.num)) d) := by
        unfold mkMinus
        dsimp only
        rw [if_pos ho]
      rw [e, Ex.ev_bin [] p np, if_pos rfl, ho, Ex.ev_times, Ex.ev_times]
      refine Prod.ext ?_ rfl
      exact both_minus _ _ _
    · have e : mkMinus a (.bin o c d) = .bin "minus" a (.bin o c d) := by
        unfold mkMinus
        dsimp only
        rw [if_neg ho]
      rw [e, Ex.ev_bin [] p nm, if_neg nmp]
theorem rdS_iso (p p' : Int) {st st' : Rs} (m : Iso xs sw st st') : (rdS [] p' st').1 = (rdS [] p st).1 ∧ Iso xs sw (rdS [] p st).2 (rdS [] p' st').2 := by
  unfold rdS
  rw [if_neg (by simp), if_neg (by simp), m.made]
  refine ⟨rfl, m.env, m.said, ?_⟩
  show (st'.made ++ [p']).length = (st.made ++ [p]).length
  rw [List.length_append, List.length_append, m.made]
  rfl
theorem Ex.ev_iso (p p' : Int) : ∀ (e : Ex) {st st' : Rs}, e.nin xs → Iso xs sw st st' → ((e.ot sw g).ev [] p' st').1 = (e.ev [] p st).1 ∧ Iso xs sw (e.ev [] p st).2 ((e.ot sw g).ev [] p' st').2
  | .int i, st, st', _, m => ⟨rfl, m⟩
  | .name x, st, st', h, m => by
    rw [Ex.ot, Ex.ev, Ex.ev, m.env x h]
    cases st.env x with
    | some s => exact ⟨rfl, m⟩
    | none => exact rdS_iso p p' m
  | .bin o a b, st, st', h, m => by
    obtain ⟨ha, hb⟩ := h
    by_cases ho : o = "times"
    · rw [ho, Ex.ot, if_pos rfl, Ex.ev_times, Ex.ev_times]
      obtain ⟨q1, q2⟩ := Ex.ev_iso p p' b hb m
      refine ⟨?_, q2⟩
      dsimp only
      rw [q1]
    · obtain ⟨q1, q2⟩ := Ex.ev_iso p p' a ha m
      obtain ⟨r1, r2⟩ := Ex.ev_iso p p' b hb q2
      rw [Ex.ot, if_neg ho, Ex.ev_bin [] p ho]
      by_cases hm : o = "minus" ∧ g = true
      · rw [if_pos hm, mkMinus_ev]
        refine ⟨?_, r2⟩
        dsimp only
        rw [q1, r1, hm.1, if_neg (by decide +kernel)]
      · rw [if_neg hm, Ex.ev_bin [] p' ho]
        refine ⟨?_, r2⟩
        dsimp only
        rw [q1, r1]
theorem Ts.tr_iso (p p' : Int) : ∀ (t : Ts) {st st' : Rs}, t.nin xs → Iso xs sw st st' → ((t.ot sw g).tr [] p' st').1 = (t.tr [] p st).1 ∧ Iso xs sw (t.tr [] p st).2 ((t.ot sw g).tr [] p' st').2
  | .not t, st, st', h, m => by
    obtain ⟨q1, q2⟩ := Ts.tr_iso p p' t h m
    rw [Ts.ot, Ts.tr, Ts.tr]
    refine ⟨?_, q2⟩
    dsimp only
    rw [q1]
  | .given x, st, st', h, m => by
    rw [Ts.ot, Ts.tr, Ts.tr, m.env x h]
    exact ⟨rfl, m⟩
  | .rest e b r, st, st', h, m => by
    obtain ⟨q1, q2⟩ := Ex.ev_iso (g := g) p p' e h m
    rw [Ts.ot, Ts.tr, Ts.tr]
    refine ⟨?_, q2⟩
    dsimp only
    rw [q1]
  | .less a b, st, st', h, m => by
    obtain ⟨q1, q2⟩ := Ex.ev_iso (g := g) p p' a h.1 m
    obtain ⟨r1, r2⟩ := Ex.ev_iso (g := g) p p' b h.2 q2
    rw [Ts.ot, Ts.tr, Ts.tr]
    refine ⟨?_, r2⟩
    dsimp only
    rw [q1, r1]
theorem Pl.go_iso (hs : Swp xs sw) (p p' : Int) (q : Pl) {st st' : Rs} (h : q.nin xs) (m : Iso xs sw st st') : ((q.ot sw g).go [] p' st').1 = (q.go [] p st).1 ∧ Iso xs sw (q.go [] p st).2 ((q.ot sw g).go [] p' st').2 := by
  have setq : ∀ {s s' : Rs} {x : Str} {o : Option Sv}, x ∈ xs → Iso xs sw s s' → ∀ y ∈ xs, setE s'.env (sw x) o (sw y) = setE s.env x o y := by
    intro s s' x o hx i y hy
    unfold setE
    by_cases e : y = x
    · rw [if_pos (by rw [e]), if_pos e]
    · rw [if_neg (fun z => e (hs.inj y hy x hx z)), if_neg e]
      exact i.env y hy
  cases q with
  | set x e =>
    obtain ⟨q1, q2⟩ := Ex.ev_iso (g := g) p p' e h.2 m
    refine ⟨rfl, ⟨fun y hy => ?_, q2.said, q2.made⟩⟩
    show setE ((e.ot sw g).ev [] p' st').2.env (sw x) (some ((e.ot sw g).ev [] p' st').1) (sw y) = setE (e.ev [] p st).2.env x (some (e.ev [] p st).1) y
    rw [q1]
    exact setq h.1 q2 y hy
  | unset x =>
    refine ⟨rfl, ⟨fun y hy => ?_, m.said, m.made⟩⟩
    exact setq (o := none) h m y hy
  | tell e =>
    obtain ⟨q1, q2⟩ := Ex.ev_iso (g := g) p p' e h m
    refine ⟨rfl, ⟨q2.env, ?_, q2.made⟩⟩
    show ((e.ot sw g).ev [] p' st').2.said ++ [Sum.inr ((e.ot sw g).ev [] p' st').1] = (e.ev [] p st).2.said ++ [Sum.inr (e.ev [] p st).1]
    rw [q1, q2.said]
  | say w =>
    refine ⟨rfl, ⟨m.env, ?_, m.made⟩⟩
    show st'.said ++ [Sum.inl w] = st.said ++ [Sum.inl w]
    rw [m.said]
  | stop w => exact ⟨rfl, m⟩
theorem Sm.goL_apps (fix : List Int) : ∀ (a b : List Sm) (p : Int) (st : Rs), Sm.goL fix p (a ++ b) st = (match Sm.goL fix p a st with
    | (some w, s) => (some w, s)
    | (none, s) => Sm.goL fix (p + (Sm.sizes a : Nat)) b s)
  | [], b, p, st => by
    rw [List.nil_append, Sm.goL, Sm.sizes]
    dsimp only
    rw [show p + ((0 : Nat) : Int) = p by omega]
  | c :: r, b, p, st => by
    rw [List.cons_append, Sm.goL, Sm.goL, Sm.sizes]
    cases Sm.go fix p c st with
    | mk o s =>
      cases o with
      | some w => rfl
      | none =>
        dsimp only
        rw [Sm.goL_apps fix r b]
        rw [show p + (c.size : Nat) + ((Sm.sizes r : Nat) : Int) = p + ((c.size + Sm.sizes r : Nat) : Int) by omega]
theorem Sm.goL_single (fix : List Int) (p : Int) (s : Sm) (st : Rs) : Sm.goL fix p [s] st = Sm.go fix p s st := by
  rw [Sm.goL]
  cases Sm.go fix p s st with
  | mk o s' =>
    cases o with
    | some w => rfl
    | none => dsimp only; rw [Sm.goL]
/-- the same word, the same state but for names and places -/
def Alike (xs : List Str) (sw : Str → Str) (r r' : Option Str × Rs) : Prop := r'.1 = r.1 ∧ Iso xs sw r.2 r'.2
theorem iterS_rep {f : Rs → Option Str × Rs} {B : List Sm} (hf : ∀ (p : Int) (st st' : Rs), Iso xs sw st st' → Alike xs sw (f st) (Sm.goL [] p B st')) :
    ∀ (k : Nat) (p : Int) (st st' : Rs), Iso xs sw st st' → Alike xs sw (iterS f k st) (Sm.goL [] p (List.replicate k B).flatten st')
  | 0, p, st, st', m => by
    rw [List.replicate_zero, List.flatten_nil, iterS, Sm.goL]
    exact ⟨rfl, m⟩
  | k + 1, p, st, st', m => by
    rw [List.replicate_succ, List.flatten_cons, Sm.goL_apps, iterS]
    obtain ⟨q1, q2⟩ := hf p st st' m
    cases e : f st with
    | mk o s =>
      cases e' : Sm.goL [] p B st' with
      | mk o' s' =>
        rw [e, e'] at q1 q2
        dsimp only at q1 q2
        subst q1
        cases o' with
        | some w => exact ⟨rfl, q2⟩
        | none => exact iterS_rep hf k _ s s' q2
theorem iterS_iso {f f' : Rs → Option Str × Rs} (hf : ∀ (st st' : Rs), Iso xs sw st st' → Alike xs sw (f st) (f' st')) :
    ∀ (k : Nat) (st st' : Rs), Iso xs sw st st' → Alike xs sw (iterS f k st) (iterS f' k st')
  | 0, st, st', m => ⟨rfl, m⟩
  | k + 1, st, st', m => by
    rw [iterS, iterS]
    obtain ⟨q1, q2⟩ := hf st st' m
    cases e : f st with
    | mk o s =>
      cases e' : f' st' with
      | mk o' s' =>
        rw [e, e'] at q1 q2
        dsimp only at q1 q2
        subst q1
        cases o' with
        | some w => exact ⟨rfl, q2⟩
        | none => exact iterS_iso hf k s s' q2
theorem ifs_iso {t t' : Ts} {y z y' z' : List Sm} {p p' : Int} {st st' : Rs} (ht : (t'.tr [] p' st').1 = (t.tr [] p st).1 ∧ Iso xs sw (t.tr [] p st).2 (t'.tr [] p' st').2)
    (hy : ∀ (p p' : Int) (st st' : Rs), Iso xs sw st st' → Alike xs sw (Sm.goL [] p y st) (Sm.goL [] p' y' st')) (hz : ∀ (p p' : Int) (st st' : Rs), Iso xs sw st st' → Alike xs sw (Sm.goL [] p z st) (Sm.goL [] p' z' st')) :
    Alike xs sw (Sm.go [] p (.ifs t y z) st) (Sm.go [] p' (.ifs t' y' z') st') := by
  rw [Sm.go, Sm.go]
  obtain ⟨q1, q2⟩ := ht
  cases e : t.tr [] p st with
  | mk o s =>
    cases e' : t'.tr [] p' st' with
    | mk o' s' =>
      rw [e, e'] at q1 q2
      dsimp only at q1 q2
      subst q1
      match o' with
      | none => exact ⟨rfl, q2⟩
      | some true => exact hy _ _ _ _ q2
      | some false => exact hz _ _ _ _ q2
theorem ifs_isoN {t t' : Ts} {y z y' z' : List Sm} {p p' : Int} {st st' : Rs} (ht : (t'.tr [] p' st').1 = ((t.tr [] p st).1).map (! ·) ∧ Iso xs sw (t.tr [] p st).2 (t'.tr [] p' st').2)
    (hy : ∀ (p p' : Int) (st st' : Rs), Iso xs sw st st' → Alike xs sw (Sm.goL [] p y st) (Sm.goL [] p' y' st')) (hz : ∀ (p p' : Int) (st st' : Rs), Iso xs sw st st' → Alike xs sw (Sm.goL [] p z st) (Sm.goL [] p' z' st')) :
    Alike xs sw (Sm.go [] p (.ifs t y z) st) (Sm.go [] p' (.ifs t' z' y') st') := by
  rw [Sm.go, Sm.go]
  obtain ⟨q1, q2⟩ := ht
  cases e : t.tr [] p st with
  | mk o s =>
    cases e' : t'.tr [] p' st' with
    | mk o' s' =>
      rw [e, e'] at q1 q2
      dsimp only at q1 q2
      subst q1
      match o with
      | none => exact ⟨rfl, q2⟩
      | some true => exact hy _ _ _ _ q2
      | some false => exact hz _ _ _ _ q2
theorem opt_not (o : Option Bool) : (o.map (! ·)).map (! ·) = o := by
  match o with
  | none => rfl
  | some true => rfl
  | some false => rfl
mutual
theorem Sm.go_iso (hs : Swp xs sw) : ∀ (s : Sm) (p p' : Int) (st st' : Rs), s.nin xs → Iso xs sw st st' → Alike xs sw (Sm.go [] p s st) (Sm.goL [] p' (s.ot sw g l) st')
  | .pl q, p, p', st, st', h, m => by
    rw [Sm.nin] at h
    rw [Sm.ot, Sm.goL_single, Sm.go, Sm.go]
    exact Pl.go_iso hs p p' q h m
  | .ifs t y z, p, p', st, st', h, m => by
    rw [Sm.nin] at h
    obtain ⟨h1, h2, h3⟩ := h
    rw [Sm.ot, Sm.goL_single]
    have iy := fun (p p' : Int) (st st' : Rs) (i : Iso xs sw st st') => Sm.goL_iso hs y p p' st st' h2 i
    have iz := fun (p p' : Int) (st st' : Rs) (i : Iso xs sw st st') => Sm.goL_iso hs z p p' st st' h3 i
    unfold otIf
    cases g with
    | false =>
      rw [if_neg (by decide)]
      exact ifs_iso (Ts.tr_iso p p' t h1 m) iy iz
    | true =>
      rw [if_pos rfl]
      cases t with
      | not u =>
        have q := Ts.tr_iso (g := true) p p' u h1 m
        refine ifs_isoN ⟨?_, q.2⟩ iy iz
        show ((u.ot sw true).tr [] p' st').1 = ((u.tr [] p st).1.map (! ·)).map (! ·)
        rw [opt_not]
        exact q.1
      | given x =>
        have q := Ts.tr_iso (g := true) p p' (.given x) h1 m
        refine ifs_isoN ⟨?_, q.2⟩ iy iz
        show (((Ts.given x).ot sw true).tr [] p' st').1.map (! ·) = _
        rw [q.1]
      | rest e b r =>
        have q := Ts.tr_iso (g := true) p p' (.rest e b r) h1 m
        refine ifs_isoN ⟨?_, q.2⟩ iy iz
        show (((Ts.rest e b r).ot sw true).tr [] p' st').1.map (! ·) = _
        rw [q.1]
      | less a b =>
        have q := Ts.tr_iso (g := true) p p' (.less a b) h1 m
        refine ifs_isoN ⟨?_, q.2⟩ iy iz
        show (((Ts.less a b).ot sw true).tr [] p' st').1.map (! ·) = _
        rw [q.1]
  | .rep k b, p, p', st, st', h, m => by
    rw [Sm.nin] at h
    have ib := fun (p p' : Int) (st st' : Rs) (i : Iso xs sw st st') => Sm.goL_iso hs b p p' st st' h i
    rw [Sm.ot, Sm.go]
    cases l with
    | true =>
      rw [if_pos rfl]
      exact iterS_rep (fun q s s' i => ib (p + 1) q s s' i) k.toNat p' st st' m
    | false =>
      rw [if_neg (by decide), Sm.goL_single, Sm.go]
      exact iterS_iso (fun s s' i => ib (p + 1) (p' + 1) s s' i) k.toNat st st' m
theorem Sm.goL_iso (hs : Swp xs sw) : ∀ (b : List Sm) (p p' : Int) (st st' : Rs), Sm.nins xs b → Iso xs sw st st' → Alike xs sw (Sm.goL [] p b st) (Sm.goL [] p' (Sm.ots sw g l b) st')
  | [], p, p', st, st', _, m => by
    rw [Sm.ots, Sm.goL, Sm.goL]
    exact ⟨rfl, m⟩
  | s :: r, p, p', st, st', h, m => by
    rw [Sm.nins] at h
    rw [Sm.ots, Sm.goL_apps, Sm.goL]
    obtain ⟨q1, q2⟩ := Sm.go_iso hs s p p' st st' h.1 m
    cases e : Sm.go [] p s st with
    | mk o s1 =>
      cases e' : Sm.goL [] p' (s.ot sw g l) st' with
      | mk o' s1' =>
        rw [e, e'] at q1 q2
        dsimp only at q1 q2
        subst q1
        cases o' with
        | some w => exact ⟨rfl, q2⟩
        | none => exact Sm.goL_iso hs r _ _ s1 s1' h.2 q2
end
end
end Aw
namespace Aw
open PySem PySem.Spec L2
section
variable {xs : List Str} {sw : Str → Str} {g l : Bool}
theorem Ex.vn.nin : ∀ {n : Nat} {e : Ex}, e.vn xs n → e.nin xs
  | 0, _, h => h.elim
  | _ + 1, .int _, _ => trivial
  | _ + 1, .name _, h => h.2
  | _ + 1, .bin o a b, h => by
    obtain ⟨hb, h⟩ := h
    refine ⟨?_, hb.nin⟩
    rcases h with ⟨_, i, rfl, _⟩ | ⟨_, ha⟩
    · trivial
    · exact ha.nin
theorem Ts.vn.parts {n : Nat} {e : Ex} {b r : Int} (h : (Ts.rest e b r).vn xs n) : e.vn xs 3 ∧ 2 ≤ b ∧ b ≤ 6 ∧ 0 ≤ r ∧ r ≤ b - 1 := by cases n <;> exact h
theorem Ts.vn.parts2 {n : Nat} {a b : Ex} (h : (Ts.less a b).vn xs n) : a.vn xs 3 ∧ b.vn xs 3 := by cases n <;> exact h
theorem Ts.vn.parts1 {n : Nat} {x : Str} (h : (Ts.given x).vn xs n) : InN xs x := by cases n <;> exact h
theorem Ts.vn.nin : ∀ {n : Nat} {t : Ts}, t.vn xs n → t.nin xs
  | n + 1, .not t, h => Ts.vn.nin (n := n) (t := t) h
  | n, .given x, h => h.parts1.2
  | n, .rest e b r, h => h.parts.1.nin
  | n, .less a b, h => ⟨h.parts2.1.nin, h.parts2.2.nin⟩
theorem Pl.vn.nin {p : Pl} (h : p.vn xs) : p.nin xs := by
  cases p with
  | set x e => exact ⟨h.1.2, h.2.nin⟩
  | unset x => exact h.2
  | tell e => exact Ex.vn.nin (n := 3) h
  | say w => trivial
  | stop w => trivial
theorem Sm.nins_of : ∀ {b : List Sm}, (∀ s ∈ b, s.nin xs) → Sm.nins xs b
  | [], _ => by rw [Sm.nins]; trivial
  | s :: r, h => by
    rw [Sm.nins]
    exact ⟨h s (List.mem_cons_self ..), Sm.nins_of fun c hc => h c (List.mem_cons_of_mem _ hc)⟩
theorem Sm.vn.pl {n : Nat} {p : Pl} (h : Sm.vn xs n (.pl p)) : p.vn xs := by cases n <;> exact h
theorem Sm.vn.ifs {n : Nat} {t : Ts} {y z : List Sm} (h : Sm.vn xs n (.ifs t y z)) : t.vn xs 2 ∧ VnB xs n y ∧ VnB xs n z := by cases n <;> exact h
theorem Sm.vn.rep {n : Nat} {k : Int} {b : List Sm} (h : Sm.vn xs n (.rep k b)) : 0 ≤ k ∧ k ≤ 8 ∧ VnB xs n b := by cases n <;> exact h
theorem Sm.vn_pl {n : Nat} {p : Pl} (h : p.vn xs) : Sm.vn xs n (.pl p) := by cases n <;> exact h
theorem Sm.vn_ifs {n : Nat} {t : Ts} {y z : List Sm} (h : t.vn xs 2 ∧ VnB xs n y ∧ VnB xs n z) : Sm.vn xs n (.ifs t y z) := by cases n <;> exact h
theorem Sm.vn_rep {n : Nat} {k : Int} {b : List Sm} (h : 0 ≤ k ∧ k ≤ 8 ∧ VnB xs n b) : Sm.vn xs n (.rep k b) := by cases n <;> exact h
theorem VnB.nil {n : Nat} : VnB xs n [] := by
  cases n with
  | zero => rfl
  | succ n => intro s h; cases h
theorem VnB.nins : ∀ (n : Nat) (b : List Sm), VnB xs n b → Sm.nins xs b := by
  intro n
  induction n with
  | zero =>
    intro b h
    obtain rfl : b = [] := h
    rw [Sm.nins]
    trivial
  | succ n ih =>
    intro b h
    refine Sm.nins_of fun s hs => ?_
    have hv : Sm.vn xs n s := h s hs
    cases s with
    | pl p =>
      rw [Sm.nin]
      exact hv.pl.nin
    | ifs t y z =>
      rw [Sm.nin]
      exact ⟨hv.ifs.1.nin, ih _ hv.ifs.2.1, ih _ hv.ifs.2.2⟩
    | rep k b =>
      rw [Sm.nin]
      exact ih _ hv.rep.2.2
theorem Ts.vn.vd : ∀ {n : Nat} {t : Ts}, t.vn xs n → t.vd n
  | n + 1, .not t, h => Ts.vn.vd (n := n) (t := t) h
  | n, .given x, h => by have := h.parts1.1; cases n <;> exact this
  | n, .rest e b r, h => by
    have q : e.vd 3 ∧ 2 ≤ b ∧ b ≤ 6 ∧ 0 ≤ r ∧ r ≤ b - 1 := ⟨h.parts.1.vd, h.parts.2⟩
    cases n <;> exact q
  | n, .less a b, h => by
    have q : a.vd 3 ∧ b.vd 3 := ⟨h.parts2.1.vd, h.parts2.2.vd⟩
    cases n <;> exact q
theorem Pl.vn.vd {p : Pl} (h : p.vn xs) : p.vd := by
  cases p with
  | set x e => exact ⟨h.1.1, h.2.vd⟩
  | unset x => exact h.1
  | tell e => exact Ex.vn.vd (n := 3) h
  | say w => exact h
  | stop w => exact h
theorem VnB.vd : ∀ (n : Nat) (b : List Sm), VnB xs n b → VdB n b := by
  intro n
  induction n with
  | zero => exact fun b h => h
  | succ n ih =>
    intro b h s hs
    have hv : Sm.vn xs n s := h s hs
    cases s with
    | pl p =>
      have q := hv.pl.vd
      cases n <;> exact q
    | ifs t y z =>
      have q : t.vd 2 ∧ VdB n y ∧ VdB n z := ⟨hv.ifs.1.vd, ih _ hv.ifs.2.1, ih _ hv.ifs.2.2⟩
      cases n <;> exact q
    | rep k b =>
      have q : 0 ≤ k ∧ k ≤ 8 ∧ VdB n b := ⟨hv.rep.1, hv.rep.2.1, ih _ hv.rep.2.2⟩
      cases n <;> exact q
theorem VnB.succ : ∀ (n : Nat) (b : List Sm), VnB xs n b → VnB xs (n + 1) b := by
  intro n
  induction n with
  | zero =>
    intro b h
    obtain rfl : b = [] := h
    exact VnB.nil
  | succ n ih =>
    intro b h s hs
    have hv : Sm.vn xs n s := h s hs
    cases s with
    | pl p => exact Sm.vn_pl hv.pl
    | ifs t y z => exact Sm.vn_ifs ⟨hv.ifs.1, ih _ hv.ifs.2.1, ih _ hv.ifs.2.2⟩
    | rep k b => exact Sm.vn_rep ⟨hv.rep.1, hv.rep.2.1, ih _ hv.rep.2.2⟩
theorem mkMinus_vn {n : Nat} {a b : Ex} (ha : a.vn xs n) (hb : b.vn xs n) : (mkMinus a b).vn xs (n + 1) := by
  cases b with
  | int j =>
    cases n with
    | zero => exact hb.elim
    | succ n =>
      refine ⟨?_, .inr ⟨.inl rfl, ha⟩⟩
      obtain ⟨h1, h2⟩ := hb
      exact ⟨by omega, by omega⟩
  | name x => exact ⟨hb, .inr ⟨.inr rfl, ha⟩⟩
  | bin o c d =>
    unfold mkMinus
    dsimp only
    by_cases ho : o = "times"
    · rw [if_pos ho]
      cases n with
      | zero => exact hb.elim
      | succ n =>
        obtain ⟨hd, h⟩ := hb
        rcases h with ⟨_, i, rfl, h1, h2⟩ | ⟨h, _⟩
        · exact ⟨⟨hd, .inl ⟨rfl, 0 - i, rfl, by omega, by omega⟩⟩, .inr ⟨.inl rfl, ha⟩⟩
        · rw [ho] at h
          rcases h with h | h <;> exact absurd h (by decide +kernel)
    · rw [if_neg ho]
      exact ⟨hb, .inr ⟨.inr rfl, ha⟩⟩
variable (hsw : ∀ x, InN xs x → InN xs (sw x))
include hsw
theorem Ex.ot_vn : ∀ {n : Nat} {e : Ex}, e.vn xs n → (e.ot sw g).vn xs n
  | 0, _, h => h.elim
  | _ + 1, .int _, h => h
  | _ + 1, .name x, h => hsw x h
  | n + 1, .bin o a b, h => by
    obtain ⟨hb, h⟩ := h
    have qb := Ex.ot_vn hb
    rw [Ex.ot]
    by_cases ho : o = "times"
    · rw [if_pos ho]
      rcases h with h | ⟨h, _⟩
      · exact ⟨qb, .inl h⟩
      · rw [ho] at h
        rcases h with h | h <;> exact absurd h (by decide +kernel)
    · rw [if_neg ho]
      rcases h with h | ⟨h, ha⟩
      · exact absurd h.1 ho
      · have qa := Ex.ot_vn ha
        by_cases hm : o = "minus" ∧ g = true
        · rw [if_pos hm]
          exact mkMinus_vn qa qb
        · rw [if_neg hm]
          exact ⟨qb, .inr ⟨h, qa⟩⟩
theorem Ts.ot_vn : ∀ {n : Nat} {t : Ts}, t.vn xs n → (t.ot sw g).vn xs n
  | n + 1, .not t, h => Ts.ot_vn (n := n) (t := t) h
  | n, .given x, h => by have := hsw x h.parts1; cases n <;> exact this
  | n, .rest e b r, h => by
    have q : (e.ot sw g).vn xs 3 ∧ 2 ≤ b ∧ b ≤ 6 ∧ 0 ≤ r ∧ r ≤ b - 1 := ⟨Ex.ot_vn hsw h.parts.1, h.parts.2⟩
    cases n <;> exact q
  | n, .less a b, h => by
    have q : (a.ot sw g).vn xs 3 ∧ (b.ot sw g).vn xs 3 := ⟨Ex.ot_vn hsw h.parts2.1, Ex.ot_vn hsw h.parts2.2⟩
    cases n <;> exact q
theorem Pl.ot_vn {p : Pl} (h : p.vn xs) : (p.ot sw g).vn xs := by
  cases p with
  | set x e => exact ⟨hsw x h.1, Ex.ot_vn hsw h.2⟩
  | unset x => exact hsw x h
  | tell e => exact Ex.ot_vn (n := 3) hsw h
  | say w => exact h
  | stop w => exact h
theorem otIf_vn {n : Nat} {t : Ts} {y z : List Sm} (ht : t.vn xs 2) (hy : VnB xs n y) (hz : VnB xs n z) : Sm.vn xs n (otIf sw g t y z) := by
  unfold otIf
  cases g with
  | false => exact Sm.vn_ifs ⟨Ts.ot_vn hsw ht, hy, hz⟩
  | true =>
    rw [if_pos rfl]
    cases t with
    | not u => exact Sm.vn_ifs ⟨Ts.vn.succ (n := 1) (Ts.ot_vn (n := 1) (t := u) hsw ht), hz, hy⟩
    | given x => exact Sm.vn_ifs ⟨Ts.ot_vn (g := true) (n := 1) (t := .given x) hsw ht.parts1, hz, hy⟩
    | rest e b r => exact Sm.vn_ifs ⟨Ts.ot_vn (n := 1) (t := .rest e b r) hsw ht.parts, hz, hy⟩
    | less a b => exact Sm.vn_ifs ⟨Ts.ot_vn (n := 1) (t := .less a b) hsw ht.parts2, hz, hy⟩
omit hsw
theorem Sm.mem_ots {s' : Sm} : ∀ {b : List Sm}, s' ∈ Sm.ots sw g l b → ∃ s ∈ b, s' ∈ s.ot sw g l
  | [], h => by rw [Sm.ots] at h; cases h
  | s :: r, h => by
    rw [Sm.ots] at h
    rcases List.mem_append.mp h with h | h
    · exact ⟨s, List.mem_cons_self .., h⟩
    · obtain ⟨c, hc, q⟩ := Sm.mem_ots h
      exact ⟨c, List.mem_cons_of_mem _ hc, q⟩
include hsw
theorem Sm.ots_vn : ∀ (n : Nat) (b : List Sm), VnB xs n b → VnB xs n (Sm.ots sw g l b) := by
  intro n
  induction n with
  | zero =>
    intro b h
    obtain rfl : b = [] := h
    rw [Sm.ots]
    exact VnB.nil
  | succ n ih =>
    intro b h s' hs'
    obtain ⟨s, hs, m⟩ := Sm.mem_ots hs'
    have hv : Sm.vn xs n s := h s hs
    cases s with
    | pl p =>
      rw [Sm.ot] at m
      obtain rfl := List.mem_singleton.mp m
      exact Sm.vn_pl (Pl.ot_vn hsw hv.pl)
    | ifs t y z =>
      rw [Sm.ot] at m
      obtain rfl := List.mem_singleton.mp m
      exact otIf_vn hsw hv.ifs.1 (ih _ hv.ifs.2.1) (ih _ hv.ifs.2.2)
    | rep k b =>
      rw [Sm.ot] at m
      have hb := ih _ hv.rep.2.2
      cases l with
      | false =>
        rw [if_neg (by decide)] at m
        obtain rfl := List.mem_singleton.mp m
        exact Sm.vn_rep ⟨hv.rep.1, hv.rep.2.1, hb⟩
      | true =>
        rw [if_pos rfl] at m
        obtain ⟨ll, hl, m⟩ := List.mem_flatten.mp m
        obtain rfl := (List.mem_replicate.mp hl).2
        exact VnB.succ n _ hb s' m
omit hsw
theorem otIf_size (t : Ts) (y z : List Sm) : (otIf sw g t y z).size = 1 + Sm.sizes y + Sm.sizes z := by
  unfold otIf
  cases g with
  | false => rw [if_neg (by decide), Sm.size]
  | true =>
    rw [if_pos rfl]
    cases t <;> (dsimp only; rw [Sm.size]; omega)
theorem otIf_wt (t : Ts) (y z : List Sm) : (otIf sw g t y z).wt = 1 + (Sm.wts y + Sm.wts z) := by
  unfold otIf
  cases g with
  | false => rw [if_neg (by decide), Sm.wt]
  | true =>
    rw [if_pos rfl]
    cases t <;> (dsimp only; rw [Sm.wt]; omega)
theorem Sm.sizes_rep (b : List Sm) : ∀ k : Nat, Sm.sizes (List.replicate k b).flatten = Sm.sizes b * k
  | 0 => by rw [List.replicate_zero, List.flatten_nil, Sm.sizes, Nat.mul_zero]
  | k + 1 => by rw [List.replicate_succ, List.flatten_cons, Sm.sizes_app, Sm.sizes_rep b k, Nat.mul_succ, Nat.add_comm]
theorem Sm.wts_rep (b : List Sm) : ∀ k : Nat, Sm.wts (List.replicate k b).flatten = Sm.wts b * k
  | 0 => by rw [List.replicate_zero, List.flatten_nil, Sm.wts, Nat.mul_zero]
  | k + 1 => by rw [List.replicate_succ, List.flatten_cons, Sm.wts_app, Sm.wts_rep b k, Nat.mul_succ, Nat.add_comm]
theorem Sm.sizes1 (s : Sm) : Sm.sizes [s] = s.size := by rw [Sm.sizes, Sm.sizes, Nat.add_zero]
theorem Sm.wts1 (s : Sm) : Sm.wts [s] = s.wt := by rw [Sm.wts, Sm.wts, Nat.add_zero]
mutual
theorem Sm.ot_size0 : ∀ s : Sm, Sm.sizes (s.ot sw g false) = s.size
  | .pl p => by rw [Sm.ot, Sm.sizes1, Sm.size, Sm.size]
  | .ifs t y z => by rw [Sm.ot, Sm.sizes1, otIf_size, Sm.size, Sm.ots_size0 y, Sm.ots_size0 z]
  | .rep k b => by rw [Sm.ot, if_neg (by decide), Sm.sizes1, Sm.size, Sm.size, Sm.ots_size0 b]
theorem Sm.ots_size0 : ∀ b : List Sm, Sm.sizes (Sm.ots sw g false b) = Sm.sizes b
  | [] => by rw [Sm.ots]
  | s :: r => by rw [Sm.ots, Sm.sizes_app, Sm.sizes, Sm.ot_size0 s, Sm.ots_size0 r]
end
mutual
theorem Sm.ot_size1 : ∀ s : Sm, Sm.sizes (s.ot sw g true) ≤ s.wt
  | .pl p => by rw [Sm.ot, Sm.sizes1, Sm.size, Sm.wt]; exact Nat.le_refl _
  | .ifs t y z => by
    have h1 := Sm.ots_size1 y
    have h2 := Sm.ots_size1 z
    rw [Sm.ot, Sm.sizes1, otIf_size, Sm.wt]
    omega
  | .rep k b => by
    have h1 := Nat.mul_le_mul_right k.toNat (Sm.ots_size1 b)
    rw [Sm.ot, if_pos rfl, Sm.sizes_rep, Sm.wt]
    omega
theorem Sm.ots_size1 : ∀ b : List Sm, Sm.sizes (Sm.ots sw g true b) ≤ Sm.wts b
  | [] => by rw [Sm.ots, Sm.sizes]; omega
  | s :: r => by
    have h1 := Sm.ot_size1 s
    have h2 := Sm.ots_size1 r
    rw [Sm.ots, Sm.sizes_app, Sm.wts]
    omega
end
mutual
theorem Sm.ot_wts : ∀ s : Sm, Sm.wts (s.ot sw g l) ≤ s.wt
  | .pl p => by rw [Sm.ot, Sm.wts1, Sm.wt, Sm.wt]; exact Nat.le_refl _
  | .ifs t y z => by
    have h1 := Sm.ots_wts y
    have h2 := Sm.ots_wts z
    rw [Sm.ot, Sm.wts1, otIf_wt, Sm.wt]
    omega
  | .rep k b => by
    have h1 := Nat.mul_le_mul_right k.toNat (Sm.ots_wts b)
    rw [Sm.ot, Sm.wt]
    cases l with
    | true =>
      rw [if_pos rfl, Sm.wts_rep]
      omega
    | false =>
      rw [if_neg (by decide), Sm.wts1, Sm.wt]
      omega
theorem Sm.ots_wts : ∀ b : List Sm, Sm.wts (Sm.ots sw g l b) ≤ Sm.wts b
  | [] => by rw [Sm.ots]; exact Nat.le_refl _
  | s :: r => by
    have h1 := Sm.ot_wts s
    have h2 := Sm.ots_wts r
    rw [Sm.ots, Sm.wts_app, Sm.wts]
    omega
end
theorem Ex.ot_id : ∀ e : Ex, e.ot id false = e
  | .int i => rfl
  | .name x => rfl
  | .bin o a b => by
    rw [Ex.ot, Ex.ot_id a, Ex.ot_id b]
    split
    · rfl
    · rw [if_neg (by simp)]
theorem Ts.ot_id : ∀ t : Ts, t.ot id false = t
  | .not t => by rw [Ts.ot, Ts.ot_id t]
  | .given x => rfl
  | .rest e b r => by rw [Ts.ot, Ex.ot_id]
  | .less a b => by rw [Ts.ot, Ex.ot_id, Ex.ot_id]
theorem Pl.ot_id : ∀ p : Pl, p.ot id false = p
  | .set x e => by rw [Pl.ot, Ex.ot_id]; rfl
  | .unset x => rfl
  | .tell e => by rw [Pl.ot, Ex.ot_id]
  | .say w => rfl
  | .stop w => rfl
mutual
theorem Sm.ot_id : ∀ s : Sm, s.ot id false false = [s]
  | .pl p => by rw [Sm.ot, Pl.ot_id]
  | .ifs t y z => by
    rw [Sm.ot, Sm.ots_id y, Sm.ots_id z]
    unfold otIf
    rw [if_neg (by decide), Ts.ot_id]
  | .rep k b => by rw [Sm.ot, Sm.ots_id b, if_neg (by decide)]
theorem Sm.ots_id : ∀ b : List Sm, Sm.ots id false false b = b
  | [] => by rw [Sm.ots]
  | s :: r => by rw [Sm.ots, Sm.ot_id s, Sm.ots_id r]; rfl
end
theorem Swp.id : Swp xs id := ⟨fun _ _ _ _ h => h⟩
theorem Sm.goL_place {b : List Sm} {p p' : Int} {st st' : Rs} (h : Sm.nins xs b) (m : Iso xs id st st') : Alike xs id (Sm.goL [] p b st) (Sm.goL [] p' b st') := by
  have q := Sm.goL_iso (g := false) (l := false) Swp.id b p p' st st' h m
  rw [Sm.ots_id] at q
  exact q
def moreS : List Sm := [.pl (.unset "spare1"), .rep 0 [.pl (.stop "x")], .rep 3 [], .ifs (.given "spare1") [] [], .ifs (.less (.int 1) (.int 0)) [.pl (.say "x")] []]
theorem Iso.rfl' {st : Rs} : Iso xs id st st := ⟨fun _ _ => rfl, rfl, rfl⟩
theorem more_go (hx : ("spare1" : Str) ∉ xs) {m : Sm} (hm : m ∈ moreS) (p : Int) (st : Rs) : ∃ st', Sm.go [] p m st = (none, st') ∧ Iso xs id st st' := by
  unfold moreS at hm
  simp only [List.mem_cons, List.not_mem_nil, or_false] at hm
  rcases hm with rfl | rfl | rfl | rfl | rfl
  · refine ⟨{ st with env := setE st.env "spare1" none }, by rw [Sm.go]; rfl, ⟨fun x m => ?_, rfl, rfl⟩⟩
    show setE st.env "spare1" none x = st.env x
    unfold setE
    rw [if_neg (fun e => hx (by rw [← e]; exact m))]
  · exact ⟨st, by rw [Sm.go]; rfl, Iso.rfl'⟩
  · refine ⟨st, ?_, Iso.rfl'⟩
    rw [Sm.go]
    show iterS (fun s => Sm.goL [] (p + 1) [] s) 3 st = (none, st)
    simp only [iterS, Sm.goL]
  · refine ⟨st, ?_, Iso.rfl'⟩
    rw [Sm.go, Ts.tr]
    cases (st.env "spare1").isSome <;> (dsimp only; rw [Sm.goL])
  · refine ⟨st, ?_, Iso.rfl'⟩
    rw [Sm.go, Ts.tr]
    have e : ((Ts.less (.int 1) (.int 0)).tr [] p st) = (some false, st) := rfl
    rw [Ts.tr] at e
    rw [e]
    dsimp only
    rw [Sm.goL]
theorem more_vd {m : Sm} (hm : m ∈ moreS) : m.vd 3 ∧ m.size ≤ 2 ∧ m.wt ≤ 2 := by
  have n1 : isNameS "spare1" = true := by decide +kernel
  have w1 : isWordS "x" = true := by decide +kernel
  unfold moreS at hm
  simp only [List.mem_cons, List.not_mem_nil, or_false] at hm
  rcases hm with rfl | rfl | rfl | rfl | rfl
  · exact ⟨n1, by decide, by decide⟩
  · exact ⟨⟨by decide, by decide, fun s hs => by rw [List.mem_singleton.mp hs]; exact w1⟩, by decide, by decide⟩
  · refine ⟨⟨by decide, by decide, fun s hs => ?_⟩, by decide, by decide⟩
    exact absurd hs (List.not_mem_nil)
  · refine ⟨⟨n1, fun s hs => ?_, fun s hs => ?_⟩, by decide, by decide⟩ <;> exact absurd hs (List.not_mem_nil)
  · exact ⟨⟨⟨⟨by decide, by decide⟩, by decide, by decide⟩, fun s hs => by rw [List.mem_singleton.mp hs]; exact w1, fun s hs => absurd hs List.not_mem_nil⟩, by decide, by decide⟩
def setNN : Sm := .pl (.set "n" (.name "n"))
def moreL (f i : Nat) (m : Sm) (b : List Sm) : List Sm := List.replicate f setNN ++ b.take i ++ [m] ++ b.drop i
theorem setNN_go (n p : Int) : Sm.go [] p setNN (st0 n) = (none, st0 n) := by
  unfold setNN
  rw [Sm.go]
  show (none, ({ st0 n with env := setE (st0 n).env "n" (some ⟨n, []⟩) } : Rs)) = (none, st0 n)
  have e : setE (st0 n).env "n" (some ⟨n, []⟩) = (st0 n).env := by
    funext y
    unfold setE st0
    dsimp only
    split <;> rfl
  rw [e]
theorem setNN_goL (n : Int) : ∀ (f : Nat) (p : Int), Sm.goL [] p (List.replicate f setNN) (st0 n) = (none, st0 n)
  | 0, p => by rw [List.replicate_zero, Sm.goL]
  | f + 1, p => by
    rw [List.replicate_succ, Sm.goL, setNN_go]
    dsimp only
    exact setNN_goL n f _
theorem Sm.nins_app : ∀ {a b : List Sm}, Sm.nins xs (a ++ b) → Sm.nins xs a ∧ Sm.nins xs b
  | [], b, h => ⟨by rw [Sm.nins]; trivial, h⟩
  | s :: r, b, h => by
    rw [List.cons_append, Sm.nins] at h
    rw [Sm.nins]
    exact ⟨⟨h.1, (Sm.nins_app h.2).1⟩, (Sm.nins_app h.2).2⟩
theorem more_alike (hx : ("spare1" : Str) ∉ xs) {m : Sm} (hm : m ∈ moreS) (f i : Nat) {b : List Sm} (hb : Sm.nins xs b) (n : Int) :
    Alike xs id (Sm.goL [] 0 b (st0 n)) (Sm.goL [] 0 (moreL f i m b) (st0 n)) := by
  unfold moreL
  rw [List.append_assoc, List.append_assoc, Sm.goL_apps, setNN_goL]
  dsimp only
  have hsp := hb
  rw [← List.take_append_drop i b] at hsp
  obtain ⟨h1, h2⟩ := Sm.nins_app hsp
  generalize hA : b.take i = A at h1 ⊢
  generalize hB : b.drop i = B at h2 ⊢
  have hab : b = A ++ B := by rw [← hA, ← hB, List.take_append_drop]
  rw [hab, Sm.goL_apps, Sm.goL_apps]
  obtain ⟨q1, q2⟩ := Sm.goL_place (xs := xs) (p := 0) (p' := 0 + ((Sm.sizes (List.replicate f setNN) : Nat) : Int)) h1 (Iso.rfl' (st := st0 n))
  cases e : Sm.goL [] 0 A (st0 n) with
  | mk o s =>
    cases e' : Sm.goL [] (0 + ((Sm.sizes (List.replicate f setNN) : Nat) : Int)) A (st0 n) with
    | mk o' s' =>
      rw [e, e'] at q1 q2
      dsimp only at q1 q2
      subst q1
      cases o' with
      | some w => exact ⟨rfl, q2⟩
      | none =>
        dsimp only
        rw [List.cons_append, List.nil_append, Sm.goL]
        obtain ⟨s2, g1, g2⟩ := more_go hx hm (0 + ((Sm.sizes (List.replicate f setNN) : Nat) : Int) + ((Sm.sizes A : Nat) : Int)) s'
        rw [g1]
        dsimp only
        exact Sm.goL_place h2 ⟨fun x m => (g2.env x m).trans (q2.env x m), g2.said.trans q2.said, g2.made.trans q2.made⟩
theorem smD_alike {a b : List Sm} {n : Int} (h : Alike xs sw (Sm.goL [] 0 a (st0 n)) (Sm.goL [] 0 b (st0 n))) : smD [] n b = smD [] n a := by
  unfold smD runR
  obtain ⟨q1, q2⟩ := h
  rw [q1, q2.said, q2.made]
theorem smD_more (hx : ("spare1" : Str) ∉ xs) {m : Sm} (hm : m ∈ moreS) (f i : Nat) {b : List Sm} (hb : Sm.nins xs b) (n : Int) : smD [] n (moreL f i m b) = smD [] n b :=
  smD_alike (more_alike hx hm f i hb n)
theorem smD_ots (hs : Swp xs sw) (hn : sw "n" = "n") (hnx : ("n" : Str) ∈ xs) {b : List Sm} (hb : Sm.nins xs b) (n : Int) : smD [] n (Sm.ots sw g l b) = smD [] n b := by
  refine smD_alike (Sm.goL_iso hs b 0 0 _ _ hb ⟨fun x hx => ?_, rfl, rfl⟩)
  unfold st0
  dsimp only
  by_cases e : x = "n"
  · rw [e, hn]
  · rw [if_neg e, if_neg (fun z => e (hs.inj x hx _ hnx (z.trans hn.symm)))]
theorem moreL_vd {m : Sm} (hm : m ∈ moreS) {f i : Nat} {b : List Sm} (hb : VdB 4 b) : VdB 4 (moreL f i m b) := by
  intro s hs
  unfold moreL at hs
  simp only [List.mem_append, List.mem_singleton] at hs
  rcases hs with ((hs | hs) | hs) | hs
  · obtain rfl := (List.mem_replicate.mp hs).2
    have n1 : isNameS "n" = true := by decide +kernel
    exact ⟨n1, n1⟩
  · exact hb s (List.mem_of_mem_take hs)
  · rw [hs]; exact (more_vd hm).1
  · exact hb s (List.mem_of_mem_drop hs)
theorem moreL_sizes {m : Sm} (hm : m ∈ moreS) {f i : Nat} {b : List Sm} (hf : f ≤ 1) : Sm.sizes (moreL f i m b) ≤ Sm.sizes b + 3 := by
  have e : Sm.sizes (b.take i) + Sm.sizes (b.drop i) = Sm.sizes b := by rw [← Sm.sizes_app, List.take_append_drop]
  have h1 := (more_vd hm).2.1
  have h2 : Sm.sizes (List.replicate f setNN) ≤ 1 := by
    rcases (by omega : f = 0 ∨ f = 1) with rfl | rfl <;> decide
  unfold moreL
  rw [Sm.sizes_app, Sm.sizes_app, Sm.sizes_app, Sm.sizes1]
  omega
theorem moreL_wts {m : Sm} (hm : m ∈ moreS) {f i : Nat} {b : List Sm} (hf : f ≤ 1) : Sm.wts (moreL f i m b) ≤ Sm.wts b + 3 := by
  have e : Sm.wts (b.take i) + Sm.wts (b.drop i) = Sm.wts b := by rw [← Sm.wts_app, List.take_append_drop]
  have h1 := (more_vd hm).2.2
  have h2 : Sm.wts (List.replicate f setNN) ≤ 1 := by
    rcases (by omega : f = 0 ∨ f = 1) with rfl | rfl <;> decide
  unfold moreL
  rw [Sm.wts_app, Sm.wts_app, Sm.wts_app, Sm.wts1]
  omega
end
end Aw
namespace Aw
open PySem PySem.Spec PyProof.Rows L2 HT
theorem zip_len0 : typeLookup (.type "zip") "__len__" = pure none := am_miss_of_fast (by decide +kernel)
theorem zip_hint0 : typeLookup (.type "zip") "__length_hint__" = pure none := am_miss_of_fast (by decide +kernel)
/-- a zip amid its run; I: the place of its first iterator -/
structure Zrun (h : Heap) (I l1 l2 : Nat) (xs ys : Array Value) (i : Nat) : Prop where
  pair : IsPair h (I + 2) (.ref I) (.ref (I + 1))
  it1 : h.IsListIter I l1 i
  it2 : h.IsListIter (I + 1) l2 i
  ls1 : h.IsList l1 xs
  ls2 : h.IsList l2 ys
  out : (i = 0 ∧ IsZip h (I + 4) (I + 2) (I + 3) .none ∧ ∃ a b, IsPair h (I + 3) a b) ∨ ∃ T f oT, IsZipHeld h (I + 4) (I + 2) (I + 3) T f ∧ h.get? T = some oT ∧ I + 5 < T
/-- the pairs that it gave -/
structure Zout (h : Heap) (I : Nat) (xs ys : Array Value) (as : List Addr) (i : Nat) : Prop where
  len : as.length = i
  rise : as.Pairwise (· < ·)
  low : ∀ a ∈ as, I + 5 < a
  pairs : ∀ (j : Nat) (a : Addr), as[j]? = some a → ∃ x y, xs[j]? = some x ∧ ys[j]? = some y ∧ IsPair h a x y
theorem Zout.at' {h h' : Heap} {I : Nat} {xs ys : Array Value} {as : List Addr} {i : Nat} (z : Zout h I xs ys as i) (k : ∀ (c : Nat) o, I + 5 < c → h.get? c = some o → h'.get? c = some o) : Zout h' I xs ys as i :=
  ⟨z.len, z.rise, z.low, fun j a e => let ⟨x, y, h1, h2, h3⟩ := z.pairs j a e; ⟨x, y, h1, h2, k _ _ (z.low a (List.mem_of_getElem? e)) h3⟩⟩
theorem Zout.snoc {h : Heap} {I : Nat} {a : Addr} {xs ys : Array Value} {as : List Addr} {i : Nat} {x y : Value} (z : Zout h I xs ys as i) (hb : ∀ b ∈ as, b < a) (ha : I + 5 < a) (e1 : xs[i]? = some x) (e2 : ys[i]? = some y) (e3 : IsPair h a x y) : Zout h I xs ys (as ++ [a]) (i + 1) := by
  refine ⟨by rw [List.length_append, z.len]; rfl, List.pairwise_append.mpr ⟨z.rise, List.pairwise_singleton _ _, fun b hbm c hc => by rw [List.mem_singleton.mp hc]; exact hb b hbm⟩, fun b hbm => ?_, fun j b e => ?_⟩
  · rcases List.mem_append.mp hbm with q | q
    · exact z.low b q
    · rw [List.mem_singleton.mp q]
      exact ha
  · rcases Nat.lt_or_ge j as.length with q | q
    · rw [List.getElem?_append_left q] at e
      exact z.pairs j b e
    · rw [List.getElem?_append_right q] at e
      have hj : j = i := by
        have := (List.getElem?_eq_some_iff.mp e).1
        rw [List.length_singleton] at this
        have := z.len
        omega
      have hz : j - as.length = 0 := by have := z.len; omega
      rw [hz] at e
      cases e
      rw [hj]
      exact ⟨x, y, e1, e2, e3⟩
section
variable {prog : Program} {w : World} {A : Around} {E : Value → Shared → Prop} {R : Result → Shared → Prop} {I l1 l2 : Nat} {xs ys : Array Value} {s : Shared}
theorem Zrun.at' {h h' : Heap} {i : Nat} (z : Zrun h I l1 l2 xs ys i) (b1 : l1 < I) (b2 : l2 < I) (k : ∀ (c : Nat) o, c ≠ I + 5 → h.get? c = some o → h'.get? c = some o) : Zrun h' I l1 l2 xs ys i := by
  have n : ∀ {c : Nat}, c < I + 5 → c ≠ I + 5 := fun q => Nat.ne_of_lt q
  refine ⟨k _ _ (n (by omega)) z.pair, z.it1.at fun o e => k _ o (n (by omega)) e, z.it2.at fun o e => k _ o (n (by omega)) e, z.ls1.at fun o e => k _ o (n (by omega)) e, z.ls2.at fun o e => k _ o (n (by omega)) e, ?_⟩
  rcases z.out with ⟨h0, h1, a, b, h2⟩ | ⟨T, f, oT, h1, h2, h3⟩
  · exact .inl ⟨h0, k _ _ (n (by omega)) h1, a, b, k _ _ (n (by omega)) h2⟩
  · exact .inr ⟨T, f, oT, k _ _ (n (by omega)) h1, k _ _ (Nat.ne_of_gt h3) h2, h3⟩
theorem Zrun.next {i : Nat} {Q : Option Value → Shared → Prop} (z : Zrun s.heap I l1 l2 xs ys i) (b1 : l1 < I) (b2 : l2 < I) (hsz : I + 5 < s.heap.objs.size) {x y : Value} (hx : xs[i]? = some x) (hy : ys[i]? = some y)
    (hQ : ∀ h', Zrun h' I l1 l2 xs ys (i + 1) → IsPair h' s.heap.objs.size x y → h'.objs.size = s.heap.objs.size + 1 → (∀ (c : Nat) o, (c < I ∨ I + 4 < c) → s.heap.get? c = some o → h'.get? c = some o) → Q (some (.ref s.heap.objs.size)) { s with heap := h' }) :
    wpAny (model prog w) A (pyNext (.ref (I + 4))) Q E s := by
  have D := PySem.W.ktu_apart I l1 l2 b1 b2
  have off : ∀ {c : Nat}, (c < I ∨ I + 4 < c) → c ≠ I + 4 ∧ c ≠ I + 3 ∧ c ≠ I ∧ c ≠ I + 1 := fun q => by omega
  rcases z.out with ⟨h0, h1, a, b, h2⟩ | ⟨T, f, oT, h1, h2, h3⟩
  · refine wpAny_pyNext_zip_item D h1 z.pair h2 z.it1 z.it2 z.ls1 z.ls2 hx hy fun h' g1 g2 g3 g4 g5 g6 gk => ?_
    have kk : ∀ (c : Nat) o, (c < I ∨ I + 4 < c) → s.heap.get? c = some o → h'.get? c = some o := fun c o q => let ⟨n1, n2, n3, n4⟩ := off q; gk c o n1 n2 n3 n4
    refine hQ h' ⟨gk _ _ D.TIz D.TITO D.TIi1 D.TIi2 z.pair, g3, g4, z.ls1.at fun o => kk _ o (.inl b1), z.ls2.at fun o => kk _ o (.inl b2), .inr ⟨_, false, _, g1, g5, hsz⟩⟩ g5 g6 kk
  · refine wpAny_pyNext_zip_item_held D h1 h2 z.pair z.it1 z.it2 z.ls1 z.ls2 hx hy fun h' g1 g3 g4 g5 g6 gk => ?_
    have kk : ∀ (c : Nat) o, (c < I ∨ I + 4 < c) → s.heap.get? c = some o → h'.get? c = some o := fun c o q => let ⟨n1, n2, n3, n4⟩ := off q; gk c o n1 n3 n4
    refine hQ h' ⟨gk _ _ D.TIz D.TIi1 D.TIi2 z.pair, g3, g4, z.ls1.at fun o => kk _ o (.inl b1), z.ls2.at fun o => kk _ o (.inl b2), .inr ⟨T, true, _, g1, kk _ _ (.inr (by omega)) h2, h3⟩⟩ g5 g6 kk
theorem Zrun.done {i : Nat} {Q : Option Value → Shared → Prop} (z : Zrun s.heap I l1 l2 xs ys i) (hh : A.handled = none) (b1 : l1 < I) (b2 : l2 < I) (hx : xs[i]? = none)
    (hQ : ∀ h', (∀ (c : Nat) o, (c < I ∨ I + 4 < c) → s.heap.get? c = some o → h'.get? c = some o) → Q none { s with heap := h' }) :
    wpAny (model prog w) A (pyNext (.ref (I + 4))) Q E s := by
  have D := PySem.W.ktu_apart I l1 l2 b1 b2
  have off : ∀ {c : Nat}, (c < I ∨ I + 4 < c) → c ≠ I + 4 ∧ c ≠ I + 3 ∧ c ≠ I ∧ c ≠ I + 1 := fun q => by omega
  rcases z.out with ⟨h0, h1, a, b, h2⟩ | ⟨T, f, oT, h1, h2, h3⟩
  · refine wpAny_pyNext_zip_end hh D h1 z.pair h2 z.it1 z.it2 z.ls1 z.ls2 (.inl hx) fun h' gk => hQ h' fun c o q => let ⟨n1, n2, n3, n4⟩ := off q; gk c o n1 n2 n3 n4
  · refine wpAny_pyNext_zip_end_held hh D h1 h2 z.pair z.it1 z.it2 z.ls1 z.ls2 (.inl hx) fun h' gk => hQ h' fun c o q => let ⟨n1, n2, n3, n4⟩ := off q; gk c o n1 n3 n4
/-- the list's loop over the zip -/
theorem zip_drain (b1 : l1 < I) (b2 : l2 < I) (hn : xs.size = ys.size) (hz : xs.size ≤ sizeLine) (hh : A.handled = none) (res : Value) :
    ∀ (k i : Nat) (s : Shared) (as : List Addr) (c : Nat), xs.size - i = k → i ≤ xs.size → Zrun s.heap I l1 l2 xs ys i → s.heap.get? (I + 5) = some { cls := .type "list", dict := none, data := .seq (as.map Value.ref).toArray c, slots := #[] } →
      Zout s.heap I xs ys as i → (∀ a ∈ as, a < s.heap.objs.size) →
      (∀ h' as' c', (∀ (b : Nat) o, b < I → s.heap.get? b = some o → h'.get? b = some o) → h'.get? (I + 5) = some { cls := .type "list", dict := none, data := .seq (as'.map Value.ref).toArray c', slots := #[] } → Zout h' I xs ys as' xs.size → R (.ok (.ret res)) { s with heap := h' }) →
      codeAny (model prog w) A (.builtin "list.extend.loop" ⟨[.ref (I + 5), .ref (I + 4), res], []⟩) R s := by
  intro k
  induction k with
  | zero =>
    intro i s as c hk hi zr hS zo hlt hR
    have ei : i = xs.size := by omega
    refine codeAny_builtin F.entry_extend_loop (Around.under_plainId F.plain_extend_loop _ ▸ ?_)
    show wpAny _ A.in1 (pyNext (.ref (I + 4)) >>= _) _ _ _
    refine wpAny_bind (zr.done (A := A.in1) hh b1 b2 (Array.getElem?_eq_none (by omega)) fun h' gk => wpAny_pure ?_)
    refine hR h' as c (fun b o q => gk b o (.inl q)) (gk _ _ (.inr (by omega)) hS) ?_
    rw [← ei]
    exact zo.at' fun b o q => gk b o (.inr (by omega))
  | succ k ih =>
    intro i s as c hk hi zr hS zo hlt hR
    have hix : i < xs.size := by omega
    have hiy : i < ys.size := by omega
    have hIs : I + 5 < s.heap.objs.size := Heap.lt_size hS
    refine codeAny_builtin F.entry_extend_loop (Around.under_plainId F.plain_extend_loop _ ▸ ?_)
    show wpAny _ A.in1 (pyNext (.ref (I + 4)) >>= _) _ _ _
    refine wpAny_bind (zr.next b1 b2 hIs (Array.getElem?_eq_getElem hix) (Array.getElem?_eq_getElem hiy) fun h' zr' hp hs' gk => ?_)
    have hS' := gk _ _ (.inr (by omega)) hS
    have zo' := (zo.at' fun b o q => gk b o (.inr (by omega))).snoc hlt hIs (Array.getElem?_eq_getElem hix) (Array.getElem?_eq_getElem hiy) hp
    show wpAny _ A.in1 (updateSeq (I + 5) (·.push (.ref s.heap.objs.size)) >>= _) _ _ _
    refine wpAny_bind (wpAny_updateSeq hS' rfl (wpAny_pure ⟨plainId_quiet F.plain_extend_loop _, ?_⟩) ?_ ?_)
    · have up : ∀ (b : Nat) o, b ≠ I + 5 → h'.get? b = some o → (h'.update (I + 5) (Obj.mapSeq (·.push (.ref s.heap.objs.size)))).get? b = some o := fun b o q e => (Heap.get?_update_other _ _ (Ne.symm q)).trans e
      have hS2 := Heap.get?_update_self (Obj.mapSeq (·.push (Value.ref s.heap.objs.size))) hS' rfl
      have hsz2 : (h'.update (I + 5) (Obj.mapSeq (·.push (.ref s.heap.objs.size)))).objs.size = s.heap.objs.size + 1 := by
        rw [← hs']
        exact (Heap.SameBut.update ..).1
      have e3 : (as.map Value.ref).toArray.push (.ref s.heap.objs.size) = ((as ++ [s.heap.objs.size]).map Value.ref).toArray := by
        rw [List.push_toArray, List.map_append]
        rfl
      refine ih (i + 1) _ (as ++ [s.heap.objs.size]) (if ((as.map Value.ref).toArray.push (.ref s.heap.objs.size)).size == (as.map Value.ref).toArray.size then c else c + 1) (by omega) hix (zr'.at' b1 b2 up) (hS2.trans ?_) (zo'.at' fun b o q => up b o (Nat.ne_of_gt q)) (fun a ha => ?_) fun h2 as2 c2 k2 e2 z2 => ?_
      · rw [← e3]
        rfl
      · show a < (h'.update (I + 5) (Obj.mapSeq (·.push (.ref s.heap.objs.size)))).objs.size
        rw [hsz2]
        rcases List.mem_append.mp ha with q | q
        · exact Nat.lt_succ_of_lt (hlt a q)
        · rw [List.mem_singleton.mp q]
          exact Nat.lt_succ_self _
      · exact hR h2 as2 c2 (fun b o q e => k2 b o q (up b o (by omega) (gk b o (.inl q) e))) e2 z2
    · rw [List.size_toArray, List.length_map, zo.len]
      omega
    · show ((as.map Value.ref).toArray.push _).size ≤ _
      rw [Array.size_push, List.size_toArray, List.length_map, zo.len]
      omega
/-- list(z) of a zip that has not begun -/
theorem zip_list {Q : Value → Shared → Prop} (b1 : l1 < I) (b2 : l2 < I) (hn : xs.size = ys.size) (hz : xs.size ≤ sizeLine) (hh : A.handled = none) (hI : s.heap.objs.size = I + 5) (zr : Zrun s.heap I l1 l2 xs ys 0) (zi : IsZip s.heap (I + 4) (I + 2) (I + 3) .none)
    (hQ : ∀ h' as c, (∀ (b : Nat) o, b < I → s.heap.get? b = some o → h'.get? b = some o) → h'.get? (I + 5) = some { cls := .type "list", dict := none, data := .seq (as.map Value.ref).toArray c, slots := #[] } → Zout h' I xs ys as xs.size → Q (.ref (I + 5)) { s with heap := h' }) :
    wpAny (model prog w) A (call (.type "list") [.ref (I + 4)]) Q E s := by
  refine callType_codes (Q₁ := fun o s1 => o = .ref (I + 5) ∧ s1 = { s with heap := s.heap.push { cls := .type "list", data := .seq #[] } }) F.called_list (F.typeCall_list_1 _) F.entry_list_init (code_list_new _ ⟨by rw [hI], rfl⟩) fun o s1 e => ?_
  obtain ⟨rfl, rfl⟩ := e
  have g0 : (s.heap.push { cls := .type "list", data := .seq #[] }).get? (I + 5) = some { cls := .type "list", data := .seq #[] } := by
    rw [← hI]
    exact Heap.get?_push_size _ rfl
  have k0 : ∀ (b : Nat) o, s.heap.get? b = some o → (s.heap.push { cls := .type "list", data := .seq #[] }).get? b = some o := fun b o e => Heap.get?_push_of_some _ e
  generalize s.heap.push { cls := .type "list", data := .seq #[] } = h0 at g0 k0
  refine ⟨⟨_, g0, rfl⟩, F.args_list_init_2 _ _, ?_⟩
  show wpAny _ A.in1.in1 (do let old ← Builtin.List.listItems (.ref (I + 5)); Builtin.List.listUpdate (.ref (I + 5)) (fun _ => #[]); letGo old.toList.reverse; Builtin.List.listExtendWith (.ref (I + 5)) (.ref (I + 4)) .none) _ _ _
  refine wpAny_bind ?_
  unfold Builtin.List.listItems
  refine wpAny_bind (wpAny_seqItems g0 rfl (wpAny_pure ?_))
  show wpAny _ _ (updateSeq (I + 5) (fun _ => #[]) >>= fun _ => letGo (#[] : Array Value).toList.reverse >>= fun _ => Builtin.List.listExtendWith (.ref (I + 5)) (.ref (I + 4)) .none) _ _ _
  refine wpAny_bind (wpAny_updateSeq g0 rfl (wpAny_bind (wpAny_letGo ?_)))
  have up : ∀ (h : Heap) (f : Obj → Obj) (b : Nat) o, b ≠ I + 5 → h.get? b = some o → (h.update (I + 5) f).get? b = some o := fun h f b o q e => (Heap.get?_update_other _ _ (Ne.symm q)).trans e
  have g1 := Heap.get?_update_self (Obj.mapSeq (fun _ => (#[] : Array Value))) g0 rfl
  have k1 := up h0 (Obj.mapSeq (fun _ => (#[] : Array Value)))
  generalize h0.update (I + 5) (Obj.mapSeq (fun _ => (#[] : Array Value))) = h1 at g1 k1
  have z1 : Zrun h1 I l1 l2 xs ys 0 := zr.at' b1 b2 fun c o q e => k1 c o q (k0 c o e)
  have y1 := k1 (I + 4) _ (by omega) (k0 (I + 4) _ zi)
  unfold Builtin.List.listExtendWith
  refine wpAny_bind (wpAny_typeOf (T := "zip") ⟨_, y1, rfl⟩ ?_)
  have n1 : Builtin.List.listSameRef (.ref (I + 5)) (.ref (I + 4)) = false := by simp [Builtin.List.listSameRef]
  rw [if_neg (by rw [n1]; decide)]
  refine wpAny_bind (wpAny_pyIter_zip y1 (wpAny_bind (wpAny_holding ?_)))
  unfold Builtin.List.listLengthHint
  refine wpAny_bind (wpAny_specialOf (T := "zip") ⟨_, y1, rfl⟩ zip_len0 ?_)
  show wpAny _ _ (specialOf (Value.ref (I + 4)) (Str.ofString "__length_hint__") >>= _) _ _ _
  refine wpAny_bind (wpAny_specialOf (T := "zip") ⟨_, y1, rfl⟩ zip_hint0 (wpAny_pure ?_))
  show wpAny _ _ (rule "list.extend.makes-room" >>= fun _ => Builtin.List.listTouch (.ref (I + 5)) >>= fun _ => again (.builtin "list.extend.loop" ⟨[.ref (I + 5), .ref (I + 4), .none], []⟩)) _ _ _
  refine wpAny_bind (wpAny_rule (wpAny_bind ?_))
  show wpAny _ _ (updateSeq (I + 5) (·.push .none) >>= fun _ => updateSeq (I + 5) (·.pop)) _ _ _
  refine wpAny_bind (wpAny_updateSeq g1 rfl ?_)
  have g2 := Heap.get?_update_self (Obj.mapSeq (·.push Value.none)) g1 rfl
  have k2 := up h1 (Obj.mapSeq (·.push Value.none))
  generalize h1.update (I + 5) (Obj.mapSeq (·.push Value.none)) = h2 at g2 k2
  refine wpAny_updateSeq (hz := by seq_fits) g2 rfl ?_
  have g3 := Heap.get?_update_self (Obj.mapSeq (·.pop)) g2 rfl
  have k3 := up h2 (Obj.mapSeq (·.pop))
  generalize h2.update (I + 5) (Obj.mapSeq (·.pop)) = h3 at g3 k3
  have z3 : Zrun h3 I l1 l2 xs ys 0 := z1.at' b1 b2 fun c o q e => k3 c o q (k2 c o q e)
  refine wpAny_pure ⟨plainId_quiet F.plain_extend_loop _, ?_⟩
  have g4 : h3.get? (I + 5) = some { cls := .type "list", dict := none, data := .seq (([] : List Addr).map Value.ref).toArray 2, slots := #[] } := g3.trans (by simp [Obj.mapSeq])
  refine zip_drain (A := A.in1) b1 b2 hn hz hh .none xs.size 0 { s with heap := h3 } [] 2 (by omega) (by omega) z3 g4 ⟨rfl, .nil, fun a ha => (List.not_mem_nil ha).elim, fun j a e => by cases e⟩ (fun a ha => (List.not_mem_nil ha).elim) fun h' as c kk e zo => ?_
  exact ⟨rfl, hQ h' as c (fun b o q e => kk b o q (k3 b o (by omega) (k2 b o (by omega) (k1 b o (by omega) (k0 b o e))))) e zo⟩
end
def rZipL (K : PySem.W.Frag) : List V → Hp → VK → Prop := fun vs H Q => ∃ (a b : Addr) (kvs : List (Key × V)), vs = [.ref a, .ref b] ∧ SqL K H a (kvs.map fun q => kV q.1) ∧ SqL K H b (kvs.map fun q => q.2) ∧
  ∀ (H' : Hp) (p : Addr) (ts : List Addr), (∀ b o, H b = some o → H' b = some o) → H p = none → (∀ t ∈ ts, H t = none) → p ∉ ts → H' p = some (.lst (ts.map V.ref)) → Paired (fun (t : Addr) (q : Key × V) => H' t = some (.tup [kV q.1, q.2])) ts kvs → Q (.ref p) H'
theorem laid_pairs {X : Cx} {pins : List (Addr × Obj)} {σ : L2.St} {H : Hp} {s : Shared} {h2 : Heap} {S c : Nat} {kvs : List (Key × V)} {as : List Addr} (I : Inv X pins σ H s) (hS : s.heap.objs.size ≤ S) (hz : kvs.length ≤ sizeLine) (hk : ∀ b o, s.heap.get? b = some o → h2.get? b = some o)
    (eS : h2.get? S = some { cls := .type "list", dict := none, data := .seq (as.map Value.ref).toArray c, slots := #[] }) (hl : as.length = kvs.length) (rise : as.Pairwise (· < ·)) (low : ∀ a ∈ as, S < a)
    (prs : ∀ (j : Nat) (a : Addr), as[j]? = some a → ∃ q x y, kvs[j]? = some q ∧ RelV (kV q.1) x ∧ RelV q.2 y ∧ IsPair h2 a x y) :
    ∃ H' : Hp, (∀ b o, H b = some o → H' b = some o) ∧ H S = none ∧ (∀ t ∈ as, H t = none) ∧ S ∉ as ∧ H' S = some (.lst (as.map V.ref)) ∧ Paired (fun (t : Addr) (q : Key × V) => H' t = some (.tup [kV q.1, q.2])) as kvs ∧ Inv X pins σ H' { s with heap := h2 } := by
  have lows : ∀ a ∈ as, s.heap.objs.size ≤ a := fun a ha => Nat.le_of_lt (Nat.lt_of_le_of_lt hS (low a ha))
  have no : S ∉ as := fun z => Nat.lt_irrefl _ (low S z)
  have nd : as.Nodup := rise.imp fun q => Nat.ne_of_lt q
  have f1 : ∀ t ∈ as, H t = none := fun t ht => I.hok.fresh (lows t ht)
  have f2 : H S = none := I.hok.fresh hS
  have at1 := LiI.putT_at as kvs (upd H S (.lst (as.map V.ref))) hl nd
  have at2 : LiI.putT (upd H S (.lst (as.map V.ref))) as kvs S = some (.lst (as.map V.ref)) := by rw [LiI.putT_off as kvs _ no, upd_same]
  have at3 : ∀ b, b ∉ as → b ≠ S → LiI.putT (upd H S (.lst (as.map V.ref))) as kvs b = H b := fun b n1 n2 => by rw [LiI.putT_off as kvs _ n1, upd_ne n2]
  generalize LiI.putT (upd H S (.lst (as.map V.ref))) as kvs = G at at1 at2 at3
  have old : ∀ b o, H b = some o → G b = some o := fun b o e => by
    refine (at3 b (fun z => ?_) fun z => ?_).trans e
    · rw [f1 b z] at e
      cases e
    · rw [z, f2] at e
      cases e
  have out : ∀ b o, s.heap.get? b = some o → b ∉ as ∧ b ≠ S := fun b o e => by
    have hb := Heap.lt_size e
    exact ⟨fun z => Nat.lt_irrefl _ (Nat.lt_of_lt_of_le hb (lows b z)), Nat.ne_of_lt (Nat.lt_of_lt_of_le hb hS)⟩
  refine ⟨G, old, f2, f1, no, at2, at1, ?_⟩
  refine I.call' (ch := []) rfl ⟨fun b o e _ _ _ => hk b o e, fun b o e _ _ _ => ⟨o.slots, hk b o e⟩, fun b o e n _ => ?_, fun b o e _ => ⟨o, hk b o e⟩, fun b _ e => old b _ e, fun b _ _ e => old b _ e, fun b _ e => ⟨#[], by rw [old b _ e]; simp⟩⟩ (fun b u e => ?_) I.bare fun b z => (List.not_mem_nil z).elim
  · rw [at3 b (out b o e).1 (out b o e).2]
    exact n
  · by_cases m : b ∈ as
    · obtain ⟨j, q, e1, e2, e3⟩ := LiI.paired_ix at1 m
      cases e3.symm.trans e
      obtain ⟨q', x, y, d1, d2, d3, d4⟩ := prs j b e1
      cases e2.symm.trans d1
      exact ⟨(by decide : 2 ≤ sizeLine), [x, y], .cons d2 (.cons d3 .nil), ⟨_, d4, rfl, _, rfl⟩⟩
    · by_cases m2 : b = S
      · subst m2
        cases at2.symm.trans e
        exact ⟨by rw [List.length_map, hl]; exact hz, as.map Value.ref, c, LiI.vals_refs as, eS⟩
      · rw [at3 b m m2] at e
        exact (I.hok b u e).stay (fun d o _ z => hk d o z) (fun d z => old d _ z) fun d us z => old d _ z
theorem vals_get : ∀ {vs : List V} {us : List Value}, Vals vs us → ∀ {j : Nat} {v : V} {u : Value}, vs[j]? = some v → us[j]? = some u → RelV v u
  | _, _, .nil, j, v, u, h, _ => by cases h
  | _, _, .cons r t, 0, v, u, h, h2 => by
    cases h
    cases h2
    exact r
  | _, _, .cons r t, j + 1, v, u, h, h2 => vals_get t h h2
theorem boot_list1 : bootBuiltins ("list" : Str) = some (.type "list") := by decide +kernel
theorem pe_listZip {X : Cx} {e1 e2 : Expr} {t : TA} {p q pos pos2 : Pos} (hc : X.calm = true) (hg : Gl X "list") (hm : X.mg "list" = none) (hgz : Gl X "zip") (hmz : X.mg "zip" = none) (ha : PA X [e1, e2] t)
    (hs : starEach [.Call (.Name "zip" q) [e1, e2] [] pos2] X.env = (false, eval (.Call (.Name "zip" q) [e1, e2] [] pos2) X.env) :: starEach [] X.env := by rfl)
    (hs2 : starEach [e1, e2] X.env = (false, eval e1 X.env) :: starEach [e2] X.env := by rfl) (hpl : (backTo pos2 (starEach [e2] X.env)).any (·.1) = false := by rfl) :
    PE X (.Call (.Name "list" p) [.Call (.Name "zip" q) [e1, e2] [] pos2] [] pos) (tCB (rZipL X.K) t) := by
  refine ⟨fun pins s σ H Q I hq => ?_⟩
  refine wpAny_Call_Name_kw (ld_blt I hg hm boot_list1 (PyProof.Rows.callWith_type1 ?_ hs rfl))
  rw [hs]
  show wpAny _ _ (spliced ((false, eval (.Call (.Name "zip" q) [e1, e2] [] pos2) X.env) :: backTo pos (starEach [] X.env))) _ _ s
  refine Calls.spliced_cons (Call_ (ld_blt I hgz hmz PyProof.Rows.boot_zip (PyProof.Rows.callWith_type1 (thn (ha.run pos2 pins s σ H _ I hq) fun us s1 ⟨vs, H1, I1, r1, q1⟩ => ?_) hs2 hpl)))
  obtain ⟨a, b, kvs, rfl, ta, tb, cont⟩ := q1
  obtain ⟨u1, u2, rfl, ra, rb⟩ : ∃ u1 u2, us = [u1, u2] ∧ u1 = .ref a ∧ u2 = .ref b := by
    cases r1 with
    | cons r rr =>
      cases rr with
      | cons r' rr =>
        cases rr
        exact ⟨_, _, rfl, r, r'⟩
  subst ra rb
  obtain ⟨ia, va, pa, za⟩ := I1.list ta
  obtain ⟨ib, vb, pb, zb⟩ := I1.list tb
  have la := va.length
  have lb := vb.length
  rw [List.length_map] at la lb za
  refine call_zip_2 pa.isList pb.isList fun h1 g1 g2 g3 g4 g5 g6 gk => ?_
  have I2 : Inv X pins σ H1 { s1 with heap := h1 } := I1.kept (t' := s1.toks) gk
  refine Calls.spliced_nil ?_
  refine zip_list (s := { s1 with heap := h1 }) (I := s1.heap.objs.size) (xs := ia.toArray) (ys := ib.toArray) pa.lt pb.lt (by rw [List.size_toArray, List.size_toArray]; omega) (by rw [List.size_toArray]; omega) (I1.ok.hd hc) g6
    ⟨g2, g4, g5, pa.isList.at fun o e => gk _ _ e, pb.isList.at fun o e => gk _ _ e, .inl ⟨rfl, g1, _, _, g3⟩⟩ g1 fun h2 as c kk e zo => ?_
  have kk' : ∀ (b : Addr) o, s1.heap.get? b = some o → h2.get? b = some o := fun b o z => kk b o (Heap.lt_size z) (gk b o z)
  have I3 : Inv X pins σ H1 { s1 with heap := h2 } := I1.kept (t' := s1.toks) kk'
  have hlen : as.length = kvs.length := by
    have q := zo.len
    rw [List.size_toArray] at q
    omega
  have prs : ∀ (j : Nat) (a : Addr), as[j]? = some a → ∃ q x y, kvs[j]? = some q ∧ RelV (kV q.1) x ∧ RelV q.2 y ∧ IsPair h2 a x y := fun j a ea => by
    obtain ⟨x, y, ex, ey, ep⟩ := zo.pairs j a ea
    have hj : j < kvs.length := by
      rw [← hlen]
      exact (List.getElem?_eq_some_iff.mp ea).1
    exact ⟨kvs[j], x, y, List.getElem?_eq_getElem hj, vals_get va (by rw [List.getElem?_map, List.getElem?_eq_getElem hj]; rfl) (by rw [← List.getElem?_toArray]; exact ex), vals_get vb (by rw [List.getElem?_map, List.getElem?_eq_getElem hj]; rfl) (by rw [← List.getElem?_toArray]; exact ey), ep⟩
  obtain ⟨H2, j1, j2, j3, j4, j5, j6, J⟩ := laid_pairs (S := s1.heap.objs.size + 5) I1 (Nat.le_add_right _ _) za kk' e hlen zo.rise zo.low prs
  exact ⟨.ref _, H2, J, rfl, cont H2 _ as j1 j2 j3 j4 j5 j6⟩
theorem tup_mul_same (l : Addr) (items : Array Value) (n : Nat) (dd : Option Addr) (sl : Array (Option Value)) (x : Int) (u : Tok) (c0 : (decide (x < -(2 ^ 63)) || decide (x ≥ 2 ^ 63)) = false) (c1 : (items.isEmpty || x == 1) = true) :
    Meets (Builtin.«tuple.__mul__» ⟨[.ref l, .int x u], []⟩) (fun _ R s => s.heap.get? l = some { cls := .type "tuple", dict := dd, data := .seq items n, slots := sl } ∧ R (.ok (.ret (Value.ref l))) s) :=
  .of_wp fun prog w A R s h => by
    obtain ⟨hp, g, d, tk, os⟩ := s
    obtain ⟨hl, h⟩ := h
    have f1 := AutoSeq1.idx_int
    wp_walk using wpAny_loadPart' hl
    repeat (first
      | (refine wpAny_ite_false (decide_eq_false (by rw [c0]; exact Bool.false_ne_true)) ?_; wp_walk using wpAny_loadPart' hl)
      | (refine wpAny_ite_true (decide_eq_true c1) ?_; wp_walk using wpAny_loadPart' hl))
    exact ⟨_, rfl, h⟩
theorem tup_mul_none (l : Addr) (items : Array Value) (n : Nat) (dd : Option Addr) (sl : Array (Option Value)) (x : Int) (u : Tok) (c0 : (decide (x < -(2 ^ 63)) || decide (x ≥ 2 ^ 63)) = false) (c1 : (items.isEmpty || x == 1) = false) (c2 : (decide (x ≤ 0) || items.isEmpty) = true) :
    Meets (Builtin.«tuple.__mul__» ⟨[.ref l, .int x u], []⟩) (fun _ R s => s.heap.get? l = some { cls := .type "tuple", dict := dd, data := .seq items n, slots := sl } ∧ R (.ok (.ret (Value.ref s.heap.objs.size))) { s with heap := s.heap.push { cls := Value.type "tuple", data := Data.seq #[] } }) :=
  .of_wp fun prog w A R s h => by
    obtain ⟨hp, g, d, tk, os⟩ := s
    obtain ⟨hl, h⟩ := h
    have f1 := AutoSeq1.idx_int
    wp_walk using wpAny_loadPart' hl
    repeat (first
      | (refine wpAny_ite_false (decide_eq_false (by rw [c0]; exact Bool.false_ne_true)) ?_; wp_walk using wpAny_loadPart' hl)
      | (refine wpAny_ite_false (decide_eq_false (by rw [c1]; exact Bool.false_ne_true)) ?_; wp_walk using wpAny_loadPart' hl)
      | (refine wpAny_ite_true (decide_eq_true c2) ?_; wp_walk using wpAny_loadPart' hl))
    exact ⟨_, rfl, h⟩
def rRepS (K : PySem.W.Frag) : R2 := fun x y H Q => ∃ (l : Addr) (k : Int) (xs : List V), x = .ref l ∧ y = .int k ∧ SqT K H l xs ∧ 0 ≤ k ∧ k ≤ 100 ∧ xs.length ≤ 100000 ∧ (xs = [] ∨ k = 1 → Q (.ref l) H) ∧
  (xs ≠ [] → k ≠ 1 → ∀ p, H p = none → Q (.ref p) (upd H p (.tup (List.replicate k.toNat xs).flatten)))
theorem op_repS {X : Cx} : OpR X (binaryOp .Mult) (rRepS X.K) := by
  intro pins s σ H x y v u Q I rx ry hh
  obtain ⟨l, k, xs, rfl, rfl, hT, k2, k3, hz, qa, qb⟩ := hh
  cases rx
  obtain ⟨tk, rfl⟩ := ry
  obtain ⟨vals, rv, ⟨⟨cl, dd, da, sl⟩, ho, hc, n, hd⟩, hs⟩ := I.tuple hT
  simp only at hc hd
  subst hc
  subst hd
  have b0 : (decide (k < -(2 ^ 63)) || decide (k ≥ 2 ^ 63)) = false := by simp; omega
  have ee : vals.toArray.isEmpty = xs.isEmpty := by cases rv <;> rfl
  refine wpAny_binaryOp_repeat_ref (T := "tuple") (U := "int") (by decide) ⟨_, ho, rfl⟩ (fun s' => typeIs_int s' k tk) noFill_tuple_mul F.fills_int_mul F.slot_int_rmul repeat_tuple F.slot_int_index.lookup
    (call_meets F.slot_int_rmul (typeIs_int s k tk) F.entry_int_rmul (F.args_int_rmul_2 _ _) (int_rmul_tuple k tk l vals.toArray n dd sl) ⟨ho, rfl, ⟨_, ho, rfl⟩, ?_⟩)
  by_cases h1 : xs = [] ∨ k = 1
  · have b1 : (vals.toArray.isEmpty || k == 1) = true := by
      rw [ee]
      rcases h1 with h1 | h1
      · rw [h1]; rfl
      · rw [h1]; simp
    refine call_meets F.slot_tuple_mul ⟨_, ho, rfl⟩ F.entry_tuple_mul (F.args_tuple_mul_2 _ _) (tup_mul_same l vals.toArray n dd sl k tk b0 b1) ⟨ho, ?_⟩
    exact ⟨.ref l, H, I, rfl, qa h1⟩
  · have hx : xs ≠ [] := fun e => h1 (.inl e)
    have hk : k ≠ 1 := fun e => h1 (.inr e)
    by_cases h2 : 2 ≤ k
    · have ev : vals.length = xs.length := rv.length.symm
      have b1 : (vals.toArray.isEmpty || k == 1) = false := by
        rw [ee, List.isEmpty_eq_false_iff.mpr hx]
        simp only [Bool.false_or, beq_eq_false_iff_ne]
        exact hk
      have b2 : (decide (k ≤ 0) || vals.toArray.isEmpty) = false := by
        rw [ee, List.isEmpty_eq_false_iff.mpr hx, Bool.or_false, decide_eq_false_iff_not]
        omega
      have esz : vals.toArray.size = xs.length := by rw [List.size_toArray, ev]
      have m1 : ((vals.toArray.size : Nat) : Int) * k ≤ 10000000 := by
        rw [esz]
        have := Int.mul_le_mul (show ((xs.length : Nat) : Int) ≤ 100000 by omega) k3 (by omega) (by omega)
        omega
      have m2 : k.toNat * xs.length ≤ 10000000 := by
        have := Nat.mul_le_mul (show k.toNat ≤ 100 by omega) hz
        omega
      have b4 : Builtin.Tuple.tupleTooMany (((vals.toArray.size : Nat) : Int) * k) = false := by
        unfold Builtin.Tuple.tupleTooMany
        rw [sizeLine_eq, decide_eq_false_iff_not]
        omega
      have bs : (List.foldl (fun x1 x2 => x1 ++ x2) #[] (List.replicate k.toNat vals.toArray)).size ≤ sizeLine := by
        rw [size_rep, List.size_toArray, PyProof.Rows.lm_len_rep_flat, ev, sizeLine_eq]
        omega
      refine call_meets F.slot_tuple_mul ⟨_, ho, rfl⟩ F.entry_tuple_mul (F.args_tuple_mul_2 _ _) (tuple_mulW l vals.toArray n dd sl k tk b0 b1 b2 (by omega) b4 bs) ⟨ho, ?_⟩
      rw [size_rep]
      refine ⟨.ref s.heap.objs.size, _, I.laid (t' := s.toks) (o := .tup (List.replicate k.toNat xs).flatten) (fun b ob z => Heap.get?_push_of_some _ z) (Nat.le_refl _) ⟨?_, _, rv.rep k.toNat, PyProof.Rows.IsTup.new _ _⟩, rfl, qb hx hk _ (I.hok.fresh (Nat.le_refl _))⟩
      rw [PyProof.Rows.lm_len_rep_flat, sizeLine_eq]
      omega
    have hk0 : k = 0 := by omega
    have b1 : (vals.toArray.isEmpty || k == 1) = false := by
      rw [ee, hk0]
      cases xs with
      | nil => exact absurd rfl hx
      | cons _ _ => rfl
    have b2 : (decide (k ≤ 0) || vals.toArray.isEmpty) = true := by rw [hk0]; rfl
    refine call_meets F.slot_tuple_mul ⟨_, ho, rfl⟩ F.entry_tuple_mul (F.args_tuple_mul_2 _ _) (tup_mul_none l vals.toArray n dd sl k tk b0 b1 b2) ⟨ho, ?_⟩
    have q := qb hx hk
    rw [hk0] at q
    exact ⟨.ref s.heap.objs.size, _, I.laid (t' := s.toks) (o := .tup []) (fun b ob z => Heap.get?_push_of_some _ z) (Nat.le_refl _) ⟨Nat.zero_le _, [], .nil, PyProof.Rows.IsTup.new _ _⟩, rfl, q _ (I.hok.fresh (Nat.le_refl _))⟩
theorem flat_ds (d : List PyData) : ∀ (k : Nat) {K : PySem.W.Frag} {H : Hp} {xs : List V}, DtL K H xs d → DtL K H (List.replicate k xs).flatten (List.replicate k d).flatten
  | 0, _, _, _, _ => DtL.nil
  | k + 1, _, _, _, h => by
    rw [List.replicate_succ, List.flatten_cons, List.replicate_succ, List.flatten_cons]
    exact h.app (flat_ds d k h)
theorem r_repS {K : PySem.W.Frag} {H : Hp} {Q : VK} {v : V} {k : Int} {ds : List PyData} (h : Dt K H v (.tuple ds)) (h1 : 0 ≤ k) (h2 : k ≤ 100) (h3 : ds.length ≤ 100000)
    (q : ∀ H' z, Kp [] H H' → Dt K H' z (.tuple (List.replicate k.toNat ds).flatten) → Q z H') : rRepS K v (.int k) H Q := by
  obtain ⟨a, xs, rfl, hT, hL⟩ := h.items
  refine ⟨a, k, xs, rfl, rfl, hT, h1, h2, by rw [hL.len]; exact h3, fun e => ?_, fun _ _ p hp => ?_⟩
  · have e2 : (List.replicate k.toNat ds).flatten = ds := by
      rcases e with e | e
      · have := hL.len
        rw [e] at this
        rw [List.length_eq_zero_iff.mp this.symm]
        exact List.flatten_replicate_nil
      · rw [e]
        exact List.append_nil ds
    exact q H _ Kp.nil (by rw [e2]; exact h)
  · have kp : Kp [] H (upd H p (.tup (List.replicate k.toNat xs).flatten)) := Kp.nil.new hp
    exact q _ _ kp (((flat_ds ds k.toNat hL).kp kp).tup upd_same)
theorem pick_back (a b c d : Value) : slicePick #[a, b, c, d] none (some 0) (some (-1)) = #[d, c, b] := by
  have e : sliceRange (sliceBounds none (some 0) (some (-1)) 4).1 (sliceBounds none (some 0) (some (-1)) 4).2.1 (sliceBounds none (some 0) (some (-1)) 4).2.2 = [3, 2, 1] := by decide
  show ((sliceRange (sliceBounds none (some 0) (some (-1)) 4).1 (sliceBounds none (some 0) (some (-1)) 4).2.1 (sliceBounds none (some 0) (some (-1)) 4).2.2).filterMap fun i => #[a, b, c, d][i]?).toArray = #[d, c, b]
  rw [e]
  rfl
def qBack4 (K : PySem.W.Frag) : V → Hp → VK → Prop := fun x H1 Q => ∃ (a : Addr) (x0 x1 x2 x3 : V), x = .ref a ∧ SqL K H1 a [x0, x1, x2, x3] ∧ ∀ p, H1 p = none → Q (.ref p) (upd H1 p (.lst [x3, x2, x1]))
theorem pe_back4 {X : Cx} {e : Expr} {te : TE} {k k0 : Nat} {p0 p1 p2 p3 pos : Pos} (he : PE X e te) : PE X (.Subscript e (.Slice none (some (.Constant (.int 0) k0 p0)) (some (.UnaryOp .USub (.Constant (.int 1) k p1) p2)) p3) pos) (tUn (qBack4 X.K) te) := by
  refine ⟨fun pins s σ H Q I h => Subscript_ (thn (he.run pins s σ H _ I h) fun v s1 ⟨x, H1, I1, r1, a, x0, x1, x2, x3, ex, hx, q⟩ => ?_)⟩
  subst ex
  cases r1
  have up : PO X (some (.Constant (.int 0) k0 p0)) (tPart (tC (.int 0))) := po_some pe_int
  have st : PO X (some (.UnaryOp .USub (.Constant (.int 1) k p1) p2)) (tPart (tUn (rU fun i => .int (-i)) (tC (.int 1)))) := po_some (pe_un un_neg pe_int)
  refine wpAny_Slice (thn (po_none.run pins s1 σ H1 (fun o G => o = none ∧ G = H1) I1 ⟨rfl, rfl⟩) fun vl s2 ⟨ol, H2, I2, pl, e1, e2⟩ => ?_)
  subst e1 e2
  refine thn (up.run pins s2 σ H2 (fun o G => o = some 0 ∧ G = H2) I2 ⟨0, rfl, rfl, rfl⟩) fun vu s3 ⟨ou, H3, I3, pu, e3, e4⟩ => ?_
  subst e3 e4
  refine thn (st.run pins s3 σ H3 (fun o G => o = some (-1) ∧ G = H3) I3 ⟨1, rfl, -1, rfl, rfl, rfl⟩) fun vs s4 ⟨os, H4, I4, ps, e5, e6⟩ => ?_
  subst e5 e6
  have J : Inv X pins σ H4 { s4 with heap := s4.heap.push { cls := .type "slice", data := .fields #[vl, vu, vs] } } := I4.kept (t' := s4.toks) fun b o z => Heap.get?_push_of_some _ z
  obtain ⟨its, rv, pla, hz⟩ := J.list hx
  obtain ⟨y0, y1, y2, y3, ei, r0, r1, r2, r3⟩ : ∃ y0 y1 y2 y3, its = [y0, y1, y2, y3] ∧ RelV x0 y0 ∧ RelV x1 y1 ∧ RelV x2 y2 ∧ RelV x3 y3 := by
    cases rv with
    | cons a0 t => cases t with
      | cons a1 t => cases t with
        | cons a2 t => cases t with
          | cons a3 t =>
            cases t
            exact ⟨_, _, _, _, rfl, a0, a1, a2, a3⟩
  subst ei
  show wpAny (model X.prog X.w) X.A (subscriptTail e (.Slice none (some (.Constant (.int 0) k0 p0)) (some (.UnaryOp .USub (.Constant (.int 1) k p1) p2)) p3) (.ref a) (.ref s4.heap.objs.size)) (EP X pins σ Q) X.xe _
  refine tail_any (ops := [.ref a, .ref s4.heap.objs.size]) pla.isList.typeIs (PySem.slot_list_getitem.lookup) (wpAny_getItem_list_slice pla.isList (Heap.IsSliceOf.new _ vl vu vs) pl pu ps (by decide) ?_ ?_) (by with_unfolding_all rfl)
  · rw [pick_back]
    refine ⟨.ref _, _, J.laid (t' := s4.toks) (o := .lst [x3, x2, x1]) (fun b o z => Heap.get?_push_of_some _ z) (Nat.le_refl _) ⟨(by decide : 3 ≤ sizeLine), [y3, y2, y1], 0, .cons r3 (.cons r2 (.cons r1 .nil)), Heap.get?_push_size _ rfl⟩, rfl, q _ (J.hok.fresh (Nat.le_refl _))⟩
  · show 4 ≤ sizeLine
    decide
def qDictP (K : PySem.W.Frag) : List V → Hp → VK → Prop := fun xs H Q => ∃ (a : Addr) (ps : List Addr) (kvs : List (Key × V)), xs = [.ref a] ∧ SqL K H a (ps.map V.ref) ∧ Paired (fun p kv => SqT K H p [kV kv.1, kv.2]) ps kvs ∧
    ∀ p, H p = none → Q (.ref p) (upd H p (.dK (mergeK [] kvs)))
theorem c_dictP {X : Cx} (hc : X.calm = true) : CallR X (.type "dict") (qDictP X.K) := call_dictP hc
end Aw
namespace Aw
open PySem PySem.Spec L2
structure SwD (H : Hp) (a : Addr) (xs : List Str) (sw : Str → Str) : Prop where
  at' : ∃ kvs : List (Key × V), H a = some (.dK kvs) ∧ ∀ x ∈ xs, valV kvs (Sum.inr x) = some (.str (sw x))
  ins : ∀ x, InN xs x → InN xs (sw x)
theorem SwD.kp {M : List Addr} {H H1 : Hp} {a : Addr} {xs : List Str} {sw : Str → Str} (h : SwD H a xs sw) (k : Kp M H H1) (n : a ∉ M) : SwD H1 a xs sw :=
  let ⟨kvs, e, q⟩ := h.at'
  ⟨⟨kvs, k.get e n, q⟩, h.ins⟩
theorem SwD.kp0 {H H1 : Hp} {a : Addr} {xs : List Str} {sw : Str → Str} (h : SwD H a xs sw) (k : Kp [] H H1) : SwD H1 a xs sw := h.kp k (by simp)
theorem SwD.get {H : Hp} {Q : VK} {a : Addr} {xs : List Str} {sw : Str → Str} {x : Str} (h : SwD H a xs sw) (hx : InN xs x) (q : Q (.str (sw x)) H) : DG Q (.ref a) (.str x) H :=
  let ⟨_, e, r⟩ := h.at'
  r_DG (dget_k e (r x hx.2)) q
def spOt (K : PySem.W.Frag) (n : Nat) : Sp := fun vs H Q _ => ∃ (v : V) (a : Addr) (xs : List Str) (sw : Str → Str) (e : Ex), vs = [v, .ref a] ∧ Dt K H v e.d ∧ SwD H a xs sw ∧ e.vn xs n ∧
  ∀ (H' : Hp) (z : V), Kp [] H H' → Dt K H' z (e.ot sw true).d → Q z H'
def spOtT (K : PySem.W.Frag) (n : Nat) : Sp := fun vs H Q _ => ∃ (v : V) (a : Addr) (xs : List Str) (sw : Str → Str) (t : Ts), vs = [v, .ref a] ∧ Dt K H v t.d ∧ SwD H a xs sw ∧ t.vn xs n ∧
  ∀ (H' : Hp) (z : V), Kp [] H H' → Dt K H' z (t.ot sw true).d → Q z H'
def spOtR (K : PySem.W.Frag) (n : Nat) : Sp := fun vs H Q _ => ∃ (v : V) (a : Addr) (l : Bool) (xs : List Str) (sw : Str → Str) (b : List Sm), vs = [v, .ref a, .bl l] ∧ Dt K H v (.tuple (Sm.ds b)) ∧ SwD H a xs sw ∧ VnB xs n b ∧ n ≤ 4 ∧ Sm.sizes b ≤ 24 ∧
  ∀ (H' : Hp) (z : V), Kp [] H H' → Dt K H' z (.tuple (Sm.ds (Sm.ots sw true l b))) → Q z H'
def spOtI (K : PySem.W.Frag) (n : Nat) : Sp := fun vs H Q _ => ∃ (v : V) (a : Addr) (l : Bool) (xs : List Str) (sw : Str → Str) (t : Ts) (y z : List Sm), vs = [v, .ref a, .bl l] ∧ Dt K H v (Sm.ifs t y z).d ∧ SwD H a xs sw ∧ t.vn xs 2 ∧ VnB xs n y ∧ VnB xs n z ∧
  n ≤ 4 ∧ Sm.sizes y ≤ 24 ∧ Sm.sizes z ≤ 24 ∧
  ∀ (H' : Hp) (u : V), Kp [] H H' → Dt K H' u (otIf sw true t (Sm.ots sw true l y) (Sm.ots sw true l z)).d → Q u H'
theorem pow8 (n : Nat) : 1 ≤ 8 ^ n := Nat.pow_pos (by decide)
theorem Sm.ots_pow {xs : List Str} {sw : Str → Str} {g l : Bool} : ∀ (n : Nat) (b : List Sm), VnB xs n b → Sm.sizes (Sm.ots sw g l b) ≤ Sm.sizes b * 8 ^ n := by
  intro n
  induction n with
  | zero =>
    intro b h
    obtain rfl : b = [] := h
    rw [Sm.ots, Sm.sizes]
    omega
  | succ n ih =>
    intro b
    induction b with
    | nil => intro _; rw [Sm.ots, Sm.sizes]; omega
    | cons s r ihr =>
      intro h
      have hr := ihr fun c hc => h c (List.mem_cons_of_mem _ hc)
      have hs : Sm.vn xs n s := h s (List.mem_cons_self ..)
      have p1 := pow8 n
      have e8 : 8 ^ (n + 1) = 8 * 8 ^ n := by rw [Nat.pow_succ, Nat.mul_comm]
      have key : Sm.sizes (s.ot sw g l) ≤ s.size * 8 ^ (n + 1) := by
        rw [e8]
        cases s with
        | pl p =>
          rw [Sm.ot, Sm.sizes1, Sm.size, Sm.size]
          omega
        | ifs t y z =>
          rw [Sm.ot, Sm.sizes1, otIf_size, Sm.size]
          have h1 := ih y hs.ifs.2.1
          have h2 := ih z hs.ifs.2.2
          generalize 8 ^ n = P at p1 h1 h2 ⊢
          have e3 : (1 + Sm.sizes y + Sm.sizes z) * (8 * P) = 8 * P + 8 * (Sm.sizes y * P) + 8 * (Sm.sizes z * P) := by
            rw [Nat.add_mul, Nat.add_mul, Nat.one_mul, Nat.mul_left_comm, Nat.mul_left_comm (Sm.sizes z)]
          rw [e3]
          omega
        | rep k bb =>
          have h1 := ih bb hs.rep.2.2
          have hk : k.toNat ≤ 8 := by have := hs.rep.2.1; omega
          rw [Sm.ot, Sm.size]
          generalize 8 ^ n = P at p1 h1 ⊢
          have e3 : (1 + Sm.sizes bb) * (8 * P) = 8 * P + 8 * (Sm.sizes bb * P) := by rw [Nat.add_mul, Nat.one_mul, Nat.mul_left_comm]
          rw [e3]
          cases l with
          | true =>
            rw [if_pos rfl, Sm.sizes_rep]
            have := Nat.mul_le_mul h1 hk
            omega
          | false =>
            rw [if_neg (by decide), Sm.sizes1, Sm.size]
            omega
      rw [Sm.ots, Sm.sizes_app, Sm.sizes, Nat.add_mul]
      omega
theorem Sm.ots_len {xs : List Str} {sw : Str → Str} {g l : Bool} {n : Nat} {b : List Sm} (h : VnB xs n b) (hn : n ≤ 4) (h1 : Sm.sizes b ≤ 24) : (Sm.ots sw g l b).length ≤ 98304 := by
  have q := Sm.len_sizes (Sm.ots sw g l b)
  have q2 := Sm.ots_pow (sw := sw) (g := g) (l := l) n b h
  have q3 : 8 ^ n ≤ 8 ^ 4 := Nat.pow_le_pow_right (by decide) hn
  have q4 := Nat.mul_le_mul h1 q3
  omega
theorem Sm.ots_app {sw : Str → Str} {g l : Bool} : ∀ a b : List Sm, Sm.ots sw g l (a ++ b) = Sm.ots sw g l a ++ Sm.ots sw g l b
  | [], b => by rw [List.nil_append, Sm.ots, List.nil_append]
  | s :: r, b => by rw [List.cons_append, Sm.ots, Sm.ots, Sm.ots_app r b, List.append_assoc]
theorem Sm.ots_take {sw : Str → Str} {g l : Bool} {b : List Sm} {i : Nat} {c : Sm} (h : b[i]? = some c) : Sm.ots sw g l (b.take (i + 1)) = Sm.ots sw g l (b.take i) ++ c.ot sw g l := by
  rw [List.take_add_one, h, Sm.ots_app]
  show _ ++ Sm.ots sw g l [c] = _
  rw [Sm.ots, Sm.ots, List.append_nil]
def swF (a b c p q r : Str) (x : Str) : Str := if x = c then r else if x = b then q else if x = a then p else x
theorem swF_dict {a b c p q r : Str} (h : [("n" : Str), a, b, c].Nodup) : ∀ x ∈ [("n" : Str), a, b, c],
    valV (mergeK [] [((Sum.inr ("n" : Str) : Key), V.str "n"), (Sum.inr a, .str p), (Sum.inr b, .str q), (Sum.inr c, .str r)]) (Sum.inr x) = some (.str (swF a b c p q r x)) := by
  intro x hx
  unfold mergeK
  simp only [List.foldl_cons, List.foldl_nil]
  rw [valV_put, valV_put, valV_put, valV_put, valV_nil]
  simp only [Sum.inr.injEq]
  unfold swF
  split
  · rfl
  · split
    · rfl
    · split
      · rfl
      · rename_i h1 h2 h3
        simp only [List.mem_cons, List.not_mem_nil, or_false] at hx
        rcases hx with e | e | e | e
        · rw [if_pos e, e]
        · exact absurd e h3
        · exact absurd e h2
        · exact absurd e h1
/-- the three changes -/
def Perm3 (a b c p q r : Str) : Prop := (p = a ∧ q = b ∧ r = c) ∨ (p = c ∧ q = b ∧ r = a) ∨ (p = b ∧ q = c ∧ r = a)
theorem swF_ok {a b c p q r : Str} (h : [("n" : Str), a, b, c].Nodup) (hp : Perm3 a b c p q r) : Swp [("n" : Str), a, b, c] (swF a b c p q r) ∧ swF a b c p q r "n" = "n" ∧ ∀ x ∈ [("n" : Str), a, b, c], swF a b c p q r x ∈ [("n" : Str), a, b, c] := by
  simp only [List.nodup_cons, List.mem_cons, List.not_mem_nil, or_false, not_or, not_false_eq_true, List.nodup_nil, and_true] at h
  obtain ⟨⟨na, nb, nc⟩, ⟨ab, ac⟩, bc⟩ := h
  have v1 : swF a b c p q r "n" = "n" := by
    unfold swF
    rw [if_neg nc, if_neg nb, if_neg na]
  have v2 : swF a b c p q r a = p := by
    unfold swF
    rw [if_neg ac, if_neg ab, if_pos rfl]
  have v3 : swF a b c p q r b = q := by
    unfold swF
    rw [if_neg bc, if_pos rfl]
  have v4 : swF a b c p q r c = r := by
    unfold swF
    rw [if_pos rfl]
  refine ⟨⟨fun x hx y hy e => ?_⟩, v1, fun x hx => ?_⟩
  · simp only [List.mem_cons, List.not_mem_nil, or_false] at hx hy
    rcases hx with rfl | rfl | rfl | rfl <;> rcases hy with rfl | rfl | rfl | rfl <;> (try rfl) <;> simp only [v1, v2, v3, v4] at e <;> rcases hp with ⟨rfl, rfl, rfl⟩ | ⟨rfl, rfl, rfl⟩ | ⟨rfl, rfl, rfl⟩ <;>
      first | exact absurd e na | exact absurd e nb | exact absurd e nc | exact absurd e ab | exact absurd e ac | exact absurd e bc | exact absurd e.symm na | exact absurd e.symm nb | exact absurd e.symm nc | exact absurd e.symm ab | exact absurd e.symm ac | exact absurd e.symm bc
  · simp only [List.mem_cons, List.not_mem_nil, or_false] at hx ⊢
    rcases hx with rfl | rfl | rfl | rfl
    · exact .inl v1
    · rw [v2]; rcases hp with ⟨rfl, rfl, rfl⟩ | ⟨rfl, rfl, rfl⟩ | ⟨rfl, rfl, rfl⟩ <;> simp
    · rw [v3]; rcases hp with ⟨rfl, rfl, rfl⟩ | ⟨rfl, rfl, rfl⟩ | ⟨rfl, rfl, rfl⟩ <;> simp
    · rw [v4]; rcases hp with ⟨rfl, rfl, rfl⟩ | ⟨rfl, rfl, rfl⟩ | ⟨rfl, rfl, rfl⟩ <;> simp
/-- the law's version with more -/
def spMoreV (K : PySem.W.Frag) : Sp := fun vs H Q _ => ∃ (d c : Addr) (n : Int) (v : V) (b : List Sm), vs = [.ref d, v] ∧ Deck H d c n ∧ n + 10 < 10 ^ 12 ∧ Dt K H v (.tuple (Sm.ds b)) ∧ b.length ≤ 100 ∧
  ∀ (H' : Hp) (z : V) (n' : Int) (f i : Nat) (m : Sm), Deck H' d c n' → n ≤ n' → n' ≤ n + 10 → Kp [d, c] H H' → f ≤ 1 → m ∈ moreS → Dt K H' z (.tuple (Sm.ds (moreL f i m b))) → Q z H'
theorem name_first {x : Str} (h : isNameS x = true) : ∃ c, atI x.cps.toList 0 = some c ∧ x.length ≤ 8 := by
  have h2 := (name_ok h).2
  unfold isNameS at h
  simp only [Bool.and_eq_true, decide_eq_true_eq] at h
  have h1 : 1 ≤ x.cps.toList.length := by
    rw [Array.length_toList]
    exact h.1.1.1.1
  cases e : x.cps.toList with
  | nil =>
    rw [e] at h1
    exact absurd h1 (by decide)
  | cons c r => exact ⟨c, by unfold atI ixN; simp, h2⟩
theorem one_times (c : Nat) : V.str ⟨#[c]⟩ ≠ V.str "times" := fun e => by
  injection e with e
  have q := congrArg Str.length e
  exact absurd (show (1 : Nat) = 5 from q) (by decide)
theorem PgN.vnb {xs : List Str} {x : List Sm} (h : PgN xs x) : VnB xs 4 x := h.vn
theorem PgN.vd4 {xs : List Str} {x : List Sm} (h : PgN xs x) : VdB 4 x := VnB.vd 4 x h.vn
theorem pgN_wts {xs : List Str} {x : List Sm} (h : PgN xs x) : Sm.wts x ≤ 30 := by
  have q := Sm.wts_cnts 4 x h.vd4
  have := h.weight
  omega
/-- a version of the program x: valid, small, of the same sums -/
def Ver (K : PySem.W.Frag) (H : Hp) (v : V) (x : List Sm) : Prop := ∃ vb : List Sm, Dt K H v (.tuple (Sm.ds vb)) ∧ VdB 4 vb ∧ Sm.sizes vb ≤ 33 ∧ Sm.wts vb ≤ 33 ∧ ∀ n, smD [] n vb = smD [] n x
theorem Ver.kp {K : PySem.W.Frag} {M : List Addr} {H H1 : Hp} {v : V} {x : List Sm} (h : Ver K H v x) (k : Kp M H H1) : Ver K H1 v x :=
  let ⟨vb, h1, h2⟩ := h
  ⟨vb, h1.kp k, h2⟩
theorem Ver.ots {K : PySem.W.Frag} {H : Hp} {v : V} {xs : List Str} {x : List Sm} {sw : Str → Str} {l : Bool} (ok : PgN xs x) (hs : Swp xs sw) (hn : sw "n" = "n") (hnx : ("n" : Str) ∈ xs) (ins : ∀ x, InN xs x → InN xs (sw x)) (hd : Dt K H v (.tuple (Sm.ds (Sm.ots sw true l x)))) : Ver K H v x := by
  refine ⟨_, hd, VnB.vd 4 _ (Sm.ots_vn ins 4 x ok.vn), ?_, ?_, fun n => smD_ots hs hn hnx (VnB.nins 4 x ok.vn) n⟩
  · have h1 := pgN_wts ok
    have h2 := ok.size
    cases l with
    | true =>
      have := Sm.ots_size1 (sw := sw) (g := true) x
      omega
    | false =>
      rw [Sm.ots_size0]
      omega
  · have h1 := pgN_wts ok
    have := Sm.ots_wts (sw := sw) (g := true) (l := l) x
    omega
theorem Ver.more {K : PySem.W.Frag} {H : Hp} {v : V} {xs : List Str} {x y : List Sm} {f i : Nat} {m : Sm} (hx : ("spare1" : Str) ∉ xs) (hm : m ∈ moreS) (hf : f ≤ 1) (hy : VnB xs 4 y) (h1 : Sm.sizes y ≤ 30) (h2 : Sm.wts y ≤ 30) (e : ∀ n, smD [] n y = smD [] n x)
    (hd : Dt K H v (.tuple (Sm.ds (moreL f i m y)))) : Ver K H v x := by
  refine ⟨_, hd, moreL_vd hm (VnB.vd 4 y hy), ?_, ?_, fun n => (smD_more hx hm f i (VnB.nins 4 y hy) n).trans (e n)⟩
  · have := moreL_sizes (f := f) (i := i) (b := y) hm hf
    omega
  · have := moreL_wts (f := f) (i := i) (b := y) hm hf
    omega
theorem paired_imp {α β : Type} {F G : α → β → Prop} : ∀ {xs : List α} {ys : List β}, Paired F xs ys → (∀ x y, F x y → G x y) → Paired G xs ys
  | _, _, .nil, _ => .nil
  | _, _, .cons h t, k => .cons (k _ _ h) (paired_imp t k)
end Aw
namespace Aw
open PySem L2
def topS (i : Nat) : Stmt := PySem.Challenge.pw_anewread_k37_whole_programs_written_othe.main.body.getD i (.Pass ⟨0, 0, 0, 0⟩)
local macro_rules | `(tactic| walk_at "isa") => `(tactic| (focus (simp [isaD, tyD]; done)))
local macro_rules | `(tactic| walk_at "isa") => `(tactic| assumption)
local macro_rules | `(tactic| walk_at "hd") => `(tactic| assumption)
local macro_rules | `(tactic| walk_at "hd") => `(tactic| exact Dt.dp (by assumption))
local macro_rules | `(tactic| walk_at "hd") => `(tactic| exact Dp.non)
local macro_rules | `(tactic| walk_at "hd") => `(tactic| exact Dp.bl _)
local macro_rules | `(tactic| walk_at "hd") => `(tactic| exact Dp.str _)
local macro_rules | `(tactic| walk_at "hd") => `(tactic| exact Dp.int _)
local macro_rules | `(tactic| walk_at "ne") => `(tactic| exact Ne.symm (ne_of_none (by assumption) (by assumption)))
local macro_rules | `(tactic| walk_at "ne") => `(tactic| exact ne_of_none (by assumption) (by assumption))
local macro_rules | `(tactic| walk_at "ne") => `(tactic| exact Ne.symm (by assumption))
local macro_rules | `(tactic| walk_at "ne") => `(tactic| assumption)
local macro_rules | `(tactic| walk_at "hp") => `(tactic| ((refine Eq.trans (upd_ne ?_) ?_); (walk_at "ne"); (walk_at "hp")))
local macro_rules | `(tactic| walk_at "hp") => `(tactic| exact upd_same)
local macro_rules | `(tactic| walk_at "hp") => `(tactic| assumption)
local macro_rules | `(tactic| walk_at "hs") => `(tactic| ((with_reducible apply SqT.of); (walk_at "hp")))
local macro_rules | `(tactic| walk_at "hs") => `(tactic| ((with_reducible apply SqL.of); (walk_at "hp")))
local macro_rules | `(tactic| walk_at "hs") => `(tactic| assumption)
local macro_rules | `(tactic| walk_at "hw") => `(tactic| exact Dw.non)
local macro_rules | `(tactic| walk_at "hw") => `(tactic| exact Dw.bl _)
local macro_rules | `(tactic| walk_at "hw") => `(tactic| exact Dw.str _)
local macro_rules | `(tactic| walk_at "hw") => `(tactic| exact Dw.int _)
local macro_rules | `(tactic| walk_at "hw") => `(tactic| assumption)
local macro_rules | `(tactic| walk_at "cd") => `(tactic| repeat (first | with_reducible exact cd_str | with_reducible exact cd_int | with_reducible exact cd_non | with_reducible exact cds_nil | with_reducible refine cds_cons ?_ ?_ | with_reducible refine cd_tup ?_ (by simp) | ((with_reducible apply cd_var); (exact rfl); assumption)))
local macro_rules | `(tactic| walk_at "cw") => `(tactic| repeat (first | with_reducible exact cw_str | with_reducible exact cw_int | with_reducible exact cw_bl | with_reducible exact cw_non | with_reducible exact cw_neg | with_reducible exact cws_nil | with_reducible exact cw_pow (c_pow (by decide) (by decide) (by decide)) | with_reducible exact cw_d0 (by assumption) | with_reducible exact cw_d1 (by assumption) | with_reducible refine cws_cons ?_ ?_ | with_reducible refine cw_tup ?_ (by simp) | with_reducible refine cw_lst (by assumption) ?_ (by simp) | ((with_reducible apply cw_var); (exact rfl); assumption)))
local macro_rules | `(tactic| walk_at "sc") => `(tactic| first
  | omega | decide
  | exact c_pow (by first | decide | omega) (by decide) (by decide)
  | exact c_div (by omega) (by omega)
  | exact c_mulL (by first | decide | omega) (by first | decide | omega)
  | exact c_mulR (by first | decide | omega) (by first | decide | omega))
local macro_rules | `(tactic| walk_at "sl") => `(tactic| ((try simp only [Str.length_append]); rw [sizeLine_eq]; omega))
local macro_rules | `(tactic| walk_at "sz") => `(tactic| ((try simp only [sizeLine_eq, List.length_append, List.length_map, List.length_cons, List.length_nil, Str.length_append]); omega))
local macro_rules | `(tactic| walk_at "rds") => `(tactic| repeat (walk_at "rd1"))
local macro_rules | `(tactic| walk_at "rd") => `(tactic| repeat (walk_at "rdA"))
local macro_rules | `(tactic| walk_at "rdj") => `(tactic| repeat (walk_at "rdB"))
local macro_rules | `(tactic| walk_at "rd1") => `(tactic| ((with_reducible apply r_wF); assumption))
local macro_rules | `(tactic| walk_at "rd1") => `(tactic| ((with_reducible apply r_wR); assumption))
local macro_rules | `(tactic| walk_at "rd1") => `(tactic| ((with_reducible apply r_wS); assumption))
local macro_rules | `(tactic| walk_at "rd1") => `(tactic| ((with_reducible apply r_wN); assumption))
local macro_rules | `(tactic| walk_at "rd1") => `(tactic| with_reducible refine r_pnil ?_)
local macro_rules | `(tactic| walk_at "rd1") => `(tactic| with_reducible refine r_pcons ?_)
local macro_rules | `(tactic| walk_at "rd1") => `(tactic| (with_reducible refine r_LcTurn rfl ?_))
local macro_rules | `(tactic| walk_at "rd1") => `(tactic| ((with_reducible apply r_append); (walk_at "hp")))
local macro_rules | `(tactic| walk_at "rd1") => `(tactic| ((with_reducible apply r_isF); (walk_at "hd"); (walk_at "isa"); decide))
local macro_rules | `(tactic| walk_at "rd1") => `(tactic| ((with_reducible apply r_isT); (walk_at "hd"); (walk_at "isa"); decide))
local macro_rules | `(tactic| walk_at "rd1") => `(tactic| ((with_reducible apply r_lenT); (walk_at "hs")))
local macro_rules | `(tactic| walk_at "rd1") => `(tactic| with_reducible refine r_strS ?_)
local macro_rules | `(tactic| walk_at "rd1") => `(tactic| with_reducible refine r_strI ?_ ?_)
local macro_rules | `(tactic| walk_at "rd1") => `(tactic| with_reducible refine r_abs ?_)
local macro_rules | `(tactic| walk_at "rd1") => `(tactic| with_reducible refine r_intB ?_)
local macro_rules | `(tactic| walk_at "rd1") => `(tactic| ((with_reducible apply r_lenL); (walk_at "hs")))
local macro_rules | `(tactic| walk_at "rd1") => `(tactic| (with_reducible refine r_three ?_))
local macro_rules | `(tactic| walk_at "rd1") => `(tactic| ((with_reducible apply r_neNT); (walk_at "hs"); (walk_at "hs")))
local macro_rules | `(tactic| walk_at "rd1") => `(tactic| ((with_reducible apply r_neNL); (walk_at "hs"); (walk_at "hs")))
local macro_rules | `(tactic| walk_at "rd1") => `(tactic| ((with_reducible apply r_eqNT); (walk_at "hs"); (walk_at "hs")))
local macro_rules | `(tactic| walk_at "rd1") => `(tactic| ((with_reducible apply r_eqNL); (walk_at "hs"); (walk_at "hs")))
local macro_rules | `(tactic| walk_at "rd1") => `(tactic| with_reducible refine r_notinC ?_)
local macro_rules | `(tactic| walk_at "rd1") => `(tactic| with_reducible refine r_inC ?_)
local macro_rules | `(tactic| walk_at "rd1") => `(tactic| ((with_reducible apply r_ixD); assumption))
local macro_rules | `(tactic| walk_at "rd1") => `(tactic| ((with_reducible apply r_ixT); (walk_at "hs"); (first | exact rfl | assumption)))
local macro_rules | `(tactic| walk_at "rd1") => `(tactic| ((with_reducible apply r_ne); exact rfl))
local macro_rules | `(tactic| walk_at "rd1") => `(tactic| ((with_reducible apply r_neT); (decide +kernel); exact rfl))
local macro_rules | `(tactic| walk_at "rd1") => `(tactic| with_reducible refine r_yes ?_)
local macro_rules | `(tactic| walk_at "rd1") => `(tactic| with_reducible refine r_or ?_)
local macro_rules | `(tactic| walk_at "rd1") => `(tactic| ((with_reducible apply r_DG2i); assumption))
local macro_rules | `(tactic| walk_at "rd1") => `(tactic| ((with_reducible apply r_DG1); assumption))
local macro_rules | `(tactic| walk_at "rd1") => `(tactic| ((with_reducible apply r_DG1a); assumption))
local macro_rules | `(tactic| walk_at "rd1") => `(tactic| ((with_reducible apply r_DIn); assumption))
local macro_rules | `(tactic| walk_at "rd1") => `(tactic| ((with_reducible apply r_DG2); (walk_at "hp")))
local macro_rules | `(tactic| walk_at "rd1") => `(tactic| ((with_reducible apply r_DG2a); (walk_at "hp")))
local macro_rules | `(tactic| walk_at "rd1") => `(tactic| with_reducible refine r_forK ?_)
local macro_rules | `(tactic| walk_at "rd1") => `(tactic| with_reducible refine r_sfld ?_)
local macro_rules | `(tactic| walk_at "rd1") => `(tactic| with_reducible refine r_dput ?_)
local macro_rules | `(tactic| walk_at "rd1") => `(tactic| with_reducible refine r_forR2 ?_)
local macro_rules | `(tactic| walk_at "rd1") => `(tactic| with_reducible refine r_forL ?_)
local macro_rules | `(tactic| walk_at "rd1") => `(tactic| with_reducible refine r_forT ?_)
local macro_rules | `(tactic| walk_at "rd1") => `(tactic| (with_reducible refine r_par3 ?_))
local macro_rules | `(tactic| walk_at "rd1") => `(tactic| with_reducible refine r_retN ?_)
local macro_rules | `(tactic| walk_at "rd1") => `(tactic| with_reducible refine r_listItems ?_)
local macro_rules | `(tactic| walk_at "rd1") => `(tactic| with_reducible refine r_listVals ?_)
local macro_rules | `(tactic| walk_at "rd1") => `(tactic| with_reducible refine r_lcV ?_)
local macro_rules | `(tactic| walk_at "rd1") => `(tactic| with_reducible refine r_dpop1 ?_)
local macro_rules | `(tactic| walk_at "rd1") => `(tactic| with_reducible refine r_dget1 ?_)
local macro_rules | `(tactic| walk_at "rd1") => `(tactic| with_reducible refine r_din ?_)
local macro_rules | `(tactic| walk_at "rd1") => `(tactic| with_reducible refine r_dget ?_)
local macro_rules | `(tactic| walk_at "rd1") => `(tactic| with_reducible refine r_lcS ?_)
local macro_rules | `(tactic| walk_at "rd1") => `(tactic| with_reducible refine r_lcR2 ?_)
local macro_rules | `(tactic| walk_at "rd1") => `(tactic| with_reducible refine r_dget2 ?_)
local macro_rules | `(tactic| walk_at "rd1") => `(tactic| with_reducible refine r_lcR ?_)
local macro_rules | `(tactic| walk_at "rd1") => `(tactic| with_reducible refine r_lcL ?_)
local macro_rules | `(tactic| walk_at "rd1") => `(tactic| with_reducible refine r_chain ?_)
local macro_rules | `(tactic| walk_at "rd1") => `(tactic| with_reducible refine r_notV ?_)
local macro_rules | `(tactic| walk_at "rd1") => `(tactic| with_reducible refine r_orV ?_)
local macro_rules | `(tactic| walk_at "rd1") => `(tactic| with_reducible refine r_int ?_)
local macro_rules | `(tactic| walk_at "rd1") => `(tactic| ((with_reducible apply r_extend); (walk_at "hp"); (walk_at "hp")))
local macro_rules | `(tactic| walk_at "rd1") => `(tactic| ((with_reducible apply r_is2F); (walk_at "hw"); (walk_at "isa"); decide))
local macro_rules | `(tactic| walk_at "rd1") => `(tactic| ((with_reducible apply r_is2T); (walk_at "hw"); (walk_at "isa"); decide))
local macro_rules | `(tactic| walk_at "rd1") => `(tactic| with_reducible refine r_ipI ?_)
local macro_rules | `(tactic| walk_at "rd1") => `(tactic| with_reducible refine r_I ?_ ?_)
local macro_rules | `(tactic| walk_at "rd1") => `(tactic| with_reducible refine r_addS ?_ ?_)
local macro_rules | `(tactic| walk_at "rd1") => `(tactic| ((with_reducible apply r_eq); exact rfl))
local macro_rules | `(tactic| walk_at "rd1") => `(tactic| with_reducible refine r_and ?_)
local macro_rules | `(tactic| walk_at "rd1") => `(tactic| with_reducible refine r_forE ?_)
local macro_rules | `(tactic| walk_at "rd1") => `(tactic| ((with_reducible apply r_aug); exact rfl))
local macro_rules | `(tactic| walk_at "rd1") => `(tactic| with_reducible refine r_lcT ?_)
local macro_rules | `(tactic| walk_at "rd1") => `(tactic| with_reducible refine r_BM0 ?_)
local macro_rules | `(tactic| walk_at "rd1") => `(tactic| with_reducible refine r_BM ?_)
local macro_rules | `(tactic| walk_at "rd1") => `(tactic| ((with_reducible apply r_setL); (walk_at "hp"); (first | exact rfl | assumption)))
local macro_rules | `(tactic| walk_at "rd1") => `(tactic| with_reducible refine r_U ?_)
local macro_rules | `(tactic| walk_at "rd1") => `(tactic| ((with_reducible apply r_tyL); (walk_at "hp")))
local macro_rules | `(tactic| walk_at "rd1") => `(tactic| with_reducible refine r_sub ?_)
local macro_rules | `(tactic| walk_at "rd1") => `(tactic| with_reducible refine r_forR ?_)
local macro_rules | `(tactic| walk_at "rd1") => `(tactic| with_reducible refine r_drop ?_)
local macro_rules | `(tactic| walk_at "rd1") => `(tactic| with_reducible refine r_revL ?_)
local macro_rules | `(tactic| walk_at "rd1") => `(tactic| with_reducible refine r_andV ?_)
local macro_rules | `(tactic| walk_at "rd1") => `(tactic| with_reducible refine r_un ?_)
local macro_rules | `(tactic| walk_at "rd1") => `(tactic| with_reducible refine r_lenS ?_ ?_)
local macro_rules | `(tactic| walk_at "rd1") => `(tactic| ((with_reducible apply r_neF); (with_reducible rfl); exact rfl))
local macro_rules | `(tactic| walk_at "rd1") => `(tactic| ((with_reducible apply r_Fld); assumption; assumption; assumption; exact rfl))
local macro_rules | `(tactic| walk_at "rd1") => `(tactic| with_reducible refine r_fld ?_)
local macro_rules | `(tactic| walk_at "rd1") => `(tactic| with_reducible refine ifnF ?_)
local macro_rules | `(tactic| walk_at "rd1") => `(tactic| ((with_reducible apply r_eqF); (decide +kernel); exact rfl))
local macro_rules | `(tactic| walk_at "rd1") => `(tactic| ((with_reducible apply r_orP); (focus (intro _ hR_; (walk_at "rd"); exact hR_)); (focus (intro _ hR_; (walk_at "rd"); exact hR_))))
local macro_rules | `(tactic| walk_at "rd1") => `(tactic| ((with_reducible apply r_Meth); assumption; exact rfl))
local macro_rules | `(tactic| walk_at "rd1") => `(tactic| (with_reducible refine r_par ?_))
local macro_rules | `(tactic| walk_at "rd1") => `(tactic| with_reducible refine r_meth ?_)
local macro_rules | `(tactic| walk_at "rd1") => `(tactic| with_reducible refine ifnT ?_)
local macro_rules | `(tactic| walk_at "rd1") => `(tactic| ((with_reducible apply r_andP); (focus (intro _ hR_; (walk_at "rd"); exact hR_)); (focus (intro _ hR_; (walk_at "rd"); exact hR_))))
local macro_rules | `(tactic| walk_at "rd1") => `(tactic| (with_reducible refine r_two ?_))
local macro_rules | `(tactic| walk_at "rd1") => `(tactic| with_reducible refine r_isS ?_)
local macro_rules | `(tactic| walk_at "rd1") => `(tactic| with_reducible refine r_gnil ?_)
local macro_rules | `(tactic| walk_at "rd1") => `(tactic| ((with_reducible apply r_gtup); (walk_at "hs"); exact rfl))
local macro_rules | `(tactic| walk_at "rd1") => `(tactic| with_reducible refine r_not ?_)
local macro_rules | `(tactic| walk_at "rd1") => `(tactic| with_reducible refine r_M1 ?_)
local macro_rules | `(tactic| walk_at "rd1") => `(tactic| with_reducible refine ifF ?_)
local macro_rules | `(tactic| walk_at "rd1") => `(tactic| with_reducible refine r_B ?_)
local macro_rules | `(tactic| walk_at "rd1") => `(tactic| with_reducible refine r_CB ?_)
local macro_rules | `(tactic| walk_at "rd1") => `(tactic| with_reducible refine ifT ?_)
local macro_rules | `(tactic| walk_at "rd1") => `(tactic| (with_reducible refine r_tup ?_))
local macro_rules | `(tactic| walk_at "rd1") => `(tactic| with_reducible refine r_noPart ?_)
local macro_rules | `(tactic| walk_at "rd1") => `(tactic| with_reducible refine r_sl ?_)
local macro_rules | `(tactic| walk_at "rd1") => `(tactic| with_reducible refine r_gcons ?_)
local macro_rules | `(tactic| walk_at "rd1") => `(tactic| with_reducible refine r_part ?_)
local macro_rules | `(tactic| walk_at "rd1") => `(tactic| ((with_reducible apply r_ixL); (walk_at "hs"); (first | exact rfl | assumption)))
local macro_rules | `(tactic| walk_at "rd1") => `(tactic| with_reducible refine r_partI ?_)
local macro_rules | `(tactic| walk_at "rd1") => `(tactic| with_reducible refine r_asg ?_)
local macro_rules | `(tactic| walk_at "rd1") => `(tactic| (with_reducible refine r_lst ?_))
local macro_rules | `(tactic| walk_at "rd1") => `(tactic| ((with_reducible apply r_eqT); (with_reducible rfl); exact rfl))
local macro_rules | `(tactic| walk_at "rd1") => `(tactic| with_reducible refine r_I0 ?_)
local macro_rules | `(tactic| walk_at "rd1") => `(tactic| with_reducible refine r_ret ?_)
local macro_rules | `(tactic| walk_at "rd1") => `(tactic| with_reducible refine r_ifS ?_)
local macro_rules | `(tactic| walk_at "rd1") => `(tactic| with_reducible refine r_next ?_)
local macro_rules | `(tactic| walk_at "rd1") => `(tactic| with_reducible refine r_name ?_)
local macro_rules | `(tactic| walk_at "rd1") => `(tactic| with_reducible refine r_call ?_)
local macro_rules | `(tactic| walk_at "rd1") => `(tactic| with_reducible refine r_test ?_)
local macro_rules | `(tactic| walk_at "rd1") => `(tactic| with_reducible refine r_bl ?_)
local macro_rules | `(tactic| walk_at "rd1") => `(tactic| with_reducible refine r_nil ?_)
local macro_rules | `(tactic| walk_at "rd1") => `(tactic| with_reducible refine r_op ?_)
local macro_rules | `(tactic| walk_at "rd1") => `(tactic| with_reducible refine r_C ?_)
local macro_rules | `(tactic| walk_at "rd1") => `(tactic| ((with_reducible apply r_var); exact rfl))
local macro_rules | `(tactic| walk_at "rd1") => `(tactic| with_reducible refine r_cons ?_)
local macro_rules | `(tactic| walk_at "rdB") => `(tactic| walk_at "rd1")
local macro_rules | `(tactic| walk_at "rdB") => `(tactic| with_reducible refine r_seq ?_)
local macro_rules | `(tactic| walk_at "rdA") => `(tactic| with_reducible refine r_if ?_)
local macro_rules | `(tactic| walk_at "rdA") => `(tactic| walk_at "rd1")
local macro_rules | `(tactic| walk_at "rdA") => `(tactic| with_reducible refine r_seq ?_)
section
variable {P : Program} {w : World} {K : PySem.W.Frag} {mg : Str → Option Value} {base : Heap}
abbrev sis_whole : Stmt := topS 18
abbrev Nis_whole : List Str := ["value", "least", "most"]
abbrev Pis_whole : List Str := ["value", "least", "most"]
theorem scis_whole : FnScope Nis_whole Pis_whole (defScope sis_whole) :=
  ⟨rfl, rfl, rfl, by decide +kernel, rfl, by decide +kernel, by decide +kernel⟩
theorem ok_is_whole (D : Df K mg "is_whole" sis_whole Pis_whole) (B : Blt mg) : Has P w K mg base CX0 "is_whole" Pis_whole 1 (spWhole K) := by
  refine D.has scis_whole (fun vs H Q E h => ?_) (fun f cdv A outer s H vs Q E hr h => ?_)
  · obtain ⟨v, d, lo, hi, rfl, _⟩ := h
    rfl
  obtain ⟨v, d, lo, hi, rfl, hd, k⟩ := h
  refine ⟨_, (pss_one (ps_ret (pe_and (pe_callB c_is2 (by rfl) B.isinstance (by decide +kernel) (pa_cons (pv 0) (pa_cons (pe_ty (T := "int") (by rfl) B.int (by decide +kernel)) pa_nil))) (pe_and (pe_not (pe_callB c_is2 (by rfl) B.isinstance (by decide +kernel) (pa_cons (pv 0) (pa_cons (pe_ty (T := "bool") (by rfl) B.bool (by decide +kernel)) pa_nil)))) (pe_one (pe_chain op_le op_le (pv 1) (pv 0) (pv 2))))))), ?_⟩
  cases d with
  | int i =>
    obtain rfl := hd.isInt
    walk_at "rd"
    have q : Q (.bl (decide (lo ≤ i) && decide (i ≤ hi))) H := k
    refine ifd (fun c => ?_) (fun c => ?_)
    · walk_at "rd"
      rw [decide_eq_true c, Bool.true_and] at q
      exact q
    · rw [decide_eq_false c, Bool.false_and] at q
      exact q
  | _ => walk_at "rd"; exact k
abbrev sis_word : Stmt := topS 19
abbrev Nis_word : List Str := ["value", "sign"]
abbrev Pis_word : List Str := ["value"]
theorem scis_word : FnScope Nis_word Pis_word (defScope sis_word) :=
  ⟨rfl, rfl, rfl, by decide +kernel, rfl, by decide +kernel, by decide +kernel⟩
theorem ok_is_word (D : Df K mg "is_word" sis_word Pis_word) (B : Blt mg) {t1 t2 t3 : Tok} (g_MAX_WORD : mg "MAX_WORD" = some (.int 8 t1)) (g_UNSURE : mg "UNSURE" = some (.str "unsure" t2)) (g_SIGNS : mg "SIGNS" = some (.str SGN t3)) :
    Has P w K mg base CX0 "is_word" Pis_word 1 (spAsk K isWord) := by
  refine D.has scis_word (fun vs H Q E h => ?_) (fun f cdv A outer s H vs Q E hr h => ?_)
  · obtain ⟨v, d, rfl, _⟩ := h
    rfl
  obtain ⟨v, d, rfl, hd, hz, k⟩ := h
  refine ⟨_, (pss_cons (ps_if (PW.pt (pw_or (pt_not (pt_val (pe_callB c_is2 (by rfl) B.isinstance (by decide +kernel) (pa_cons (pv 0) (pa_cons (pe_ty (T := "str") (by rfl) B.str (by decide +kernel)) pa_nil))))) (pw_or (pt_not (pt_chain op_le op_le pe_int (pe_callB c_len (by rfl) B.len (by decide +kernel) (pa_cons (pv 0) pa_nil)) (pe_gint (by rfl) g_MAX_WORD))) (pw_or1 (pt_cmpR op_eq (pv 0) (pe_gstr (by rfl) g_UNSURE) (nomark _)))))) (pss_one (ps_ret pe_bl))
        pss_nil)
      (pss_one (ps_ret (pe_cmpR (op_eqNil hr.h64) (pe_lc (own := [("sign", 1)]) (g := gName 1) (by rfl) scis_word.nd (pi_str (pv 0)) (blkOk_by (own := [("sign", 1)]) (N := Nis_word) (sc := defScope sis_word) (by decide +kernel)) (fun _ _ _ _ _ => (pg_name (i := 1) scis_word.nd rfl (Or.inl rfl))) (fun _ _ _ _ _ => (pts_one (pt_cmpR op_notinC (pv 1) (pe_gstr (by rfl) g_SIGNS) (by rfl)))) (fun _ _ _ _ _ => (pv 1))) (pe_lst pa_nil) (nomark _))))), ?_⟩
  cases d with
  | str x =>
    obtain rfl := hd.isStr
    rw [dsz] at hz
    change ∀ H', Kp [] H H' → Q (.bl (isWordS x)) H' at k
    have kf : isWordS x = false → Q (.bl false) H := fun e => by
      have q := k H Kp.nil
      rw [e] at q
      exact q
    walk_at "rd"
    rotate_left 1
    · walk_at "sz"
    refine ifd (fun c1 => ?_) (fun c1 => ?_)
    rotate_left 1
    · walk_at "rd"
      refine kf ?_
      unfold isWordS
      rw [decide_eq_false (by omega), Bool.false_and, Bool.false_and, Bool.false_and]
    walk_at "rd"
    refine ifn (fun c2 => ?_) (fun c2 => ?_)
    · walk_at "rd"
      refine kf ?_
      unfold isWordS
      rw [decide_eq_false (p := x.length ≤ 8) (by omega), Bool.and_false, Bool.false_and, Bool.false_and]
    walk_at "rd"
    refine ifd (fun c3 => ?_) (fun c3 => ?_)
    · walk_at "rd"
      refine kf ?_
      unfold isWordS
      cases c3
      rw [decide_eq_true (p := ("unsure" : Str) = "unsure") rfl, Bool.not_true, Bool.and_false, Bool.false_and]
    have c3 : x ≠ "unsure" := fun e => c3 (by rw [e])
    walk_at "rd"
    refine r_LcSf (f := fun c => !isSgn c) (i := 1) (by omega) (fun c H' R h => ?_) (fun c H' R h => ?_) (fun _ => rfl) fun p hp => ?_
    · walk_at "rd"
      exact h
    · walk_at "rd"
      exact h
    walk_at "rd"
    refine ⟨by decide, fun q hq => ?_⟩
    have e1 : upd (upd H p (.lst ((x.cps.toList.filter fun c => !isSgn c).map fun c => V.str ⟨#[c]⟩))) q (.lst []) p = some (.lst ((x.cps.toList.filter fun c => !isSgn c).map fun c => V.str ⟨#[c]⟩)) := by
      rw [upd_ne (Ne.symm (Ne.symm (ne_of_none upd_same hq)))]
      exact upd_same
    refine r_eqNL (SqL.of e1) (SqL.of upd_same) ?_
    have q := k _ ((Kp.nil.new hp).new (o := .lst []) hq)
    unfold isWordS at q
    rw [decide_eq_true (by omega), decide_eq_true (by omega), decide_eq_false c3, Bool.not_false, Bool.true_and, Bool.true_and, Bool.true_and] at q
    rw [List.isEmpty_map, filter_all]
    exact q
  | _ => walk_at "rd"; exact k _ Kp.nil
abbrev sis_name : Stmt := topS 20
abbrev Nis_name : List Str := ["value", "sign"]
abbrev Pis_name : List Str := ["value"]
theorem scis_name : FnScope Nis_name Pis_name (defScope sis_name) :=
  ⟨rfl, rfl, rfl, by decide +kernel, rfl, by decide +kernel, by decide +kernel⟩
theorem ok_is_name (D : Df K mg "is_name" sis_name Pis_name) (B : Blt mg) {t1 t2 t3 : Tok} (g_MAX_NAME : mg "MAX_NAME" = some (.int 8 t1)) (g_LETTERS : mg "LETTERS" = some (.str LETT t2)) {aK : Addr} (g_KEPT : mg "KEPT" = some (.ref aK)) (hK : ∀ H : Hp, SqT K H aK (KEPTS.map V.str)) (g_SIGNS : mg "SIGNS" = some (.str SGN t3)) :
    Has P w K mg base CX0 "is_name" Pis_name 1 (spAsk K isName) := by
  refine D.has scis_name (fun vs H Q E h => ?_) (fun f cdv A outer s H vs Q E hr h => ?_)
  · obtain ⟨v, d, rfl, _⟩ := h
    rfl
  obtain ⟨v, d, rfl, hd, hz, k⟩ := h
  refine ⟨_, (pss_cons (ps_if (PW.pt (pw_or (pt_not (pt_val (pe_callB c_is2 (by rfl) B.isinstance (by decide +kernel) (pa_cons (pv 0) (pa_cons (pe_ty (T := "str") (by rfl) B.str (by decide +kernel)) pa_nil))))) (pw_or (pt_not (pt_chain op_le op_le pe_int (pe_callB c_len (by rfl) B.len (by decide +kernel) (pa_cons (pv 0) pa_nil)) (pe_gint (by rfl) g_MAX_NAME))) (pw_or1 (pt_cmpR op_notinC (pe_ix ix_str (pv 0) pe_int (fun _ _ => rfl)) (pe_gstr (by rfl) g_LETTERS) (by rfl)))))) (pss_one (ps_ret pe_bl))
        pss_nil)
      (pss_one (ps_ret (pe_and (pe_cmpR (op_eqNil hr.h64) (pe_lc (own := [("sign", 1)]) (g := gName 1) (by rfl) scis_name.nd (pi_str (pv 0)) (blkOk_by (own := [("sign", 1)]) (N := Nis_name) (sc := defScope sis_name) (by decide +kernel)) (fun _ _ _ _ _ => (pg_name (i := 1) scis_name.nd rfl (Or.inl rfl))) (fun _ _ _ _ _ => (pts_one (pt_cmpR op_notinC (pv 1) (pe_gstr (by rfl) g_SIGNS) (by rfl)))) (fun _ _ _ _ _ => (pv 1))) (pe_lst pa_nil) (nomark _)) (pe_one (pe_cmpR op_notIn_seq (pv 0) (pe_gref (by rfl) g_KEPT) (by rfl))))))), ?_⟩
  cases d with
  | str x =>
    obtain rfl := hd.isStr
    rw [dsz] at hz
    change ∀ H', Kp [] H H' → Q (.bl (isNameS x)) H' at k
    have kf : isNameS x = false → Q (.bl false) H := fun e => by
      have q := k H Kp.nil
      rw [e] at q
      exact q
    walk_at "rd"
    rotate_left 1
    · walk_at "sz"
    refine ifd (fun c1 => ?_) (fun c1 => ?_)
    rotate_left 1
    · walk_at "rd"
      refine kf ?_
      unfold isNameS
      rw [decide_eq_false (by omega), Bool.false_and, Bool.false_and, Bool.false_and, Bool.false_and]
    walk_at "rd"
    refine ifn (fun c2 => ?_) (fun c2 => ?_)
    · walk_at "rd"
      refine kf ?_
      unfold isNameS
      rw [decide_eq_false (p := x.length ≤ 8) (by omega), Bool.and_false, Bool.false_and, Bool.false_and, Bool.false_and]
    walk_at "rd"
    have hne : x.cps.toList ≠ [] := fun e => by
      have q : x.cps.toList.length = x.length := by rw [Array.length_toList]; rfl
      rw [e, List.length_nil] at q
      omega
    obtain ⟨c0, cr, hc0⟩ := List.exists_cons_of_ne_nil hne
    have hat : atI x.cps.toList 0 = some c0 := at_nn (Int.le_refl 0) (by rw [hc0]; rfl)
    have hlet : x.cps.toList.headD 0 = c0 := by rw [hc0]; rfl
    refine r_ixS (by walk_at "sz") hat ?_
    walk_at "rd"
    refine ifn (fun c3 => ?_) (fun c3 => ?_)
    · walk_at "rd"
      refine kf ?_
      unfold isNameS isLet
      rw [hlet, decide_eq_false (p := c0 ∈ LETT.cps.toList) c3, Bool.and_false, Bool.false_and, Bool.false_and]
    walk_at "rd"
    refine r_LcSf (f := fun c => !isSgn c) (i := 1) (by omega) (fun c H' R h => ?_) (fun c H' R h => ?_) (fun _ => rfl) fun p hp => ?_
    · walk_at "rd"
      exact h
    · walk_at "rd"
      exact h
    walk_at "rd"
    refine ⟨by decide, fun q hq => ?_⟩
    have e1 : upd (upd H p (.lst ((x.cps.toList.filter fun c => !isSgn c).map fun c => V.str ⟨#[c]⟩))) q (.lst []) p = some (.lst ((x.cps.toList.filter fun c => !isSgn c).map fun c => V.str ⟨#[c]⟩)) := by
      rw [upd_ne (Ne.symm (Ne.symm (ne_of_none upd_same hq)))]
      exact upd_same
    refine r_eqNL (SqL.of e1) (SqL.of upd_same) ?_
    have q := k _ ((Kp.nil.new hp).new (o := .lst []) hq)
    unfold isNameS isLet at q
    rw [hlet, decide_eq_true (by omega), decide_eq_true (by omega), decide_eq_true c3, Bool.true_and, Bool.true_and, Bool.true_and] at q
    rw [List.isEmpty_map, filter_all]
    walk_at "rd"
    cases hall : x.cps.toList.all isSgn with
    | false =>
      rw [hall, Bool.false_and] at q
      walk_at "rd"
      exact q
    | true =>
      rw [hall, Bool.true_and] at q
      walk_at "rd"
      refine ⟨aK, _, rfl, .inr (hK _), rfl, by decide +kernel, ?_⟩
      rw [if_pos rfl, inV_strs]
      exact q
  | _ => walk_at "rd"; exact k _ Kp.nil
abbrev sis_expression : Stmt := topS 21
abbrev Nis_expression : List Str := ["value", "left"]
abbrev Pis_expression : List Str := ["value", "left"]
theorem scis_expression : FnScope Nis_expression Pis_expression (defScope sis_expression) :=
  ⟨rfl, rfl, rfl, by decide +kernel, rfl, by decide +kernel, by decide +kernel⟩
theorem ok_is_expression1 (D : Df K mg "is_expression" sis_expression Pis_expression) (B : Blt mg) {n lv : Nat} {sp2 : Sp} {t1 t2 : Tok} (hlv : 1 ≤ lv)
    (g_MOST_NUMBER : mg "MOST_NUMBER" = some (.int 99 t1)) (g_MOST_FACTOR : mg "MOST_FACTOR" = some (.int 9 t2))
    (Gis_whole : Has P w K mg base CX0 "is_whole" ["value", "least", "most"] 1 (spWhole K)) (Gis_name : Has P w K mg base CX0 "is_name" ["value"] 1 (spAsk K isName))
    (Gis_expression : Has P w K mg base CX0 "is_expression" Pis_expression lv sp2) (hs : ∀ m, n = m + 1 → sp2 = spAskN K isExpr m) :
    Has P w K mg base CX0 "is_expression" Pis_expression (lv + 1) (spAskN K isExpr n) := by
  refine D.has scis_expression (fun vs H Q E h => ?_) (fun f cdv A outer s H vs Q E hr h => ?_)
  · obtain ⟨v, d, rfl, _⟩ := h
    rfl
  obtain ⟨v, d, rfl, hd, hz, k⟩ := h
  refine ⟨_, (pss_cons (ps_if (pt_cmpR op_eq (pv 1) pe_int (nomark _)) (pss_one (ps_ret pe_bl))
        pss_nil)
      (pss_cons (ps_if (pt_not (pt_val (pe_callB c_is2 (by rfl) B.isinstance (by decide +kernel) (pa_cons (pv 0) (pa_cons (pe_ty (T := "tuple") (by rfl) B.tuple (by decide +kernel)) pa_nil))))) (pss_one (ps_ret (pe_or (pe_f Gis_name (hr.mono (by omega)) (by rfl) pass0 (pa_cons (pv 0) pa_nil)) (pe_one (pe_f Gis_whole (hr.mono (by omega)) (by rfl) pass0 (pa_cons (pv 0) (pa_cons (pe_op op_sub pe_int (pe_gint (by rfl) g_MOST_NUMBER)) (pa_cons (pe_gint (by rfl) g_MOST_NUMBER) pa_nil))))))))
        pss_nil)
      (pss_cons (ps_if (PW.pt (pw_or (pt_cmpR op_ne (pe_callB c_len (by rfl) B.len (by decide +kernel) (pa_cons (pv 0) pa_nil)) pe_int (nomark _)) (pw_or (pt_not (pt_val (pe_callB c_is2 (by rfl) B.isinstance (by decide +kernel) (pa_cons (pe_ix ix_tup (pv 0) pe_int (fun _ _ => rfl)) (pa_cons (pe_ty (T := "str") (by rfl) B.str (by decide +kernel)) pa_nil))))) (pw_or1 (pt_not (pt_val (pe_f Gis_expression (hr.mono (by omega)) (by rfl) pass0 (pa_cons (pe_ix ix_tup (pv 0) pe_int (fun _ _ => rfl)) (pa_cons (pe_op op_sub (pv 1) pe_int) pa_nil))))))))) (pss_one (ps_ret pe_bl))
        pss_nil)
      (pss_cons (ps_if (pt_cmpR op_eq (pe_ix ix_tup (pv 0) pe_int (fun _ _ => rfl)) pe_str (nomark _)) (pss_one (ps_ret (pe_f Gis_whole (hr.mono (by omega)) (by rfl) pass0 (pa_cons (pe_ix ix_tup (pv 0) pe_int (fun _ _ => rfl)) (pa_cons (pe_op op_sub pe_int (pe_gint (by rfl) g_MOST_FACTOR)) (pa_cons (pe_gint (by rfl) g_MOST_FACTOR) pa_nil))))))
        pss_nil)
      (pss_one (ps_ret (pe_and (pe_cmpR op_in_seq (pe_ix ix_tup (pv 0) pe_int (fun _ _ => rfl)) (pe_tup (pa_cons pe_str (pa_cons pe_str pa_nil))) (by rfl)) (pe_one (pe_f Gis_expression (hr.mono (by omega)) (by rfl) pass0 (pa_cons (pe_ix ix_tup (pv 0) pe_int (fun _ _ => rfl)) (pa_cons (pe_op op_sub (pv 1) pe_int) pa_nil))))))))))), ?_⟩
  walk_at "rd"
  refine ifd (fun c => ?_) (fun c => ?_)
  · obtain rfl : n = 0 := by
      have q := V.int.inj c
      omega
    walk_at "rd"
    exact k _ Kp.nil
  obtain ⟨m, rfl⟩ : ∃ m, n = m + 1 := ⟨n - 1, by
    have q : n ≠ 0 := fun e => c (by rw [e]; rfl)
    omega⟩
  obtain rfl := hs m rfl
  have em : ((m + 1 : Nat) : Int) - 1 = (m : Int) := by omega
  cases d with
  | tuple ds =>
    obtain ⟨a, xs, rfl, hT, hL⟩ := hd.items
    rw [dsz] at hz
    change ∀ H', Kp [] H H' → Q (.bl (isExprL (isExpr m) ds)) H' at k
    walk_at "rd"
    refine ifn (fun c1 => ?_) (fun c1 => ?_)
    · walk_at "rd"
      have q := k _ Kp.nil
      rw [isExprL_len (fun e => c1 (by rw [hL.len, e]; rfl))] at q
      exact q
    have c1 : xs.length = 3 := by
      have q := V.int.inj c1
      omega
    obtain ⟨x, y, z, d0, d1, d2, rfl, rfl, h0, h1, h2⟩ := hL.is3 c1
    simp only [dszs] at hz
    walk_at "rd"
    cases hx : isaD d0 "str" with
    | false =>
      walk_at "rd"
      have q := k _ Kp.nil
      rw [isExprL_str hx] at q
      exact q
    | true =>
      obtain ⟨u, rfl⟩ := isStr_of hx
      obtain rfl := h0.isStr
      walk_at "rd"
      refine ⟨z, d2, by rw [em]; rfl, h2, by omega, fun H1 k1 => ?_⟩
      have hT1 := sqT_kp k1 hT
      cases he : isExpr m d2 with
      | false =>
        walk_at "rd"
        have q := k _ k1
        rw [isExprL, he, Bool.false_and] at q
        exact q
      | true =>
        rw [isExprL, he, Bool.true_and] at k
        walk_at "rd"
        refine ifd (fun c2 => ?_) (fun c2 => ?_)
        · walk_at "rd"
          refine ⟨y, d1, _, _, rfl, h1.kp0 k1, ?_⟩
          have q := k _ k1
          rw [if_pos (V.str.inj c2)] at q
          exact q
        have c2 : u ≠ "times" := fun e => c2 (by rw [e])
        simp only [if_neg c2] at k
        walk_at "rd"
        refine ⟨by decide, fun p hp => ?_⟩
        have k2 : Kp [] H (upd H1 p (.tup [.str "plus", .str "minus"])) := k1.new hp
        refine r_in (.inr (SqT.of upd_same)) rfl rfl ?_
        have e2 : inV (.str u) [.str "plus", .str "minus"] = (decide (u = "plus") || decide (u = "minus")) := inV_two u "plus" "minus"
        rw [e2]
        walk_at "rd"
        cases he2 : (decide (u = "plus") || decide (u = "minus")) with
        | false =>
          walk_at "rd"
          have q := k _ k2
          rw [he2, Bool.false_and] at q
          exact q
        | true =>
          have hT2 := sqT_kp k2 hT
          rw [he2, Bool.true_and] at k
          walk_at "rd"
          refine ⟨y, d1, by rw [em]; rfl, h1.kp0 k2, by omega, fun H3 k3 => ?_⟩
          exact k _ (k2.trans k3)
  | _ =>
    walk_at "rd"
    refine ⟨v, _, rfl, hd, hz, fun H1 k1 => ?_⟩
    have hd1 := hd.kp0 k1
    have q := k _ k1
    rw [isExpr, isExprW] at q
    · cases hN : isName _ with
      | true =>
        rw [hN, Bool.true_or] at q
        walk_at "rd"
        exact q
      | false =>
        rw [hN, Bool.false_or] at q
        walk_at "rd"
        exact ⟨v, _, _, _, rfl, hd1, q⟩
    · intro ds e
      cases e
abbrev sis_rest : Stmt := topS 22
abbrev Nis_rest : List Str := ["value"]
abbrev Pis_rest : List Str := ["value"]
theorem scis_rest : FnScope Nis_rest Pis_rest (defScope sis_rest) :=
  ⟨rfl, rfl, rfl, by decide +kernel, rfl, by decide +kernel, by decide +kernel⟩
theorem ok_is_rest (D : Df K mg "is_rest" sis_rest Pis_rest) (B : Blt mg) {lv : Nat} {t1 t2 : Tok} (hlv : 1 ≤ lv)
    (g_MAX_DEEP : mg "MAX_DEEP" = some (.int 3 t1)) (g_MAX_BY : mg "MAX_BY" = some (.int 6 t2))
    (Gis_whole : Has P w K mg base CX0 "is_whole" ["value", "least", "most"] 1 (spWhole K))
    (Gis_expression : Has P w K mg base CX0 "is_expression" ["value", "left"] lv (spAskN K isExpr 3)) :
    Has P w K mg base CX0 "is_rest" Pis_rest (lv + 1) (spAskL K isRestL) := by
  refine D.has scis_rest (fun vs H Q E h => ?_) (fun f cdv A outer s H vs Q E hr h => ?_)
  · obtain ⟨v, ds, rfl, _⟩ := h
    rfl
  obtain ⟨v, ds, rfl, hd, hz, k⟩ := h
  refine ⟨_, (pss_cons (ps_if (PW.pt (pw_or (pt_cmpR op_ne (pe_callB c_len (by rfl) B.len (by decide +kernel) (pa_cons (pv 0) pa_nil)) pe_int (nomark _)) (pw_or (pt_not (pt_val (pe_f Gis_expression (hr.mono (by omega)) (by rfl) pass0 (pa_cons (pe_ix ix_tup (pv 0) pe_int (fun _ _ => rfl)) (pa_cons (pe_gint (by rfl) g_MAX_DEEP) pa_nil))))) (pw_or1 (pt_not (pt_val (pe_f Gis_whole (hr.mono (by omega)) (by rfl) pass0 (pa_cons (pe_ix ix_tup (pv 0) pe_int (fun _ _ => rfl)) (pa_cons pe_int (pa_cons (pe_gint (by rfl) g_MAX_BY) pa_nil)))))))))) (pss_one (ps_ret pe_bl))
        pss_nil)
      (pss_one (ps_ret (pe_f Gis_whole (hr.mono (by omega)) (by rfl) pass0 (pa_cons (pe_ix ix_tup (pv 0) pe_int (fun _ _ => rfl)) (pa_cons pe_int (pa_cons (pe_op op_sub (pe_ix ix_tup (pv 0) pe_int (fun _ _ => rfl)) pe_int) pa_nil))))))), ?_⟩
  obtain ⟨a, xs, rfl, hT, hL⟩ := hd.items
  walk_at "rd"
  refine ifn (fun c1 => ?_) (fun c1 => ?_)
  · walk_at "rd"
    have q := k _ Kp.nil
    rw [isRestL_len (fun e => c1 (by rw [hL.len, e]; rfl))] at q
    exact q
  have c1 : xs.length = 4 := by
    have q := V.int.inj c1
    omega
  obtain ⟨x, y, z, u, d0, d1, d2, d3, rfl, rfl, h0, h1, h2, h3⟩ := hL.is4 c1
  simp only [dszs] at hz
  rw [isRestL4] at k
  walk_at "rd"
  refine ⟨y, d1, rfl, h1, by omega, fun H1 k1 => ?_⟩
  have hT1 := sqT_kp k1 hT
  cases he : isExpr 3 d1 with
  | false =>
    walk_at "rd"
    have q := k _ k1
    rw [he, Bool.false_and] at q
    exact q
  | true =>
    rw [he, Bool.true_and] at k
    walk_at "rd"
    refine ⟨z, d2, _, _, rfl, h2.kp0 k1, ?_⟩
    cases hw : isWhole 2 6 d2 with
    | false =>
      walk_at "rd"
      have q := k _ k1
      rw [hw, Bool.false_and] at q
      exact q
    | true =>
      rw [hw, Bool.true_and] at k
      obtain ⟨i, rfl, i1, i2⟩ := whole_view hw
      obtain rfl := h2.isInt
      walk_at "rd"
      exact ⟨u, d3, _, _, rfl, h3.kp0 k1, k _ k1⟩
abbrev sis_test : Stmt := topS 23
abbrev Nis_test : List Str := ["value", "nots"]
abbrev Pis_test : List Str := ["value", "nots"]
theorem scis_test : FnScope Nis_test Pis_test (defScope sis_test) :=
  ⟨rfl, rfl, rfl, by decide +kernel, rfl, by decide +kernel, by decide +kernel⟩
theorem ok_is_test1 (D : Df K mg "is_test" sis_test Pis_test) (B : Blt mg) {n lv : Nat} {sp2 : Sp} {t1 : Tok} (hlv : 6 ≤ lv)
    (g_MAX_DEEP : mg "MAX_DEEP" = some (.int 3 t1)) (Gis_rest : Has P w K mg base CX0 "is_rest" ["value"] 6 (spAskL K isRestL))
    (Gis_name : Has P w K mg base CX0 "is_name" ["value"] 1 (spAsk K isName)) (Gis_expression : Has P w K mg base CX0 "is_expression" ["value", "left"] 5 (spAskN K isExpr 3))
    (Gis_test : Has P w K mg base CX0 "is_test" Pis_test lv sp2) (hs : ∀ m, n = m + 1 → sp2 = spAskN K isTest m) :
    Has P w K mg base CX0 "is_test" Pis_test (lv + 1) (spAskN K isTest n) := by
  refine D.has scis_test (fun vs H Q E h => ?_) (fun f cdv A outer s H vs Q E hr h => ?_)
  · obtain ⟨v, d, rfl, _⟩ := h
    rfl
  obtain ⟨v, d, rfl, hd, hz, k⟩ := h
  refine ⟨_, (pss_cons (ps_if (PW.pt (pw_or (pt_not (pt_val (pe_callB c_is2 (by rfl) B.isinstance (by decide +kernel) (pa_cons (pv 0) (pa_cons (pe_ty (T := "tuple") (by rfl) B.tuple (by decide +kernel)) pa_nil))))) (pw_or (pt_cmpR op_eq (pe_callB c_len (by rfl) B.len (by decide +kernel) (pa_cons (pv 0) pa_nil)) pe_int (nomark _)) (pw_or1 (pt_not (pt_val (pe_callB c_is2 (by rfl) B.isinstance (by decide +kernel) (pa_cons (pe_ix ix_tup (pv 0) pe_int (fun _ _ => rfl)) (pa_cons (pe_ty (T := "str") (by rfl) B.str (by decide +kernel)) pa_nil))))))))) (pss_one (ps_ret pe_bl))
        pss_nil)
      (pss_cons (ps_if (pt_cmpR op_eq (pe_ix ix_tup (pv 0) pe_int (fun _ _ => rfl)) pe_str (nomark _)) (pss_one (ps_ret (pe_and (pe_cmpR op_eq (pe_callB c_len (by rfl) B.len (by decide +kernel) (pa_cons (pv 0) pa_nil)) pe_int (nomark _)) (pe_and (pe_f Gis_expression (hr.mono (by omega)) (by rfl) pass0 (pa_cons (pe_ix ix_tup (pv 0) pe_int (fun _ _ => rfl)) (pa_cons (pe_gint (by rfl) g_MAX_DEEP) pa_nil))) (pe_one (pe_f Gis_expression (hr.mono (by omega)) (by rfl) pass0 (pa_cons (pe_ix ix_tup (pv 0) pe_int (fun _ _ => rfl)) (pa_cons (pe_gint (by rfl) g_MAX_DEEP) pa_nil))))))))
        pss_nil)
      (pss_cons (ps_if (pt_cmpR op_eq (pe_ix ix_tup (pv 0) pe_int (fun _ _ => rfl)) pe_str (nomark _)) (pss_one (ps_ret (pe_f Gis_rest (hr.mono (by omega)) (by rfl) pass0 (pa_cons (pv 0) pa_nil))))
        pss_nil)
      (pss_cons (ps_if (pt_cmpR op_eq (pe_ix ix_tup (pv 0) pe_int (fun _ _ => rfl)) pe_str (nomark _)) (pss_one (ps_ret (pe_and (pe_cmpR op_eq (pe_callB c_len (by rfl) B.len (by decide +kernel) (pa_cons (pv 0) pa_nil)) pe_int (nomark _)) (pe_one (pe_f Gis_name (hr.mono (by omega)) (by rfl) pass0 (pa_cons (pe_ix ix_tup (pv 0) pe_int (fun _ _ => rfl)) pa_nil))))))
        pss_nil)
      (pss_one (ps_ret (pe_and (pe_cmpR op_eq (pe_ix ix_tup (pv 0) pe_int (fun _ _ => rfl)) pe_str (nomark _)) (pe_and (pe_cmpR op_eq (pe_callB c_len (by rfl) B.len (by decide +kernel) (pa_cons (pv 0) pa_nil)) pe_int (nomark _)) (pe_and (pe_cmpR op_gt (pv 1) pe_int (nomark _)) (pe_one (pe_f Gis_test (hr.mono (by omega)) (by rfl) pass0 (pa_cons (pe_ix ix_tup (pv 0) pe_int (fun _ _ => rfl)) (pa_cons (pe_op op_sub (pv 1) pe_int) pa_nil))))))))))))), ?_⟩
  obtain ⟨F, hF, hF2⟩ : ∃ F : PyData → Bool, isTest n d = isTestW F d ∧ ((n = 0 ∧ F = fun _ => false) ∨ ∃ m, n = m + 1 ∧ F = isTest m) := isTest_F n d
  rw [hF] at k
  cases d with
  | tuple ds =>
    obtain ⟨a, xs, rfl, hT, hL⟩ := hd.items
    rw [dsz] at hz
    cases ds with
    | nil =>
      obtain rfl := hL.inv0
      walk_at "rd"
      exact k _ Kp.nil
    | cons d0 r =>
      obtain ⟨x, ys, rfl, h0, hR⟩ := hL.inv
      rw [dszs] at hz
      have hlen := hR.len
      walk_at "rd"
      refine ifd (fun c => ?_) (fun _ => ?_)
      · have q := V.int.inj c
        rw [List.length_cons] at q
        omega
      have hx0 : atI (x :: ys) 0 = some x := at_nn (Int.le_refl 0) rfl
      walk_at "rd"
      cases hx : isaD d0 "str" with
      | false =>
        walk_at "rd"
        have q := k _ Kp.nil
        rw [isTestW_str hx] at q
        exact q
      | true =>
        obtain ⟨u, rfl⟩ := isStr_of hx
        obtain rfl := h0.isStr
        change ∀ H', Kp [] H H' → Q (.bl (isTestL F u r)) H' at k
        unfold isTestL at k
        walk_at "rd"
        refine ifd (fun c1 => ?_) (fun c1 => ?_)
        · simp only [if_pos (V.str.inj c1)] at k
          walk_at "rd"
          refine ifd (fun c2 => ?_) (fun c2 => ?_)
          rotate_left 1
          · have q := k _ Kp.nil
            rw [two_len (fun e => c2 (by rw [List.length_cons, hlen, e]; rfl))] at q
            exact q
          have c2 : ys.length = 2 := by
            have q := V.int.inj c2
            rw [List.length_cons] at q
            omega
          obtain ⟨y, z, d1, d2, rfl, rfl, h1, h2⟩ := hR.is2 c2
          simp only [dszs] at hz
          simp only [two] at k
          walk_at "rd"
          refine ⟨y, d1, rfl, h1, by omega, fun H1 k1 => ?_⟩
          have hT1 := sqT_kp k1 hT
          cases he : isExpr 3 d1 with
          | false =>
            walk_at "rd"
            have q := k _ k1
            rw [he, Bool.false_and] at q
            exact q
          | true =>
            rw [he] at k
            simp only [Bool.true_and] at k
            walk_at "rd"
            exact ⟨z, d2, rfl, h2.kp0 k1, by omega, fun H2 k2 => k _ (k1.trans k2)⟩
        have c1 : u ≠ "less" := fun e => c1 (by rw [e])
        simp only [if_neg c1] at k
        walk_at "rd"
        refine ifd (fun c2 => ?_) (fun c2 => ?_)
        · simp only [if_pos (V.str.inj c2)] at k
          walk_at "rd"
          exact ⟨_, _, rfl, hd, by rw [dszs]; omega, k⟩
        have c2 : u ≠ "rest" := fun e => c2 (by rw [e])
        simp only [if_neg c2] at k
        walk_at "rd"
        refine ifd (fun c3 => ?_) (fun c3 => ?_)
        · simp only [if_pos (V.str.inj c3)] at k
          walk_at "rd"
          refine ifd (fun c4 => ?_) (fun c4 => ?_)
          rotate_left 1
          · have q := k _ Kp.nil
            rw [one_len (fun e => c4 (by rw [List.length_cons, hlen, e]; rfl))] at q
            exact q
          have c4 : ys.length = 1 := by
            have q := V.int.inj c4
            rw [List.length_cons] at q
            omega
          obtain ⟨y, d1, rfl, rfl, h1⟩ := hR.is1 c4
          simp only [dszs] at hz
          walk_at "rd"
          exact ⟨y, d1, rfl, h1, by omega, k⟩
        have c3 : u ≠ "given" := fun e => c3 (by rw [e])
        simp only [if_neg c3] at k
        walk_at "rd"
        refine ifd (fun c4 => ?_) (fun c4 => ?_)
        rotate_left 1
        · have c4 : u ≠ "not" := fun e => c4 (by rw [e])
          simp only [if_neg c4] at k
          exact k _ Kp.nil
        simp only [if_pos (V.str.inj c4)] at k
        walk_at "rd"
        refine ifd (fun c5 => ?_) (fun c5 => ?_)
        rotate_left 1
        · have q := k _ Kp.nil
          rw [one_len (fun e => c5 (by rw [List.length_cons, hlen, e]; rfl))] at q
          exact q
        have c5 : ys.length = 1 := by
          have q := V.int.inj c5
          rw [List.length_cons] at q
          omega
        obtain ⟨y, d1, rfl, rfl, h1⟩ := hR.is1 c5
        simp only [dszs] at hz
        walk_at "rd"
        refine ifd (fun c6 => ?_) (fun c6 => ?_)
        rotate_left 1
        · rcases hF2 with ⟨rfl, rfl⟩ | ⟨m, rfl, _⟩
          · exact k _ Kp.nil
          · omega
        rcases hF2 with ⟨rfl, rfl⟩ | ⟨m, rfl, rfl⟩
        · omega
        obtain rfl := hs m rfl
        have em : ((m + 1 : Nat) : Int) - 1 = (m : Int) := by omega
        walk_at "rd"
        exact ⟨y, d1, by rw [em]; rfl, h1, by omega, k⟩
  | _ => walk_at "rd"; exact k _ Kp.nil
abbrev sis_plain : Stmt := topS 24
abbrev Nis_plain : List Str := ["value"]
abbrev Pis_plain : List Str := ["value"]
theorem scis_plain : FnScope Nis_plain Pis_plain (defScope sis_plain) :=
  ⟨rfl, rfl, rfl, by decide +kernel, rfl, by decide +kernel, by decide +kernel⟩
theorem ok_is_plain (D : Df K mg "is_plain" sis_plain Pis_plain) (B : Blt mg) {t1 : Tok}
    (g_MAX_DEEP : mg "MAX_DEEP" = some (.int 3 t1)) (Gis_word : Has P w K mg base CX0 "is_word" ["value"] 1 (spAsk K isWord))
    (Gis_name : Has P w K mg base CX0 "is_name" ["value"] 1 (spAsk K isName)) (Gis_expression : Has P w K mg base CX0 "is_expression" ["value", "left"] 5 (spAskN K isExpr 3)) :
    Has P w K mg base CX0 "is_plain" Pis_plain 6 (spAskT K isPlainL) := by
  refine D.has scis_plain (fun vs H Q E h => ?_) (fun f cdv A outer s H vs Q E hr h => ?_)
  · obtain ⟨v, w, r, rfl, _⟩ := h
    rfl
  obtain ⟨v, u, r, rfl, hd, hz, k⟩ := h
  refine ⟨_, (pss_cons (ps_if (pt_cmpR op_eq (pe_ix ix_tup (pv 0) pe_int (fun _ _ => rfl)) pe_str (nomark _)) (pss_one (ps_ret (pe_and (pe_cmpR op_eq (pe_callB c_len (by rfl) B.len (by decide +kernel) (pa_cons (pv 0) pa_nil)) pe_int (nomark _)) (pe_and (pe_f Gis_name (hr.mono (by omega)) (by rfl) pass0 (pa_cons (pe_ix ix_tup (pv 0) pe_int (fun _ _ => rfl)) pa_nil)) (pe_one (pe_f Gis_expression (hr.mono (by omega)) (by rfl) pass0 (pa_cons (pe_ix ix_tup (pv 0) pe_int (fun _ _ => rfl)) (pa_cons (pe_gint (by rfl) g_MAX_DEEP) pa_nil))))))))
        pss_nil)
      (pss_cons (ps_if (pt_cmpR op_eq (pe_ix ix_tup (pv 0) pe_int (fun _ _ => rfl)) pe_str (nomark _)) (pss_one (ps_ret (pe_and (pe_cmpR op_eq (pe_callB c_len (by rfl) B.len (by decide +kernel) (pa_cons (pv 0) pa_nil)) pe_int (nomark _)) (pe_one (pe_f Gis_name (hr.mono (by omega)) (by rfl) pass0 (pa_cons (pe_ix ix_tup (pv 0) pe_int (fun _ _ => rfl)) pa_nil))))))
        pss_nil)
      (pss_cons (ps_if (pt_cmpR op_eq (pe_ix ix_tup (pv 0) pe_int (fun _ _ => rfl)) pe_str (nomark _)) (pss_one (ps_ret (pe_and (pe_cmpR op_eq (pe_callB c_len (by rfl) B.len (by decide +kernel) (pa_cons (pv 0) pa_nil)) pe_int (nomark _)) (pe_one (pe_f Gis_expression (hr.mono (by omega)) (by rfl) pass0 (pa_cons (pe_ix ix_tup (pv 0) pe_int (fun _ _ => rfl)) (pa_cons (pe_gint (by rfl) g_MAX_DEEP) pa_nil)))))))
        pss_nil)
      (pss_one (ps_ret (pe_and (pe_cmpR op_in_seq (pe_ix ix_tup (pv 0) pe_int (fun _ _ => rfl)) (pe_tup (pa_cons pe_str (pa_cons pe_str pa_nil))) (by rfl)) (pe_and (pe_cmpR op_eq (pe_callB c_len (by rfl) B.len (by decide +kernel) (pa_cons (pv 0) pa_nil)) pe_int (nomark _)) (pe_one (pe_f Gis_word (hr.mono (by omega)) (by rfl) pass0 (pa_cons (pe_ix ix_tup (pv 0) pe_int (fun _ _ => rfl)) pa_nil)))))))))), ?_⟩
  obtain ⟨a, xs, rfl, hT, hL⟩ := hd.items
  obtain ⟨x, ys, rfl, h0, hR⟩ := hL.inv
  obtain rfl := h0.isStr
  have hlen := hR.len
  have hx0 : atI (V.str u :: ys) 0 = some (V.str u) := at_nn (Int.le_refl 0) rfl
  unfold isPlainL at k
  walk_at "rd"
  refine ifd (fun c1 => ?_) (fun c1 => ?_)
  · simp only [if_pos (V.str.inj c1)] at k
    walk_at "rd"
    refine ifd (fun c2 => ?_) (fun c2 => ?_)
    rotate_left 1
    · have q := k _ Kp.nil
      rw [two_len (fun e => c2 (by rw [List.length_cons, hlen, e]; rfl))] at q
      exact q
    have c2 : ys.length = 2 := by
      have q := V.int.inj c2
      rw [List.length_cons] at q
      omega
    obtain ⟨y, z, d1, d2, rfl, rfl, h1, h2⟩ := hR.is2 c2
    simp only [dszs] at hz
    simp only [two] at k
    walk_at "rd"
    refine ⟨y, d1, rfl, h1, by omega, fun H1 k1 => ?_⟩
    have hT1 := sqT_kp k1 hT
    cases he : isName d1 with
    | false =>
      walk_at "rd"
      have q := k _ k1
      rw [he, Bool.false_and] at q
      exact q
    | true =>
      rw [he] at k
      simp only [Bool.true_and] at k
      walk_at "rd"
      exact ⟨z, d2, rfl, h2.kp0 k1, by omega, fun H2 k2 => k _ (k1.trans k2)⟩
  have c1 : u ≠ "set" := fun e => c1 (by rw [e])
  simp only [if_neg c1] at k
  walk_at "rd"
  refine ifd (fun c3 => ?_) (fun c3 => ?_)
  · simp only [if_pos (V.str.inj c3)] at k
    walk_at "rd"
    refine ifd (fun c4 => ?_) (fun c4 => ?_)
    rotate_left 1
    · have q := k _ Kp.nil
      rw [one_len (fun e => c4 (by rw [List.length_cons, hlen, e]; rfl))] at q
      exact q
    have c4 : ys.length = 1 := by
      have q := V.int.inj c4
      rw [List.length_cons] at q
      omega
    obtain ⟨y, d1, rfl, rfl, h1⟩ := hR.is1 c4
    simp only [dszs] at hz
    walk_at "rd"
    exact ⟨y, d1, rfl, h1, by omega, k⟩
  have c3 : u ≠ "unset" := fun e => c3 (by rw [e])
  simp only [if_neg c3] at k
  walk_at "rd"
  refine ifd (fun c5 => ?_) (fun c5 => ?_)
  · simp only [if_pos (V.str.inj c5)] at k
    walk_at "rd"
    refine ifd (fun c4 => ?_) (fun c4 => ?_)
    rotate_left 1
    · have q := k _ Kp.nil
      rw [one_len (fun e => c4 (by rw [List.length_cons, hlen, e]; rfl))] at q
      exact q
    have c4 : ys.length = 1 := by
      have q := V.int.inj c4
      rw [List.length_cons] at q
      omega
    obtain ⟨y, d1, rfl, rfl, h1⟩ := hR.is1 c4
    simp only [dszs] at hz
    walk_at "rd"
    exact ⟨y, d1, rfl, h1, by omega, k⟩
  have c5 : u ≠ "tell" := fun e => c5 (by rw [e])
  simp only [if_neg c5] at k
  walk_at "rd"
  refine ⟨by decide, fun p hp => ?_⟩
  have k2 : Kp [] H (upd H p (.tup [.str "say", .str "stop"])) := Kp.nil.new hp
  have hT2 := sqT_kp k2 hT
  refine r_in (.inr (SqT.of upd_same)) rfl rfl ?_
  rw [inV_two u "say" "stop"]
  generalize upd H p (.tup [.str "say", .str "stop"]) = H2 at k2 hT2 ⊢
  cases he2 : (decide (u = "say") || decide (u = "stop")) with
  | false =>
    walk_at "rd"
    have q := k _ k2
    rw [if_neg (by intro e; rw [Bool.or_eq_false_iff, decide_eq_false_iff_not, decide_eq_false_iff_not] at he2; exact e.elim he2.1 he2.2)] at q
    exact q
  | true =>
    rw [Bool.or_eq_true, decide_eq_true_eq, decide_eq_true_eq] at he2
    simp only [if_pos he2] at k
    walk_at "rd"
    refine ifd (fun c4 => ?_) (fun c4 => ?_)
    rotate_left 1
    · have q := k _ k2
      rw [one_len (fun e => c4 (by rw [List.length_cons, hlen, e]; rfl))] at q
      exact q
    have c4 : ys.length = 1 := by
      have q := V.int.inj c4
      rw [List.length_cons] at q
      omega
    obtain ⟨y, d1, rfl, rfl, h1⟩ := hR.is1 c4
    simp only [dszs] at hz
    walk_at "rd"
    exact ⟨y, d1, rfl, h1.kp0 k2, by omega, fun H3 k3 => k _ (k2.trans k3)⟩
abbrev sis_statement : Stmt := topS 25
abbrev Nis_statement : List Str := ["value"]
abbrev Pis_statement : List Str := ["value"]
theorem scis_statement : FnScope Nis_statement Pis_statement (defScope sis_statement) :=
  ⟨rfl, rfl, rfl, by decide +kernel, rfl, by decide +kernel, by decide +kernel⟩
theorem ok_is_statement (D : Df K mg "is_statement" sis_statement Pis_statement) (B : Blt mg) {t1 t2 : Tok}
    (g_MAX_NOTS : mg "MAX_NOTS" = some (.int 2 t1)) (g_MAX_TIMES : mg "MAX_TIMES" = some (.int 8 t2)) (Gis_whole : Has P w K mg base CX0 "is_whole" ["value", "least", "most"] 1 (spWhole K))
    (Gis_test : Has P w K mg base CX0 "is_test" ["value", "nots"] 9 (spAskN K isTest 2)) (Gis_plain : Has P w K mg base CX0 "is_plain" ["value"] 6 (spAskT K isPlainL)) :
    Has P w K mg base CX0 "is_statement" Pis_statement 10 (spAsk K isStmt) := by
  refine D.has scis_statement (fun vs H Q E h => ?_) (fun f cdv A outer s H vs Q E hr h => ?_)
  · obtain ⟨v, d, rfl, _⟩ := h
    rfl
  obtain ⟨v, d, rfl, hd, hz, k⟩ := h
  refine ⟨_, (pss_cons (ps_if (PW.pt (pw_or (pt_not (pt_val (pe_callB c_is2 (by rfl) B.isinstance (by decide +kernel) (pa_cons (pv 0) (pa_cons (pe_ty (T := "tuple") (by rfl) B.tuple (by decide +kernel)) pa_nil))))) (pw_or (pt_cmpR op_eq (pe_callB c_len (by rfl) B.len (by decide +kernel) (pa_cons (pv 0) pa_nil)) pe_int (nomark _)) (pw_or1 (pt_not (pt_val (pe_callB c_is2 (by rfl) B.isinstance (by decide +kernel) (pa_cons (pe_ix ix_tup (pv 0) pe_int (fun _ _ => rfl)) (pa_cons (pe_ty (T := "str") (by rfl) B.str (by decide +kernel)) pa_nil))))))))) (pss_one (ps_ret pe_bl))
        pss_nil)
      (pss_cons (ps_if (pt_cmpR op_eq (pe_ix ix_tup (pv 0) pe_int (fun _ _ => rfl)) pe_str (nomark _)) (pss_cons (ps_if (PW.pt (pw_or (pt_cmpR op_ne (pe_callB c_len (by rfl) B.len (by decide +kernel) (pa_cons (pv 0) pa_nil)) pe_int (nomark _)) (pw_or1 (pt_not (pt_val (pe_f Gis_test (hr.mono (by omega)) (by rfl) pass0 (pa_cons (pe_ix ix_tup (pv 0) pe_int (fun _ _ => rfl)) (pa_cons (pe_gint (by rfl) g_MAX_NOTS) pa_nil)))))))) (pss_one (ps_ret pe_bl))
        pss_nil)
      (pss_one (ps_ret (pe_and (pe_callB c_is2 (by rfl) B.isinstance (by decide +kernel) (pa_cons (pe_ix ix_tup (pv 0) pe_int (fun _ _ => rfl)) (pa_cons (pe_ty (T := "tuple") (by rfl) B.tuple (by decide +kernel)) pa_nil))) (pe_one (pe_callB c_is2 (by rfl) B.isinstance (by decide +kernel) (pa_cons (pe_ix ix_tup (pv 0) pe_int (fun _ _ => rfl)) (pa_cons (pe_ty (T := "tuple") (by rfl) B.tuple (by decide +kernel)) pa_nil))))))))
        pss_nil)
      (pss_cons (ps_if (pt_cmpR op_eq (pe_ix ix_tup (pv 0) pe_int (fun _ _ => rfl)) pe_str (nomark _)) (pss_one (ps_ret (pe_and (pe_cmpR op_eq (pe_callB c_len (by rfl) B.len (by decide +kernel) (pa_cons (pv 0) pa_nil)) pe_int (nomark _)) (pe_and (pe_f Gis_whole (hr.mono (by omega)) (by rfl) pass0 (pa_cons (pe_ix ix_tup (pv 0) pe_int (fun _ _ => rfl)) (pa_cons pe_int (pa_cons (pe_gint (by rfl) g_MAX_TIMES) pa_nil)))) (pe_one (pe_callB c_is2 (by rfl) B.isinstance (by decide +kernel) (pa_cons (pe_ix ix_tup (pv 0) pe_int (fun _ _ => rfl)) (pa_cons (pe_ty (T := "tuple") (by rfl) B.tuple (by decide +kernel)) pa_nil))))))))
        pss_nil)
      (pss_one (ps_ret (pe_f Gis_plain (hr.mono (by omega)) (by rfl) pass0 (pa_cons (pv 0) pa_nil))))))), ?_⟩
  cases d with
  | tuple ds =>
    obtain ⟨a, xs, rfl, hT, hL⟩ := hd.items
    rw [dsz] at hz
    cases ds with
    | nil =>
      obtain rfl := hL.inv0
      walk_at "rd"
      exact k _ Kp.nil
    | cons d0 r =>
      obtain ⟨x, ys, rfl, h0, hR⟩ := hL.inv
      rw [dszs] at hz
      have hlen := hR.len
      walk_at "rd"
      refine ifd (fun c => ?_) (fun _ => ?_)
      · have q := V.int.inj c
        rw [List.length_cons] at q
        omega
      have hx0 : atI (x :: ys) 0 = some x := at_nn (Int.le_refl 0) rfl
      walk_at "rd"
      cases hx : isaD d0 "str" with
      | false =>
        walk_at "rd"
        have q := k _ Kp.nil
        rw [isStmt_str hx] at q
        exact q
      | true =>
        obtain ⟨u, rfl⟩ := isStr_of hx
        obtain rfl := h0.isStr
        change ∀ H', Kp [] H H' → Q (.bl (isStmtL u r)) H' at k
        unfold isStmtL at k
        walk_at "rd"
        refine ifd (fun c1 => ?_) (fun c1 => ?_)
        · simp only [if_pos (V.str.inj c1)] at k
          walk_at "rd"
          refine ifn (fun c2 => ?_) (fun c2 => ?_)
          · walk_at "rd"
            have q := k _ Kp.nil
            rw [three_len (fun e => c2 (by rw [List.length_cons, hlen, e]; rfl))] at q
            exact q
          have c2 : ys.length = 3 := by
            have q := V.int.inj c2
            rw [List.length_cons] at q
            omega
          obtain ⟨x1, x2, x3, d1, d2, d3, rfl, rfl, h1, h2, h3⟩ := hR.is3 c2
          simp only [dszs] at hz
          simp only [three] at k
          walk_at "rd"
          refine ⟨x1, d1, rfl, h1, by omega, fun H1 k1 => ?_⟩
          have hT1 := sqT_kp k1 hT
          have h2 := h2.kp0 k1
          have h3 := h3.kp0 k1
          cases he : isTest 2 d1 with
          | false =>
            walk_at "rd"
            have q := k _ k1
            rw [he, Bool.false_and] at q
            exact q
          | true =>
            rw [he] at k
            simp only [Bool.true_and] at k
            rw [← isa_tup, ← isa_tup] at k
            have q := k _ k1
            walk_at "rd"
            refine r_is2 h2 (by decide) ?_
            cases ht : isaD d2 "tuple" with
            | false =>
              rw [ht, Bool.false_and] at q
              walk_at "rd"
              exact q
            | true =>
              rw [ht, Bool.true_and] at q
              walk_at "rd"
              exact r_is2 h3 (by decide) q
        have c1 : u ≠ "if" := fun e => c1 (by rw [e])
        simp only [if_neg c1] at k
        walk_at "rd"
        refine ifd (fun c2 => ?_) (fun c2 => ?_)
        · simp only [if_pos (V.str.inj c2)] at k
          walk_at "rd"
          refine ifd (fun c4 => ?_) (fun c4 => ?_)
          rotate_left 1
          · have q := k _ Kp.nil
            rw [two_len (fun e => c4 (by rw [List.length_cons, hlen, e]; rfl))] at q
            exact q
          have c4 : ys.length = 2 := by
            have q := V.int.inj c4
            rw [List.length_cons] at q
            omega
          obtain ⟨x1, x2, d1, d2, rfl, rfl, h1, h2⟩ := hR.is2 c4
          simp only [dszs] at hz
          simp only [two] at k
          have q := k _ Kp.nil
          walk_at "rd"
          refine ⟨x1, d1, _, _, rfl, h1, ?_⟩
          cases he : isWhole 0 8 d1 with
          | false =>
            rw [he, Bool.false_and] at q
            walk_at "rd"
            exact q
          | true =>
            rw [he, Bool.true_and, ← isa_tup] at q
            walk_at "rd"
            exact r_is2 h2 (by decide) q
        have c2 : u ≠ "repeat" := fun e => c2 (by rw [e])
        simp only [if_neg c2] at k
        walk_at "rd"
        exact ⟨_, u, r, rfl, hd, by omega, k⟩
  | _ => walk_at "rd"; exact k _ Kp.nil
abbrev sblocks_of : Stmt := topS 26
abbrev Nblocks_of : List Str := ["statement"]
abbrev Pblocks_of : List Str := ["statement"]
theorem scblocks_of : FnScope Nblocks_of Pblocks_of (defScope sblocks_of) :=
  ⟨rfl, rfl, rfl, by decide +kernel, rfl, by decide +kernel, by decide +kernel⟩
theorem ok_blocks_of (D : Df K mg "blocks_of" sblocks_of Pblocks_of) (B : Blt mg) : Has P w K mg base CX0 "blocks_of" Pblocks_of 1 (spBlocks K) := by
  refine D.has scblocks_of (fun vs H Q E h => ?_) (fun f cdv A outer s H vs Q E hr h => ?_)
  · obtain ⟨M, v, d, rfl, _⟩ := h
    rfl
  obtain ⟨M, v, d, rfl, hd, hs, k⟩ := h
  refine ⟨_, (pss_cons (ps_if (pt_cmpR op_eq (pe_ix ix_tup (pv 0) pe_int (fun _ _ => rfl)) pe_str (nomark _)) (pss_one (ps_ret (pe_lst (pa_cons (pe_ix ix_tup (pv 0) pe_int (fun _ _ => rfl)) (pa_cons (pe_ix ix_tup (pv 0) pe_int (fun _ _ => rfl)) pa_nil)))))
        pss_nil)
      (pss_one (ps_ret (pe_ifExp (pt_cmpR op_eq (pe_ix ix_tup (pv 0) pe_int (fun _ _ => rfl)) pe_str (nomark _)) (pe_lst (pa_cons (pe_ix ix_tup (pv 0) pe_int (fun _ _ => rfl)) pa_nil)) (pe_lst pa_nil))))), ?_⟩
  rcases stmt_view hs with ⟨p, rfl, hp, hb⟩ | ⟨t, y, z, rfl, ht, hb⟩ | ⟨n, b, rfl, k1, k2, hb⟩
  · obtain ⟨u, r, e, n1, n2⟩ := Pl.hd p
    rw [hb] at k
    rw [e] at hd
    obtain ⟨a, xs, rfl, hT, hL⟩ := hd.items
    obtain ⟨x, ys, rfl, h0, hR⟩ := hL.inv
    obtain rfl := h0.isStr
    have hx0 : atI (V.str u :: ys) 0 = some (V.str u) := at_nn (Int.le_refl 0) rfl
    walk_at "rd"
    refine ifd (fun c => absurd (V.str.inj c) n1) fun _ => ?_
    walk_at "rd"
    refine ifd (fun c => absurd (V.str.inj c) n2) fun _ => ?_
    walk_at "rd"
    exact ⟨by decide, fun p hp => k _ p [] hp (Kp.nil.new hp) upd_same DwL.nil⟩
  · rw [hb] at k
    obtain ⟨a, xs, rfl, hT, hL⟩ := hd.items
    obtain ⟨x0, x1, x2, x3, d0, d1, d2, d3, rfl, e, h0, h1, h2, h3⟩ := hL.is4 hL.len
    cases e
    obtain rfl := h0.isStr
    walk_at "rd"
    refine ⟨by walk_at "sz", fun p hp => ?_⟩
    have k1 : Kp [] H (upd H p (.lst [x2, x3])) := Kp.nil.new hp
    exact k _ p [x2, x3] hp k1 upd_same (DwL.cons (h2.kp0 k1) (DwL.cons (h3.kp0 k1) DwL.nil))
  · rw [hb] at k
    obtain ⟨a, xs, rfl, hT, hL⟩ := hd.items
    obtain ⟨x0, x1, x2, d0, d1, d2, rfl, e, h0, h1, h2⟩ := hL.is3 hL.len
    cases e
    obtain rfl := h0.isStr
    walk_at "rd"
    refine ⟨by walk_at "sz", fun p hp => ?_⟩
    have k1 : Kp [] H (upd H p (.lst [x2])) := Kp.nil.new hp
    exact k _ p [x2] hp k1 upd_same (DwL.cons (h2.kp0 k1) DwL.nil)
abbrev sitems_within : Stmt := topS 27
abbrev Nitems_within : List Str := ["statement", "depth", "found", "block", "item"]
abbrev Pitems_within : List Str := ["statement", "depth"]
theorem scitems_within : FnScope Nitems_within Pitems_within (defScope sitems_within) :=
  ⟨rfl, rfl, rfl, by decide +kernel, rfl, by decide +kernel, by decide +kernel⟩
theorem ok_items_within (D : Df K mg "items_within" sitems_within Pitems_within) (B : Blt mg) (Gblocks_of : Has P w K mg base CX0 "blocks_of" ["statement"] 1 (spBlocks K)) :
    Has P w K mg base CX0 "items_within" Pitems_within 2 (spItems K) := by
  refine D.has scitems_within (fun vs H Q E h => ?_) (fun f cdv A outer s H vs Q E hr h => ?_)
  · obtain ⟨M, v, d, n, rfl, _⟩ := h
    rfl
  obtain ⟨M, v, d, n, rfl, hd, hs, hz, k⟩ := h
  refine ⟨_, (pss_cons (ps_set (i := 2) scitems_within.nd rfl (Or.inl rfl) (pe_lst pa_nil))
      (pss_cons (ps_for PassesOwn.never rfl (pi_list (pe_f Gblocks_of (hr.mono (by omega)) (by rfl) pass0 (pa_cons (pv 0) pa_nil))) (pg_name (i := 3) scitems_within.nd rfl (Or.inl rfl))
        (pss_one (ps_expr (pe_bm PySem.F.plainAttrs_list PySem.F.slot_list_extend PySem.F.type_list_extend mt_extend (pv 2) (pa_cons (pe_lc (own := [("item", 4)]) (g := gName 4) (by rfl) scitems_within.nd (pi_tup (pv 3)) (blkOk_by (own := [("item", 4)]) (N := Nitems_within) (sc := defScope sitems_within) (by decide +kernel)) (fun _ _ _ _ _ => (pg_name (i := 4) scitems_within.nd rfl (Or.inl rfl))) (fun _ _ _ _ _ => pts_nil) (fun _ _ _ _ _ => (pe_tup (pa_cons (pe_op op_add (pv 1) pe_int) (pa_cons (pv 4) pa_nil))))) pa_nil)))))
      (pss_one (ps_ret (pe_revL (pv 2)))))), ?_⟩
  walk_at "rd"
  refine ⟨by decide, fun p hp => ?_⟩
  have k1 : Kp [] H (upd H p (.lst [])) := Kp.nil.new hp
  have hp1 : upd H p (.lst []) p = some (.lst []) := upd_same
  have hd1 : Dw (p :: M) K (upd H p (.lst [])) v d := (hd.fresh hp).kp0 k1
  generalize upd H p (.lst []) = H1 at k1 hp1 hd1 ⊢
  walk_at "rd"
  refine ⟨p :: M, v, d, rfl, hd1, hs, fun H2 b xs hb k2 hb2 hL => ?_⟩
  have hp2 := k2.get hp1 (by simp)
  have hbp : b ≠ p := Ne.symm (ne_of_none hp1 hb)
  refine r_ForL (xs := xs) (SqL.of hb2) (fun i σ H' => ∃ (us : List V) (bx ix : Option V), σ = [some v, some (.int n), some (.ref p), bx, ix] ∧ Kp [] H H' ∧ H' b = some (.lst xs) ∧
      DwL (p :: M) K H' xs ((blks d).map PyData.tuple) ∧ H' p = some (.lst us) ∧ Stk (p :: M) K H' us ((((blks d).take i).flatten).map fun e => (n + 1, e)))
    ⟨[], none, none, rfl, k1.trans k2, hb2, hL, hp2, Stk.nil⟩ (fun i σ H' ⟨us, bx, ix, _, _, q, _⟩ => SqL.of q) ?_ ?_
  · rintro i x σ H3 hx ⟨us, bx, ix, rfl, k3, hb3, hL3, hp3, hS3⟩
    obtain ⟨dd, hdd, hxd⟩ := hL3.get hx
    rw [List.getElem?_map] at hdd
    obtain ⟨bl, hbl, rfl⟩ := Option.map_eq_some_iff.mp hdd
    obtain ⟨a, ys, rfl, hT, hY⟩ := hxd.items
    have hsz := inner_size d
    have hfl : (((blks d).take i).flatten) ++ bl ++ ((blks d).drop (i + 1)).flatten = inner d := by
      unfold inner
      have q : (blks d).take i ++ bl :: (blks d).drop (i + 1) = blks d := by
        obtain ⟨hi, hbe⟩ := List.getElem?_eq_some_iff.mp hbl
        rw [← hbe, ← List.drop_eq_getElem_cons hi, List.take_append_drop]
      conv => rhs; rw [← q]
      rw [List.flatten_append, List.flatten_cons, List.append_assoc]
    have hlen := dszs_len (inner d)
    have hle : (((blks d).take i).flatten).length + bl.length ≤ (inner d).length := by
      rw [← hfl, List.length_append, List.length_append]
      omega
    walk_at "rd"
    refine lc_stk (n := n + 1) hT hY (by omega) (fun y H' R hR => ?_) (fun _ => rfl) fun q H4 ws hq k4 hq4 hS4 => ?_
    · walk_at "rd"
      exact ⟨by walk_at "sz", hR⟩
    have hp4 := k4.get hp3 (by simp)
    have hb4 := k4.get hb3 (by simp)
    have hqp : q ≠ p := Ne.symm (ne_of_none hp3 hq)
    have l1 : us.length = (((blks d).take i).flatten).length := by rw [hS3.len, List.length_map]
    have l2 : ws.length = bl.length := by rw [hS4.len, List.length_map]
    walk_at "rd"
    · have k5 := kpW (o := .lst (us ++ ws)) hp4
      have sub : ∀ b ∈ [p], b ∈ p :: M := fun b hb => by rw [List.mem_singleton.mp hb]; exact List.mem_cons_self ..
      refine ⟨us ++ ws, _, _, rfl, (k3.trans k4).own hp, k5.get hb4 (by simp [hbp]), (hL3.kp0 k4).kpS k5 sub, upd_same, ?_⟩
      have htk : (blks d).take (i + 1) = (blks d).take i ++ [bl] := by rw [List.take_add_one, hbl]; rfl
      rw [htk, List.flatten_append, List.flatten_cons, List.flatten_nil, List.append_nil, List.map_append]
      exact ((hS3.kp0 k4).kpS k5 sub).app (hS4.kpS k5 sub)
    · rw [sizeLine_eq]
      omega
  · rintro σ H3 ⟨us, bx, ix, rfl, k3, hb3, hL3, hp3, hS3⟩
    walk_at "rd"
    refine r_RevL (SqL.of hp3) fun q hq => ?_
    have k4 : Kp [] H3 (upd H3 q (.lst us.reverse)) := Kp.nil.new hq
    have hx := hL3.len
    rw [List.length_map] at hx
    rw [hx, List.take_length] at hS3
    refine k _ q us.reverse ?_ (k3.trans k4) upd_same ((hS3.kp0 k4).sub fun b hb => List.mem_cons_of_mem _ hb).rev
    exact k3.free (fun b hb => by cases hb) hq
abbrev srows_of : Stmt := topS 28
abbrev Nrows_of : List Str := ["program", "left", "found", "item", "depth", "statement"]
abbrev Prows_of : List Str := ["program"]
theorem scrows_of : FnScope Nrows_of Prows_of (defScope srows_of) :=
  ⟨rfl, rfl, rfl, by decide +kernel, rfl, by decide +kernel, by decide +kernel⟩
theorem ok_rows_of (D : Df K mg "rows_of" srows_of Prows_of) (B : Blt mg) (Gitems_within : Has P w K mg base CX0 "items_within" ["statement", "depth"] 2 (spItems K)) :
    Has P w K mg base CX0 "rows_of" Prows_of 3 (spRows K) := by
  refine D.has scrows_of (fun vs H Q E h => ?_) (fun f cdv A outer s H vs Q E hr h => ?_)
  · obtain ⟨M, v, p, rfl, _⟩ := h
    rfl
  obtain ⟨M, v, p, rfl, hd, hv, hz, k⟩ := h
  refine ⟨_, (pss_cons (ps_par (i := 1) (j := 2) (by rfl) scrows_of.nd rfl rfl (by decide) rfl rfl (pa_cons (pe_revL (pe_lc (own := [("item", 3)]) (g := gName 3) (by rfl) scrows_of.nd (pi_tup (pv 0)) (blkOk_by (own := [("item", 3)]) (N := Nrows_of) (sc := defScope srows_of) (by decide +kernel)) (fun _ _ _ _ _ => (pg_name (i := 3) scrows_of.nd rfl (Or.inl rfl))) (fun _ _ _ _ _ => pts_nil) (fun _ _ _ _ _ => (pe_tup (pa_cons pe_int (pa_cons (pv 3) pa_nil)))))) (pa_cons (pe_lst pa_nil) pa_nil)) (by rfl))
      (pss_cons (ps_while PassesOwn.never (pt_cmpR (op_neNil hr.h64) (pv 1) (pe_lst pa_nil) (nomark _)) (pss_cons (ps_asg (pe_bm0 PySem.F.plainAttrs_list PySem.F.slot_list_pop PySem.F.type_list_pop mt_pop (pv 1)) (pg_tup rfl (pgs_cons (pg_name (i := 4) scrows_of.nd rfl (Or.inl rfl)) (pgs_cons (pg_name (i := 5) scrows_of.nd rfl (Or.inl rfl)) pgs_nil))))
      (pss_cons (ps_expr (pe_bm PySem.F.plainAttrs_list PySem.F.slot_list_append PySem.F.type_list_append mt_append (pv 2) (pa_cons (pe_tup (pa_cons (pv 4) (pa_cons (pv 5) pa_nil))) pa_nil)))
      (pss_one (ps_expr (pe_bm PySem.F.plainAttrs_list PySem.F.slot_list_extend PySem.F.type_list_extend mt_extend (pv 1) (pa_cons (pe_f Gitems_within (hr.mono (by omega)) (by rfl) pass0 (pa_cons (pv 5) (pa_cons (pv 4) pa_nil))) pa_nil)))))))
      (pss_one (ps_ret (pv 2))))), ?_⟩
  obtain ⟨a, xs, rfl, hT, hL⟩ := hd.items
  have hlen := dszs_len (Sm.ds p)
  walk_at "rd"
  refine lc_stk (n := 0) hT hL (by omega) (fun y H' R hR => ?_) (fun _ => rfl) fun q0 H1 us hq0 k1 hq1 hS1 => ?_
  · walk_at "rd"
    exact ⟨by walk_at "sz", hR⟩
  refine r_RevL (SqL.of hq1) fun l hl => ?_
  have k2 : Kp [] H (upd H1 l (.lst us.reverse)) := k1.new hl
  have hl2 : upd H1 l (.lst us.reverse) l = some (.lst us.reverse) := upd_same
  have S2 : Stk (l :: M) K (upd H1 l (.lst us.reverse)) us.reverse (((Sm.ds p).map fun e => (0, e)).reverse) := ((hS1.fresh hl).kp0 (Kp.nil.new hl)).rev
  have hl0 : H l = none := k1.free (fun b hb => by cases hb) hl
  generalize upd H1 l (.lst us.reverse) = H2 at k2 hl2 S2 ⊢
  walk_at "rd"
  refine ⟨by decide, fun g hg => ?_⟩
  have k2' : Kp [] H2 (upd H2 g (.lst [])) := Kp.nil.new hg
  have k3 := k2.trans k2'
  have hl3 := k2'.get hl2 (by simp)
  have hg3 : upd H2 g (.lst []) g = some (.lst []) := upd_same
  have S3 := (S2.fresh hg).kp0 k2'
  have hg0 : H g = none := k2.free (fun b hb => by cases hb) hg
  have hgl : g ≠ l := Ne.symm (ne_of_none hl2 hg)
  generalize upd H2 g (.lst []) = H3 at k3 hl3 hg3 S3 ⊢
  walk_at "rd"
  have hN0 : (Sm.rowsL 0 p).length ≤ dszs (Sm.ds p) := by
    rw [Sm.rowsL_len]
    exact Sm.sizes_dszs p
  refine r_while (fun m σ H' => ∃ (us gs : List V) (T : List (Nat × Sm)) (dn : List (Nat × PyData)) (ix dx sx : Option V), σ = [some (.ref a), some (.ref l), some (.ref g), ix, dx, sx] ∧ Kp [] H H' ∧ H' l = some (.lst us) ∧ H' g = some (.lst gs) ∧
      Stk (g :: l :: M) K H' us (dT T).reverse ∧ Stk (g :: l :: M) K H' gs dn ∧ dn ++ rowsT T = Sm.rowsL 0 p ∧ (∀ q ∈ T, ∃ n, Sm.vd n q.2) ∧ stSize (dT T) = m ∧ m ≤ 1000000) (dszs (Sm.ds p))
    ⟨_, [], p.map fun s => (0, s), [], none, none, none, rfl, k3, hl3, hg3, by rw [dT_map]; exact S3, Stk.nil, by rw [rowsT_map]; rfl, fun q hq => ?_, by rw [dT_map]; exact stSize_map _ _, hz⟩ ?_
  · obtain ⟨s, hs, rfl⟩ := List.mem_map.mp hq
    exact hv s hs
  rintro m σ H4 ⟨us, gs, T, dn, ix, dx, sx, rfl, k4, hl4, hg4, S4, G4, hrow, hvT, hm, hmz⟩
  walk_at "rd"
  refine ⟨by decide, fun q hq => ?_⟩
  have kq : Kp [] H4 (upd H4 q (.lst [])) := Kp.nil.new hq
  have hl5 := kq.get hl4 (by simp)
  have hg5 := kq.get hg4 (by simp)
  have S5 := S4.kp0 kq
  have G5 := G4.kp0 kq
  refine r_neNL (SqL.of hl5) (SqL.of upd_same) ?_
  have k5 := k4.trans kq
  generalize upd H4 q (.lst []) = H5 at k5 hl5 hg5 S5 G5 ⊢
  cases T with
  | nil =>
    have e : us = [] := List.length_eq_zero_iff.mp S5.len
    subst e
    have he0 : (!([] : List V).isEmpty) = false := rfl
    rw [he0]
    walk_at "rd"
    refine k _ g gs hg0 k5 hg5 ?_
    have e2 : dn = Sm.rowsL 0 p := by
      rw [← hrow]
      exact (List.append_nil _).symm
    rw [← e2]
    exact G5.sub fun b hb => List.mem_cons_of_mem _ (List.mem_cons_of_mem _ hb)
  | cons z T =>
    obtain ⟨dep, sm⟩ := z
    have eT : dT ((dep, sm) :: T) = (dep, sm.d) :: dT T := rfl
    rw [eT, List.reverse_cons] at S5
    rw [eT, stSize_cons] at hm
    obtain ⟨us', b, y, rfl, S6, hb, hy⟩ := S5.last
    obtain ⟨nv, hsv⟩ := hvT (dep, sm) (List.mem_cons_self ..)
    obtain ⟨hst, hin, hkids⟩ := hsv.is
    have hdp := dsz_pos sm.d
    have hisz := inner_size sm.d
    have he : (!(us' ++ [V.ref b]).isEmpty) = true := by cases us' <;> rfl
    rw [he]
    walk_at "rd"
    refine r_turn ?_
    walk_at "rd"
    refine r_pop hl5 ?_
    have sl : ∀ b ∈ [l], b ∈ g :: l :: M := fun b hb => by rw [List.mem_singleton.mp hb]; exact List.mem_cons_of_mem _ (List.mem_cons_self ..)
    have sg : ∀ b ∈ [g], b ∈ g :: l :: M := fun b hb => by rw [List.mem_singleton.mp hb]; exact List.mem_cons_self ..
    have k6 := kpW (o := .lst us') hl5
    have k6' : Kp [] H (upd H5 l (.lst us')) := k5.own hl0
    have hb6 := k6.tup hb
    have S7 := S6.kpS k6 sl
    have G7 := G5.kpS k6 sl
    have hy6 := hy.kpS k6 sl
    have hl6 : upd H5 l (.lst us') l = some (.lst us') := upd_same
    have hg6 := k6.get hg5 (by simp [hgl])
    generalize upd H5 l (.lst us') = H6 at k6 k6' hb6 S7 G7 hy6 hl6 hg6 ⊢
    walk_at "rd"
    refine ⟨by walk_at "sz", fun t ht => ?_⟩
    have k7 : Kp [] H6 (upd H6 t (.tup [.int dep, y])) := Kp.nil.new ht
    have hg7 := k7.get hg6 (by simp)
    have hl7 := k7.get hl6 (by simp)
    have ht7 : upd H6 t (.tup [.int dep, y]) t = some (.tup [.int dep, y]) := upd_same
    have hy7 := hy6.kp0 k7
    have S8 := S7.kp0 k7
    have G8 := G7.kp0 k7
    have k7' := k6'.trans k7
    generalize upd H6 t (.tup [.int dep, y]) = H7 at k7 k7' hg7 hl7 ht7 hy7 S8 G8 ⊢
    have hgl2 : gs.length < (Sm.rowsL 0 p).length := by
      rw [G8.len, ← hrow, List.length_append]
      have q1 : 1 ≤ (rowsT ((dep, sm) :: T)).length := by
        unfold rowsT
        rw [List.flatMap_cons, Sm.rows_kids]
        simp
      omega
    walk_at "rd"
    rotate_left 1
    · rw [sizeLine_eq]
      omega
    have k8 := kpW (o := .lst (gs ++ [V.ref t])) hg7
    have k8' : Kp [] H (upd H7 g (.lst (gs ++ [V.ref t]))) := k7'.own hg0
    have hl8 := k8.get hl7 (by simp [Ne.symm hgl])
    have hg8 : upd H7 g (.lst (gs ++ [V.ref t])) g = some (.lst (gs ++ [V.ref t])) := upd_same
    have S9 := S8.kpS k8 sg
    have G9 := (G8.kpS k8 sg).app (Stk.one (p := (dep, sm.d)) (k8.tup ht7) (hy7.kpS k8 sg))
    have hy8 := hy7.kpS k8 sg
    generalize upd H7 g (.lst (gs ++ [V.ref t])) = H8 at k8 k8' hl8 hg8 S9 G9 hy8 ⊢
    refine ⟨g :: l :: M, y, sm.d, dep, rfl, hy8, hst, by omega, fun H9 r ws hr' k9 hr9 S10 => ?_⟩
    have hl9 := k9.get hl8 (by simp)
    have hg9 := k9.get hg8 (by simp)
    have hrl : r ≠ l := Ne.symm (ne_of_none hl8 hr')
    have w1 : ws.length = (inner sm.d).length := by rw [S10.len, List.length_reverse, List.length_map]
    have w2 : us'.length = (dT T).length := by rw [S7.len, List.length_reverse]
    have w3 := dszs_len (inner sm.d)
    have w4 : (dT T).length ≤ stSize (dT T) := by
      unfold stSize
      have := dszs_len ((dT T).map (·.2))
      rwa [List.length_map] at this
    walk_at "rd"
    · have k10 := kpW (o := .lst (us' ++ ws)) hl9
      have eD : dT (sm.kids.map (fun s => (dep + 1, s)) ++ T) = (inner sm.d).map (fun e => (dep + 1, e)) ++ dT T := by
        rw [hin, ← dT_map]
        unfold dT
        rw [List.map_append]
      refine ⟨dszs (inner sm.d) + stSize (dT T), by omega, us' ++ ws, gs ++ [V.ref t], sm.kids.map (fun s => (dep + 1, s)) ++ T, dn ++ [(dep, sm.d)], _, _, _, rfl, (k8'.trans k9).own hl0, upd_same,
        k10.get hg9 (by simp [hgl]), ?_, ((G9.kp0 k9).kpS k10 sl), ?_, ?_, ?_, by omega⟩
      · rw [eD, List.reverse_append]
        exact ((S9.kp0 k9).kpS k10 sl).app (S10.kpS k10 sl)
      · rw [← hrow]
        unfold rowsT
        rw [List.flatMap_append, List.flatMap_cons, Sm.rows_kids]
        have q := rowsT_map (dep + 1) sm.kids
        unfold rowsT at q
        rw [q]
        simp
      · intro q hq
        rcases List.mem_append.mp hq with hq | hq
        · obtain ⟨c, hc, rfl⟩ := List.mem_map.mp hq
          obtain ⟨m, hm, _⟩ := hkids c hc
          exact ⟨m, hm⟩
        · exact hvT q (List.mem_cons_of_mem _ hq)
      · rw [eD, stSize_app, stSize_map]
    · rw [sizeLine_eq]
      omega
abbrev sorder_error : Stmt := topS 29
abbrev Norder_error : List Str := ["value", "left", "place", "item", "depth"]
abbrev Porder_error : List Str := ["value"]
theorem scorder_error : FnScope Norder_error Porder_error (defScope sorder_error) :=
  ⟨rfl, rfl, rfl, by decide +kernel, rfl, by decide +kernel, by decide +kernel⟩
theorem ok_order_error (D : Df K mg "order_error" sorder_error Porder_error) (B : Blt mg) {t1 : Tok} (g_MAX_NEST : mg "MAX_NEST" = some (.int 3 t1))
    (Gis_statement : Has P w K mg base CX0 "is_statement" ["value"] 10 (spAsk K isStmt)) (Gitems_within : Has P w K mg base CX0 "items_within" ["statement", "depth"] 2 (spItems K)) :
    Has P w K mg base CX0 "order_error" Porder_error 11 (spOrder K) := by
  refine D.has scorder_error (fun vs H Q E h => ?_) (fun f cdv A outer s H vs Q E hr h => ?_)
  · obtain ⟨v, ds, rfl, _⟩ := h
    rfl
  obtain ⟨v, ds, rfl, hd, hz, k⟩ := h
  refine ⟨_, (pss_cons (ps_par (i := 1) (j := 2) (by rfl) scorder_error.nd rfl rfl (by decide) rfl rfl (pa_cons (pe_revL (pe_lc (own := [("item", 3)]) (g := gName 3) (by rfl) scorder_error.nd (pi_tup (pv 0)) (blkOk_by (own := [("item", 3)]) (N := Norder_error) (sc := defScope sorder_error) (by decide +kernel)) (fun _ _ _ _ _ => (pg_name (i := 3) scorder_error.nd rfl (Or.inl rfl))) (fun _ _ _ _ _ => pts_nil) (fun _ _ _ _ _ => (pe_tup (pa_cons pe_int (pa_cons (pv 3) pa_nil)))))) (pa_cons pe_int pa_nil)) (by rfl))
      (pss_cons (ps_while PassesOwn.never (pt_cmpR (op_neNil hr.h64) (pv 1) (pe_lst pa_nil) (nomark _)) (pss_cons (ps_asg (pe_bm0 PySem.F.plainAttrs_list PySem.F.slot_list_pop PySem.F.type_list_pop mt_pop (pv 1)) (pg_tup rfl (pgs_cons (pg_name (i := 4) scorder_error.nd rfl (Or.inl rfl)) (pgs_cons (pg_name (i := 3) scorder_error.nd rfl (Or.inl rfl)) pgs_nil))))
      (pss_cons (ps_if (pt_cmpR op_gt (pv 4) (pe_gint (by rfl) g_MAX_NEST) (nomark _)) (pss_one (ps_ret (pe_tup (pa_cons (pv 2) (pa_cons pe_str pa_nil)))))
        pss_nil)
      (pss_cons (ps_if (pt_not (pt_val (pe_f Gis_statement (hr.mono (by omega)) (by rfl) pass0 (pa_cons (pv 3) pa_nil)))) (pss_one (ps_ret (pe_tup (pa_cons (pv 2) (pa_cons pe_str pa_nil)))))
        pss_nil)
      (pss_cons (ps_expr (pe_bm PySem.F.plainAttrs_list PySem.F.slot_list_extend PySem.F.type_list_extend mt_extend (pv 1) (pa_cons (pe_f Gitems_within (hr.mono (by omega)) (by rfl) pass0 (pa_cons (pv 3) (pa_cons (pv 4) pa_nil))) pa_nil)))
      (pss_one (ps_aug (i := 2) scorder_error.nd rfl (.inl rfl) pe_int ip_add)))))))
      (pss_one (ps_ret pe_non)))), ?_⟩
  obtain ⟨a, xs, rfl, hT, hL⟩ := hd.items
  have hlen := dszs_len ds
  walk_at "rd"
  refine lc_stk (n := 0) hT hL (by omega) (fun y H' R hR => ?_) (fun _ => rfl) fun q0 H1 us hq0 k1 hq1 hS1 => ?_
  · walk_at "rd"
    exact ⟨by walk_at "sz", hR⟩
  refine r_RevL (SqL.of hq1) fun l hl => ?_
  have k2 : Kp [] H (upd H1 l (.lst us.reverse)) := k1.new hl
  have hl2 : upd H1 l (.lst us.reverse) l = some (.lst us.reverse) := upd_same
  have S2 : Stk [l] K (upd H1 l (.lst us.reverse)) us.reverse ((ds.map fun e => (0, e)).reverse) := ((hS1.fresh hl).kp0 (Kp.nil.new hl)).rev
  have hl0 : H l = none := k1.free (fun b hb => by cases hb) hl
  generalize upd H1 l (.lst us.reverse) = H2 at k2 hl2 S2 ⊢
  walk_at "rd"
  refine r_while (fun m σ H' => ∃ (us : List V) (st : List (Nat × PyData)) (pl : Nat) (ix dx : Option V), σ = [some (.ref a), some (.ref l), some (.int pl), ix, dx] ∧ Kp [] H H' ∧ H' l = some (.lst us) ∧
      Stk [l] K H' us st.reverse ∧ ordLoop (stSize st) st pl = ordErr ds ∧ stSize st = m ∧ m ≤ 1000000) (dszs ds)
    ⟨_, ds.map fun e => (0, e), 0, none, none, rfl, k2, hl2, S2, by rw [stSize_map]; rfl, stSize_map _ _, hz⟩ ?_
  rintro m σ H3 ⟨us, st, pl, ix, dx, rfl, k3, hl3, hS3, hO, hm, hmz⟩
  walk_at "rd"
  refine ⟨by decide, fun q hq => ?_⟩
  have k4 : Kp [] H3 (upd H3 q (.lst [])) := Kp.nil.new hq
  have hl4 := k4.get hl3 (by simp)
  have S4 := hS3.kp0 k4
  refine r_neNL (SqL.of hl4) (SqL.of upd_same) ?_
  have k4' := k3.trans k4
  generalize upd H3 q (.lst []) = H4 at k4' hl4 S4 ⊢
  cases st with
  | nil =>
    have e : us = [] := List.length_eq_zero_iff.mp S4.len
    subst e
    walk_at "rd"
    refine k _ _ k4' ?_
    rw [← hO]
    exact Dt.non
  | cons p st =>
    obtain ⟨dep, d⟩ := p
    rw [List.reverse_cons] at S4
    obtain ⟨us', b, y, rfl, S5, hb, hy⟩ := S4.last
    rw [stSize_cons] at hm hO
    have hdp := dsz_pos d
    have hin := inner_size d
    obtain ⟨f, hf⟩ : ∃ f, dsz d + stSize st = f + 1 := ⟨dsz d + stSize st - 1, by omega⟩
    rw [hf, ordLoop] at hO
    have he : (!(us' ++ [V.ref b]).isEmpty) = true := by cases us' <;> rfl
    rw [he]
    walk_at "rd"
    refine r_turn ?_
    walk_at "rd"
    refine r_pop hl4 ?_
    have k5 := kpW (o := .lst us') hl4
    have k5' : Kp [] H (upd H4 l (.lst us')) := k4'.own hl0
    have hb5 := k5.tup hb
    have S6 := S5.kpS k5 fun b hb => hb
    have hy5 := hy.kpS k5 fun b hb => hb
    have hl5 : upd H4 l (.lst us') l = some (.lst us') := upd_same
    generalize upd H4 l (.lst us') = H5 at k5 k5' hb5 S6 hy5 hl5 ⊢
    walk_at "rd"
    refine ifd (fun c1 => ?_) (fun c1 => ?_)
    · walk_at "rd"
      refine ⟨by walk_at "sz", fun r hr' => ?_⟩
      refine k _ _ (k5'.new hr') ?_
      rw [← hO, if_pos (by omega)]
      exact Dt.mk2 upd_same (.int _) (.str _)
    rw [if_neg (by omega)] at hO
    walk_at "rd"
    refine ⟨y, d, rfl, hy5.nil, by omega, fun H6 k6 => ?_⟩
    cases hst : isStmt d with
    | false =>
      walk_at "rd"
      refine ⟨by walk_at "sz", fun r hr' => ?_⟩
      refine k _ _ ((k5'.trans k6).new hr') ?_
      rw [← hO, if_pos hst]
      exact Dt.mk2 upd_same (.int _) (.str _)
    | true =>
      rw [if_neg (by rw [hst]; decide)] at hO
      have hl6 := k6.get hl5 (by simp)
      walk_at "rd"
      refine ⟨[l], y, d, dep, rfl, hy5.kp0 k6, hst, by omega, fun H7 r ws hr' k7 hr7 S7 => ?_⟩
      have hl7 := k7.get hl6 (by simp)
      have hrl : r ≠ l := Ne.symm (ne_of_none hl6 hr')
      have w1 : ws.length = (inner d).length := by rw [S7.len, List.length_reverse, List.length_map]
      have w2 : us'.length = st.length := by rw [S6.len, List.length_reverse]
      have w3 := dszs_len (inner d)
      have w4 : st.length ≤ stSize st := by
        unfold stSize
        have := dszs_len (st.map (·.2))
        rwa [List.length_map] at this
      walk_at "rd"
      · have k8 := kpW (o := .lst (us' ++ ws)) hl7
        refine ⟨dszs (inner d) + stSize st, by omega, us' ++ ws, (inner d).map (fun e => (dep + 1, e)) ++ st, pl + 1, _, _, rfl, ((k5'.trans k6).trans k7).own hl0, upd_same, ?_, ?_, ?_, by omega⟩
        · rw [List.reverse_append]
          exact (((S6.kp0 k6).kp0 k7).kpS k8 fun b hb => hb).app (S7.kpS k8 fun b hb => hb)
        · rw [← hO]
          exact ordLoop_fuel _ _ _ _ (Nat.le_refl _) (by rw [stSize_app, stSize_map]; omega)
        · rw [stSize_app, stSize_map]
      · rw [sizeLine_eq]
        omega
abbrev sbare : Stmt := topS 30
abbrev Nbare : List Str := ["test"]
abbrev Pbare : List Str := ["test"]
theorem scbare : FnScope Nbare Pbare (defScope sbare) :=
  ⟨rfl, rfl, rfl, by decide +kernel, rfl, by decide +kernel, by decide +kernel⟩
theorem ok_bare (D : Df K mg "bare" sbare Pbare) (B : Blt mg) : Has P w K mg base CX0 "bare" Pbare 1 (spBare K) := by
  refine D.has scbare (fun vs H Q E h => ?_) (fun f cdv A outer s H vs Q E hr h => ?_)
  · obtain ⟨M, v, t, rfl, _⟩ := h
    rfl
  obtain ⟨M, v, t, rfl, hd, k⟩ := h
  refine ⟨_, (pss_cons (ps_while PassesOwn.never (pt_cmpR op_eq (pe_ix ix_tup (pv 0) pe_int (fun _ _ => rfl)) pe_str (nomark _)) (pss_one (ps_set (i := 0) scbare.nd rfl (Or.inl rfl) (pe_ix ix_tup (pv 0) pe_int (fun _ _ => rfl)))))
      (pss_one (ps_ret (pv 0)))), ?_⟩
  walk_at "rd"
  refine r_while (fun m σ H' => ∃ (u : V) (z : Ts), σ = [some u] ∧ H' = H ∧ Dw M K H u z.d ∧ z.bare = t.bare ∧ z.high = m) t.high ⟨v, t, rfl, rfl, hd, rfl, rfl⟩ ?_
  rintro m σ H1 ⟨u, z, rfl, rfl, hz, hb, rfl⟩
  cases z with
  | not z =>
    obtain ⟨a, xs, rfl, hT, hL⟩ := hz.items
    obtain ⟨x0, x1, d0, d1, rfl, e, h0, h1⟩ := hL.is2 hL.len
    cases e
    obtain rfl := h0.isStr
    walk_at "rd"
    refine r_turn ?_
    walk_at "rd"
    exact ⟨z.high, by show z.high < z.high + 1; omega, x1, z, rfl, rfl, h1, hb, rfl⟩
  | given x =>
    obtain ⟨a, xs, rfl, hT, hL⟩ := hz.items
    obtain ⟨x0, x1, d0, d1, rfl, e, h0, h1⟩ := hL.is2 hL.len
    cases e
    obtain rfl := h0.isStr
    walk_at "rd"
    refine k _ ?_
    rw [← hb]
    exact hz
  | rest e b r =>
    obtain ⟨a, xs, rfl, hT, hL⟩ := hz.items
    obtain ⟨x0, x1, x2, x3, d0, d1, d2, d3, rfl, e, h0, h1⟩ := hL.is4 hL.len
    cases e
    obtain rfl := h0.isStr
    walk_at "rd"
    refine k _ ?_
    rw [← hb]
    exact hz
  | less e b =>
    obtain ⟨a, xs, rfl, hT, hL⟩ := hz.items
    obtain ⟨x0, x1, x2, d0, d1, d2, rfl, e, h0, h1⟩ := hL.is3 hL.len
    cases e
    obtain rfl := h0.isStr
    walk_at "rd"
    refine k _ ?_
    rw [← hb]
    exact hz
abbrev sown_count : Stmt := topS 31
abbrev Nown_count : List Str := ["statement", "sort"]
abbrev Pown_count : List Str := ["statement", "sort"]
theorem scown_count : FnScope Nown_count Pown_count (defScope sown_count) :=
  ⟨rfl, rfl, rfl, by decide +kernel, rfl, by decide +kernel, by decide +kernel⟩
theorem ok_own_count (D : Df K mg "own_count" sown_count Pown_count) (B : Blt mg) (Gbare : Has P w K mg base CX0 "bare" ["test"] 1 (spBare K)) :
    Has P w K mg base CX0 "own_count" Pown_count 2 (spOwn K) := by
  refine D.has scown_count (fun vs H Q E h => ?_) (fun f cdv A outer s H vs Q E hr h => ?_)
  · obtain ⟨M, v, s, so, rfl, _⟩ := h
    rfl
  obtain ⟨M, v, s, so, rfl, hd, k⟩ := h
  refine ⟨_, (pss_cons (ps_if (pt_cmpR op_eq (pv 1) pe_str (nomark _)) (pss_one (ps_ret pe_int))
        pss_nil)
      (pss_one (ps_ret (pe_callTy c_int (by rfl) B.int (by decide +kernel) (pa_cons (pe_and (pe_cmpR op_eq (pe_ix ix_tup (pv 0) pe_int (fun _ _ => rfl)) pe_str (nomark _)) (pe_one (pe_cmpR op_eq (pe_ix ix_tup (pe_f Gbare (hr.mono (by omega)) (by rfl) pass0 (pa_cons (pe_ix ix_tup (pv 0) pe_int (fun _ _ => rfl)) pa_nil)) pe_int (fun _ _ => rfl)) (pv 1) (nomark _)))) pa_nil))))), ?_⟩
  unfold Sm.own at k
  walk_at "rd"
  refine ifd (fun c => ?_) (fun c => ?_)
  · walk_at "rd"
    rw [if_pos (V.str.inj c)] at k
    exact k
  rw [if_neg (fun e => c (by rw [e]))] at k
  cases s with
  | pl p =>
    obtain ⟨u, r, e, n1, n2⟩ := Pl.hd p
    rw [Sm.d, e] at hd
    obtain ⟨a, xs, rfl, hT, hL⟩ := hd.items
    obtain ⟨x, ys, rfl, h0, hR⟩ := hL.inv
    obtain rfl := h0.isStr
    have hx0 : atI (V.str u :: ys) 0 = some (V.str u) := at_nn (Int.le_refl 0) rfl
    walk_at "rd"
    refine ifd (fun c => absurd (V.str.inj c) n1) fun _ => ?_
    walk_at "rd"
    exact k
  | rep n b =>
    rw [Sm.d] at hd
    obtain ⟨a, xs, rfl, hT, hL⟩ := hd.items
    obtain ⟨x0, x1, x2, d0, d1, d2, rfl, e, h0, h1, h2⟩ := hL.is3 hL.len
    cases e
    obtain rfl := h0.isStr
    walk_at "rd"
    exact k
  | ifs t y z =>
    rw [Sm.d] at hd
    obtain ⟨a, xs, rfl, hT, hL⟩ := hd.items
    obtain ⟨x0, x1, x2, x3, d0, d1, d2, d3, rfl, e, h0, h1, h2, h3⟩ := hL.is4 hL.len
    cases e
    obtain rfl := h0.isStr
    walk_at "rd"
    refine ⟨M, x1, t, rfl, h1, fun u hu => ?_⟩
    obtain ⟨a2, ys, rfl, hT2, h2w⟩ := Ts.headW hu
    walk_at "rd"
    have e : (if decide (V.str t.bare.word = V.str so) = true then (1 : Int) else 0) = if t.bare.word = so then 1 else 0 := by
      by_cases hq : t.bare.word = so
      · rw [if_pos hq, hq, if_pos (by rw [decide_eq_true_eq])]
      · rw [if_neg hq, if_neg (by rw [decide_eq_true_eq]; exact fun z => hq (V.str.inj z))]
    rw [e]
    exact k
abbrev scounted : Stmt := topS 32
abbrev Ncounted : List Str := ["block", "sort", "found", "statement", "inner", "part"]
abbrev Pcounted : List Str := ["block", "sort"]
theorem sccounted : FnScope Ncounted Pcounted (defScope scounted) :=
  ⟨rfl, rfl, rfl, by decide +kernel, rfl, by decide +kernel, by decide +kernel⟩
theorem ok_counted1 (D : Df K mg "counted" scounted Pcounted) (B : Blt mg) {n lv : Nat} {sp2 : Sp} (hlv : 2 ≤ lv) (Gblocks_of : Has P w K mg base CX0 "blocks_of" ["statement"] 1 (spBlocks K))
    (Gown_count : Has P w K mg base CX0 "own_count" ["statement", "sort"] 2 (spOwn K)) (Gcounted : Has P w K mg base CX0 "counted" Pcounted lv sp2) (hs : ∀ m, n = m + 1 → sp2 = spCnt K m) :
    Has P w K mg base CX0 "counted" Pcounted (lv + 1) (spCnt K n) := by
  refine D.has sccounted (fun vs H Q E h => ?_) (fun f cdv A outer s H vs Q E hr h => ?_)
  · obtain ⟨M, v, b, so, rfl, _⟩ := h
    rfl
  obtain ⟨M, v, b, so, rfl, hd, hv, k⟩ := h
  refine ⟨_, (pss_cons (ps_set (i := 2) sccounted.nd rfl (Or.inl rfl) pe_int)
      (pss_cons (ps_for PassesOwn.never rfl (pi_tup (pv 0)) (pg_name (i := 3) sccounted.nd rfl (Or.inl rfl))
        (pss_cons (ps_set (i := 4) sccounted.nd rfl (Or.inl rfl) (pe_callB (cr_sum (by rfl)) (by rfl) B.sum (by decide +kernel) (pa_cons (pe_lc (own := [("part", 5)]) (g := gName 5) (by rfl) sccounted.nd (pi_list (pe_f Gblocks_of (hr.mono (by omega)) (by rfl) pass0 (pa_cons (pv 3) pa_nil))) (blkOk_by (own := [("part", 5)]) (N := Ncounted) (sc := defScope scounted) (by decide +kernel)) (fun _ _ _ _ _ => (pg_name (i := 5) sccounted.nd rfl (Or.inl rfl))) (fun _ _ _ _ _ => pts_nil) (fun _ _ _ _ _ => (pe_f Gcounted (hr.mono (by omega)) (by rfl) pass0 (pa_cons (pv 5) (pa_cons (pv 1) pa_nil))))) pa_nil)))
      (pss_one (ps_aug (i := 2) sccounted.nd rfl (.inl rfl) (pe_op op_add (pe_f Gown_count (hr.mono (by omega)) (by rfl) pass0 (pa_cons (pv 3) (pa_cons (pv 1) pa_nil))) (pe_op op_mul (pv 4) (pe_ifExp (pt_cmpR op_eq (pe_ix ix_tup (pv 3) pe_int (fun _ _ => rfl)) pe_str (nomark _)) (pe_ix ix_tup (pv 3) pe_int (fun _ _ => rfl)) pe_int))) ip_add))))
      (pss_one (ps_ret (pv 2))))), ?_⟩
  obtain ⟨a, xs, rfl, hT, hL⟩ := hd.items
  have hlen : xs.length = b.length := by rw [hL.len, Sm.ds_map, List.length_map]
  walk_at "rd"
  refine r_ForT (xs := xs) hT (fun i σ H' => ∃ sx ix px, σ = [some (.ref a), some (.str so), some (.int (Sm.cnts so (b.take i))), sx, ix, px] ∧ Kp [] H H') ⟨none, none, none, rfl, Kp.nil⟩ (fun i σ H' ⟨_, _, _, _, q⟩ => sqT_kp q hT) ?_ ?_
  · rintro i x σ H1 hx ⟨sx, ix, px, rfl, k1⟩
    obtain ⟨dd, hdd, hxd⟩ := hL.get hx
    rw [Sm.ds_map, List.getElem?_map] at hdd
    obtain ⟨sm, hsm, rfl⟩ := Option.map_eq_some_iff.mp hdd
    have hmem : sm ∈ b := List.mem_of_getElem? hsm
    obtain ⟨m, rfl⟩ : ∃ m, n = m + 1 := by
      cases n with
      | zero =>
        rw [show b = [] from hv] at hmem
        cases hmem
      | succ m => exact ⟨m, rfl⟩
    have hsv : Sm.vd m sm := hv sm hmem
    obtain rfl := hs m rfl
    have hst := hsv.is.1
    have hx1 := hxd.kp0 k1
    have htk : b.take (i + 1) = b.take i ++ [sm] := by rw [List.take_add_one, hsm]; rfl
    walk_at "rd"
    refine ⟨M, x, sm.d, rfl, hx1, hst, fun H2 p ys hp k2 hp2 hY => ?_⟩
    rw [Sm.blks, List.map_map] at hY
    have hx2 := hx1.kp0 k2
    refine r_LcL (SqL.of hp2) fun q hq => ⟨fun j H' => Kp [] H2 H' ∧ H' q = some (.lst (((sm.parts.take j).map fun c => V.int (Sm.cnts so c)))), ⟨Kp.nil.new hq, upd_same⟩, fun j H' ⟨q1, _⟩ => SqL.of (q1.get hp2 (by simp)), ?_, ?_⟩
    · rintro j u H3 hu ⟨k3, hq3⟩
      obtain ⟨du, hdu, hud⟩ := hY.get hu
      rw [List.getElem?_map] at hdu
      obtain ⟨pt, hpt, rfl⟩ := Option.map_eq_some_iff.mp hdu
      have hpm : pt ∈ sm.parts := List.mem_of_getElem? hpt
      walk_at "rd"
      refine ⟨M, u, pt, so, rfl, hud.kp0 k3, hsv.parts pt hpm, fun H4 k4 => ?_⟩
      have hq4 := k4.get hq3 (by simp)
      have hjl : j < sm.parts.length := (List.getElem?_eq_some_iff.mp hpt).1
      have hpl : sm.parts.length ≤ 2 := by cases sm <;> simp [Sm.parts]
      refine r_LcEnd hq4 (by rw [List.length_map, List.length_take, sizeLine_eq]; omega) ⟨(k3.trans k4).own hq, ?_⟩
      rw [upd_same, List.take_add_one, hpt, List.map_append]
      rfl
    · rintro H3 ⟨k3, hq3⟩
      have hyl := hY.len
      rw [List.length_map] at hyl
      rw [hyl, List.take_length] at hq3
      have k3' := (k1.trans k2).trans k3
      have hx3 := hx2.kp0 k3
      walk_at "rd"
      refine ⟨q, sm.parts.map (Sm.cnts so), rfl, SqL.of (by rw [hq3, List.map_map]; rfl), ?_⟩
      walk_at "rd"
      refine ⟨M, x, sm, so, rfl, hx3, ?_⟩
      walk_at "rdj"
      refine r_ifJ (fun v H4 => v = .int sm.again ∧ H4 = H3) (fun Q' kQ => ?_) ?_
      · cases sm with
        | pl p =>
          obtain ⟨u, r, e, n1, n2⟩ := Pl.hd p
          rw [Sm.d, e] at hx3
          obtain ⟨a3, ws, rfl, hT3, hL3⟩ := hx3.items
          obtain ⟨z, zs, rfl, h0, hR⟩ := hL3.inv
          obtain rfl := h0.isStr
          have hx0 : atI (V.str u :: zs) 0 = some (V.str u) := at_nn (Int.le_refl 0) rfl
          walk_at "rd"
          refine ifd (fun c => absurd (V.str.inj c) n2) fun _ => ?_
          walk_at "rd"
          exact kQ _ _ ⟨rfl, rfl⟩
        | ifs t y z =>
          rw [Sm.d] at hx3
          obtain ⟨a3, ws, rfl, hT3, hL3⟩ := hx3.items
          obtain ⟨x0, x1, x2, x3, d0, d1, d2, d3, rfl, e, h0, h1, h2, h3⟩ := hL3.is4 hL3.len
          cases e
          obtain rfl := h0.isStr
          walk_at "rd"
          exact kQ _ _ ⟨rfl, rfl⟩
        | rep kk y =>
          rw [Sm.d] at hx3
          obtain ⟨a3, ws, rfl, hT3, hL3⟩ := hx3.items
          obtain ⟨x0, x1, x2, d0, d1, d2, rfl, e, h0, h1, h2⟩ := hL3.is3 hL3.len
          cases e
          obtain rfl := h0.isStr
          obtain rfl := h1.isInt
          walk_at "rd"
          exact kQ _ _ ⟨rfl, rfl⟩
      · rintro v H4 ⟨rfl, rfl⟩
        have hag : 0 ≤ sm.again ∧ sm.again ≤ 8 := by
          cases sm with
          | rep kk y => cases m <;> exact ⟨hsv.1, hsv.2.1⟩
          | _ => exact ⟨by show (0 : Int) ≤ 1; decide, by show (1 : Int) ≤ 8; decide⟩
        walk_at "rd"
        · refine ⟨some x, some (.int (List.map (Sm.cnts so) sm.parts).sum), px, ?_, k3'⟩
          rw [htk, Sm.cnts_snoc, Sm.cnt_parts]
          rfl
        · exact c_mulR (by omega) (by omega)
  · rintro σ H1 ⟨sx, ix, px, rfl, k1⟩
    walk_at "rd"
    rw [hlen, List.take_length]
    exact k _ k1
abbrev sweight : Stmt := topS 33
abbrev Nweight : List Str := ["program"]
abbrev Pweight : List Str := ["program"]
theorem scweight : FnScope Nweight Pweight (defScope sweight) :=
  ⟨rfl, rfl, rfl, by decide +kernel, rfl, by decide +kernel, by decide +kernel⟩
theorem ok_weight (D : Df K mg "weight" sweight Pweight) (B : Blt mg) {lv : Nat} (Gcounted : Has P w K mg base CX0 "counted" ["block", "sort"] lv (spCnt K 4)) :
    Has P w K mg base CX0 "weight" Pweight (lv + 1) (spWt K) := by
  refine D.has scweight (fun vs H Q E h => ?_) (fun f cdv A outer s H vs Q E hr h => ?_)
  · obtain ⟨M, v, b, rfl, _⟩ := h
    rfl
  obtain ⟨M, v, b, rfl, hd, hv, k⟩ := h
  refine ⟨_, (pss_one (ps_ret (pe_f Gcounted (hr.mono (by omega)) (by rfl) pass0 (pa_cons (pv 0) (pa_cons pe_str pa_nil))))), ?_⟩
  walk_at "rd"
  exact ⟨M, v, b, "weight", rfl, hd, hv, k⟩
abbrev sprogram_error : Stmt := topS 34
abbrev Nprogram_error : List Str := ["value", "found"]
abbrev Pprogram_error : List Str := ["value"]
theorem scprogram_error : FnScope Nprogram_error Pprogram_error (defScope sprogram_error) :=
  ⟨rfl, rfl, rfl, by decide +kernel, rfl, by decide +kernel, by decide +kernel⟩
theorem ok_program_error (D : Df K mg "program_error" sprogram_error Pprogram_error) (B : Blt mg) {t1 t2 t3 t4 : Tok} (g_MAX_PLACES : mg "MAX_PLACES" = some (.int 24 t1)) (g_MAX_WEIGHT : mg "MAX_WEIGHT" = some (.int 30 t2))
    (g_MAX_RESTS : mg "MAX_RESTS" = some (.int 2 t3)) (g_MAX_COMPARINGS : mg "MAX_COMPARINGS" = some (.int 2 t4))
    (Gorder_error : Has P w K mg base CX0 "order_error" ["value"] 11 (spOrder K)) (Grows_of : Has P w K mg base CX0 "rows_of" ["program"] 3 (spRows K))
    (Gcounted : Has P w K mg base CX0 "counted" ["block", "sort"] 7 (spCnt K 4)) (Gweight : Has P w K mg base CX0 "weight" ["program"] 8 (spWt K)) :
    Has P w K mg base CX0 "program_error" Pprogram_error 12 (spPerr K) := by
  refine D.has scprogram_error (fun vs H Q E h => ?_) (fun f cdv A outer s H vs Q E hr h => ?_)
  · obtain ⟨v, d, rfl, _⟩ := h
    rfl
  obtain ⟨v, d, rfl, hd, hz, k⟩ := h
  refine ⟨_, (pss_cons (ps_if (pt_not (pt_val (pe_callB c_is2 (by rfl) B.isinstance (by decide +kernel) (pa_cons (pv 0) (pa_cons (pe_ty (T := "tuple") (by rfl) B.tuple (by decide +kernel)) pa_nil))))) (pss_one (ps_ret (pe_tup (pa_cons pe_non (pa_cons pe_str pa_nil)))))
        pss_nil)
      (pss_cons (ps_set (i := 1) scprogram_error.nd rfl (Or.inl rfl) (pe_f Gorder_error (hr.mono (by omega)) (by rfl) pass0 (pa_cons (pv 0) pa_nil)))
      (pss_cons (ps_if (pt_cmpR op_notN (pv 1) pe_non (nomark _)) (pss_one (ps_ret (pv 1)))
        pss_nil)
      (pss_cons (ps_if (pt_cmpR op_gt (pe_callB c_len (by rfl) B.len (by decide +kernel) (pa_cons (pe_f Grows_of (hr.mono (by omega)) (by rfl) pass0 (pa_cons (pv 0) pa_nil)) pa_nil)) (pe_gint (by rfl) g_MAX_PLACES) (nomark _)) (pss_one (ps_ret (pe_tup (pa_cons pe_non (pa_cons pe_str pa_nil)))))
        pss_nil)
      (pss_cons (ps_if (pt_cmpR op_gt (pe_f Gweight (hr.mono (by omega)) (by rfl) pass0 (pa_cons (pv 0) pa_nil)) (pe_gint (by rfl) g_MAX_WEIGHT) (nomark _)) (pss_one (ps_ret (pe_tup (pa_cons pe_non (pa_cons pe_str pa_nil)))))
        pss_nil)
      (pss_cons (ps_if (pt_cmpR op_gt (pe_f Gcounted (hr.mono (by omega)) (by rfl) pass0 (pa_cons (pv 0) (pa_cons pe_str pa_nil))) (pe_gint (by rfl) g_MAX_RESTS) (nomark _)) (pss_one (ps_ret (pe_tup (pa_cons pe_non (pa_cons pe_str pa_nil)))))
        pss_nil)
      (pss_one (ps_ret (pe_ifExp (pt_cmpR op_gt (pe_f Gcounted (hr.mono (by omega)) (by rfl) pass0 (pa_cons (pv 0) (pa_cons pe_str pa_nil))) (pe_gint (by rfl) g_MAX_COMPARINGS) (nomark _)) (pe_tup (pa_cons pe_non (pa_cons pe_str pa_nil))) pe_non))))))))), ?_⟩
  cases d with
  | tuple ds =>
    rw [dsz] at hz
    walk_at "rd"
    refine ⟨v, ds, rfl, hd, by omega, fun H1 r k1 hr1 => ?_⟩
    cases ho : ordErr ds with
    | some x =>
      obtain ⟨pl, wd⟩ := x
      rw [ho] at hr1
      have q := k _ r k1 (by rw [perr, ho]; exact hr1)
      obtain ⟨a, x, y, rfl, _⟩ := Dt.is2 hr1
      walk_at "rd"
      refine ⟨rfl, ?_⟩
      walk_at "rd"
      refine ifn (fun _ => ?_) (fun c => by cases c)
      walk_at "rd"
      exact q
    | none =>
      rw [ho] at hr1
      obtain rfl := Dt.isNone hr1
      have hp : perr (.tuple ds) = lim (treeOf ds) := by rw [perr, ho]
      rw [hp] at k
      obtain ⟨e1, hvd⟩ := treeOf_spec ho
      generalize treeOf ds = p at k e1 hvd
      subst e1
      have hd1 := hd.kp0 k1
      unfold lim at k
      walk_at "rd"
      refine ⟨rfl, ?_⟩
      walk_at "rd"
      refine ifn (fun c => absurd rfl c) fun _ => ?_
      walk_at "rd"
      refine ⟨[], v, p, rfl, hd1, fun s hs => ⟨3, hvd s hs⟩, by omega, fun H2 r us hr2 k2 hr3 hS => ?_⟩
      have hus : us.length = Sm.sizes p := by rw [hS.len, Sm.rowsL_len]
      have kk2 := k1.trans k2
      have hd2 := hd1.kp0 k2
      walk_at "rd"
      refine ifd (fun c => ?_) (fun c => ?_)
      · walk_at "rd"
        refine ⟨by walk_at "sz", fun t ht => k _ _ (kk2.new ht) ?_⟩
        rw [if_pos (by omega)]
        exact Dt.mk2 upd_same .non (.str _)
      rw [if_neg (by omega)] at k
      walk_at "rd"
      refine ⟨[], v, p, rfl, hd2, hvd, fun H3 k3 => ?_⟩
      have kk3 := kk2.trans k3
      have hd3 := hd2.kp0 k3
      walk_at "rd"
      refine ifd (fun c1 => ?_) (fun c1 => ?_)
      · walk_at "rd"
        refine ⟨by walk_at "sz", fun t ht => k _ _ (kk3.new ht) ?_⟩
        rw [if_pos c1]
        exact Dt.mk2 upd_same .non (.str _)
      rw [if_neg c1] at k
      walk_at "rd"
      refine ⟨[], v, p, "rest", rfl, hd3, hvd, fun H4 k4 => ?_⟩
      have kk4 := kk3.trans k4
      have hd4 := hd3.kp0 k4
      walk_at "rd"
      refine ifd (fun c2 => ?_) (fun c2 => ?_)
      · walk_at "rd"
        refine ⟨by walk_at "sz", fun t ht => k _ _ (kk4.new ht) ?_⟩
        rw [if_pos c2]
        exact Dt.mk2 upd_same .non (.str _)
      rw [if_neg c2] at k
      walk_at "rd"
      refine ⟨[], v, p, "less", rfl, hd4, hvd, fun H5 k5 => ?_⟩
      have kk5 := kk4.trans k5
      walk_at "rd"
      refine ifd (fun c3 => ?_) (fun c3 => ?_)
      · walk_at "rd"
        refine ⟨by walk_at "sz", fun t ht => k _ _ (kk5.new ht) ?_⟩
        rw [if_pos c3]
        exact Dt.mk2 upd_same .non (.str _)
      rw [if_neg c3] at k
      walk_at "rd"
      exact k _ _ kk5 .non
  | _ =>
    walk_at "rd"
    refine ⟨by walk_at "sz", fun t ht => k _ _ (Kp.nil.new ht) ?_⟩
    exact Dt.mk2 upd_same .non (.str _)
abbrev sadded : Stmt := topS 38
abbrev Nadded : List Str := ["one", "other", "times", "found", "number"]
abbrev Padded : List Str := ["one", "other", "times"]
theorem scadded : FnScope Nadded Padded (defScope sadded) :=
  ⟨rfl, rfl, rfl, by decide +kernel, rfl, by decide +kernel, by decide +kernel⟩
theorem ok_added (D : Df K mg "added" sadded Padded) (B : Blt mg) : Has P w K mg base CX0 "added" Padded 1 (spAdded K) := by
  refine D.has scadded (fun vs H Q E h => ?_) (fun f cdv A outer s H vs Q E hr h => ?_)
  · obtain ⟨M, v, u, s, r, t, b, m, rfl, _⟩ := h
    rfl
  obtain ⟨M, v, u, s, r, t, b, m, rfl, oc, hv, hu, ok1, ok2, hm, t1, t2, k⟩ := h
  obtain ⟨a1, d1, rfl, hT1, hD1, _⟩ := hv
  obtain ⟨a2, d2, rfl, hT2, hD2, _⟩ := hu
  have l1 := ok1.len
  have l2 := ok2.len
  refine ⟨_, (pss_cons (ps_set (i := 3) scadded.nd rfl (Or.inl rfl) (pe_callTy c_dict (by rfl) B.dict (by decide +kernel) (pa_cons (pe_ix ix_tup (pv 0) pe_int (fun _ _ => rfl)) pa_nil)))
      (pss_cons (ps_lock (ps_for PassesOwn.never rfl (pi_keys (pe_ix ix_tup (pv 1) pe_int (fun _ _ => rfl))) (pg_name (i := 4) scadded.nd rfl (Or.inl rfl))
        (pss_one (ps_dput hr.hu (pv 3) (pv 4) (pe_op op_add (pe_dget2 hr.hu (pv 3) (pv 4) pe_int ⟨by rfl, by rfl, by rfl, by rfl⟩) (pe_op op_mul (pv 2) (pe_dget hr.hu (pe_ix ix_tup (pv 1) pe_int (fun _ _ => rfl)) (pv 4) (fun _ _ => rfl)))) rfl))))
      (pss_one (ps_ret (pe_tup (pa_cons (pe_op op_add (pe_ix ix_tup (pv 0) pe_int (fun _ _ => rfl)) (pe_op op_mul (pv 2) (pe_ix ix_tup (pv 1) pe_int (fun _ _ => rfl)))) (pa_cons (pv 3) pa_nil))))))), ?_⟩
  walk_at "rd"
  refine r_dict hD1 fun p hp => ?_
  have k1 : Kp [] H (upd H p (.dK (kvI s.m))) := Kp.nil.new hp
  have h1 : upd H p (.dK (kvI s.m)) p = some (.dK (kvI s.m)) := upd_same
  have hT1' := sqT_kp k1 hT1
  have hT2' := sqT_kp k1 hT2
  have hD2' := k1.get hD2 (by simp)
  have hpd : p ≠ d2 := Ne.symm (ne_of_none hD2 hp)
  have hpM : p ∉ M := oc.new Kp.nil hp
  generalize upd H p (.dK (kvI s.m)) = H1 at k1 h1 hT1' hT2' hD2' ⊢
  walk_at "rdj"
  refine r_lock hD2' trivial fun od => ?_
  have hdn : ∀ H2 : Hp, upd H2 d2 (.frz od (.dK (kvI r.m))) d2 = some (.frz od (.dK (kvI r.m))) := fun H2 => upd_same
  have hpL : upd H1 d2 (.frz od (.dK (kvI r.m))) p = some (.dK (kvI s.m)) := by rw [upd_ne hpd]; exact h1
  have sq : ∀ {a : Addr} {xs : List V}, SqT K H1 a xs → SqT K (upd H1 d2 (.frz od (.dK (kvI r.m)))) a xs := fun {a xs} h => by
    rcases h with (h | ⟨o, h⟩) | h
    · exact .inl (.inl (by rw [upd_ne (fun z => by rw [z, hD2'] at h; cases h)]; exact h))
    · exact .inl (.inr ⟨o, by rw [upd_ne (fun z => by rw [z, hD2'] at h; cases h)]; exact h⟩)
    · exact .inr h
  have hT1L := sq hT1'
  have hT2L := sq hT2'
  generalize hHL : upd H1 d2 (.frz od (.dK (kvI r.m))) = HL at hpL hT1L hT2L ⊢
  have hdL : HL d2 = some (.frz od (.dK (kvI r.m))) := by rw [← hHL]; exact upd_same
  with_reducible refine r_forK ?_
  walk_at "rd"
  refine r_ForK hdL (fun i σ H' => ∃ (nx : Option V), σ = [some (.ref a1), some (.ref a2), some (.int t), some (.ref p), nx] ∧ Kp [p] HL H' ∧ H' p = some (.dK (kvI (bothM s.m (r.m.take i) t))))
    ⟨none, rfl, Kp.reflM (Ms.cons hpL trivial Ms.nil), by rw [List.take_zero]; exact hpL⟩ (fun i σ H' ⟨_, _, q, _⟩ => q.get hdL (by simp [Ne.symm hpd])) ?_ ?_
  · rintro i kk vv σ H3 hk ⟨nx, rfl, k3, h3⟩
    unfold kvI at hk
    rw [List.getElem?_map] at hk
    obtain ⟨pr, hpr, e⟩ := Option.map_eq_some_iff.mp hk
    cases e
    have hmem : pr ∈ r.m := List.mem_of_getElem? hpr
    have hd3 := k3.get hdL (by simp [Ne.symm hpd])
    have hT3 := sqT_kp k3 hT2L
    have hil : i < r.m.length := (List.getElem?_eq_some_iff.mp hpr).1
    have hlen : (bothM s.m (r.m.take i) t).length ≤ 20000 := by
      have q := (ok1.both (u := ⟨0, r.m.take i⟩) (t := t) ⟨Nat.lt_of_lt_of_le Nat.zero_lt_one Nat.one_le_two_pow, fun p hp => ok2.v p (List.mem_of_mem_take hp), fun p hp => ok2.k p (List.mem_of_mem_take hp), List.Sublist.nodup (List.Sublist.map _ (List.take_sublist i r.m)) ok2.nd⟩ t1 t2).len
      exact Nat.le_trans q (by omega)
    show gName 4 (V.int pr.1) _ _ _
    walk_at "rd"
    rw [kvI_get]
    walk_at "rd"
    refine ⟨d2, .int pr.2, rfl, .inl ⟨_, Sum.inl pr.1, .inr ⟨od, hd3⟩, rfl, (kvI_some ok2.nd hmem).symm⟩, ?_⟩
    walk_at "rd"
    · refine ⟨p, _, rfl, DPut.k (k := Sum.inl pr.1) h3 (by rw [kvI_len, sizeLine_eq]; omega), ?_⟩
      refine ⟨_, rfl, k3.write (by simp), ?_⟩
      rw [upd_same, kvI_put]
      have htk : r.m.take (i + 1) = r.m.take i ++ [pr] := by rw [List.take_add_one, hpr]; rfl
      rw [htk, bothM_snoc]
    · walk_at "sc"
  · rintro σ H3 ⟨nx, rfl, k3, h3⟩
    have e : (kvI r.m).length = r.m.length := kvI_len _
    rw [e, List.take_length] at h3
    have hd3 := k3.get hdL (by simp [Ne.symm hpd])
    refine ⟨hd3, ?_⟩
    have k4 : Kp [p] H1 (upd H3 d2 (.dK (kvI r.m))) := Kp.unlock (by rw [hHL]; exact k3) hD2' (by simp [Ne.symm hpd])
    have h4 : upd H3 d2 (.dK (kvI r.m)) p = some (.dK (kvI (bothM s.m r.m t))) := by rw [upd_ne hpd]; exact h3
    have hT14 := sqT_kp k4 hT1'
    have hT24 := sqT_kp k4 hT2'
    have k5 : Kp [] H (upd H3 d2 (.dK (kvI r.m))) := k1.own1 hp k4
    generalize upd H3 d2 (.dK (kvI r.m)) = H4 at k4 h4 hT14 hT24 k5 ⊢
    walk_at "rd"
    · refine ⟨by simp [sizeLine_eq], fun q hq => k _ _ (k5.new hq) ⟨q, p, rfl, SqT.of upd_same, (Kp.nil.new hq).get h4 (by simp), hpM⟩⟩
    · walk_at "sc"
abbrev swhole_sum : Stmt := topS 40
abbrev Nwhole_sum : List Str := ["number"]
abbrev Pwhole_sum : List Str := ["number"]
theorem scwhole_sum : FnScope Nwhole_sum Pwhole_sum (defScope swhole_sum) :=
  ⟨rfl, rfl, rfl, by decide +kernel, rfl, by decide +kernel, by decide +kernel⟩
theorem ok_whole_sum (D : Df K mg "whole_sum" swhole_sum Pwhole_sum) (B : Blt mg) : Has P w K mg base CX0 "whole_sum" Pwhole_sum 1 (spWholeS K) := by
  refine D.has scwhole_sum (fun vs H Q E h => ?_) (fun f cdv A outer s H vs Q E hr h => ?_)
  · obtain ⟨M, i, rfl, _⟩ := h
    rfl
  obtain ⟨M, i, rfl, oc, k⟩ := h
  refine ⟨_, (pss_one (ps_ret (pe_tup (pa_cons (pv 0) (pa_cons pe_dnewK pa_nil))))), ?_⟩
  walk_at "rd"
  refine fun p hp => ?_
  have k1 : Kp [] H (upd H p (.dK [])) := Kp.nil.new hp
  have h1 : upd H p (.dK []) p = some (.dK []) := upd_same
  generalize upd H p (.dK []) = H1 at k1 h1 ⊢
  walk_at "rd"
  refine ⟨by simp [sizeLine_eq], fun q hq => k _ _ (k1.new hq) ⟨q, p, rfl, SqT.of upd_same, (Kp.nil.new hq).get h1 (by simp), oc.new Kp.nil hp⟩⟩
abbrev splaces_in : Stmt := topS 35
abbrev Nplaces_in : List Str := ["statement", "block", "item"]
abbrev Pplaces_in : List Str := ["statement"]
theorem scplaces_in : FnScope Nplaces_in Pplaces_in (defScope splaces_in) :=
  ⟨rfl, rfl, rfl, by decide +kernel, rfl, by decide +kernel, by decide +kernel⟩
theorem ok_places_in1 (D : Df K mg "places_in" splaces_in Pplaces_in) (B : Blt mg) {n lv : Nat} {sp2 : Sp} (hlv : 1 ≤ lv) (Gblocks_of : Has P w K mg base CX0 "blocks_of" ["statement"] 1 (spBlocks K))
    (Gplaces_in : Has P w K mg base CX0 "places_in" Pplaces_in lv sp2) (hs : ∀ m, n = m + 1 → sp2 = spPlaces K m) :
    Has P w K mg base CX0 "places_in" Pplaces_in (lv + 1) (spPlaces K n) := by
  refine D.has scplaces_in (fun vs H Q E h => ?_) (fun f cdv A outer s H vs Q E hr h => ?_)
  · obtain ⟨v, sm, rfl, _⟩ := h
    rfl
  obtain ⟨v, sm, rfl, hd, hv, hz, k⟩ := h
  have hst := hv.is.1
  have hpz : ∀ bl ∈ sm.parts, Sm.sizes bl ≤ 10000 := by
    intro bl hbl
    cases sm with
    | pl p => cases hbl
    | ifs t y z =>
      rw [Sm.size] at hz
      simp only [Sm.parts, List.mem_cons, List.not_mem_nil, or_false] at hbl
      rcases hbl with rfl | rfl <;> omega
    | rep kk bb =>
      rw [Sm.size] at hz
      simp only [Sm.parts, List.mem_cons, List.not_mem_nil, or_false] at hbl
      subst hbl
      omega
  refine ⟨_, (pss_one (ps_ret (pe_op op_add pe_int (pe_callB (cr_sum (by rfl)) (by rfl) B.sum (by decide +kernel) (pa_cons (pe_lc (own := [("block", 1)]) (g := gName 1) (by rfl) scplaces_in.nd (pi_list (pe_f Gblocks_of (hr.mono (by omega)) (by rfl) pass0 (pa_cons (pv 0) pa_nil))) (blkOk_by (own := [("block", 1)]) (N := Nplaces_in) (sc := defScope splaces_in) (by decide +kernel)) (fun _ _ _ _ _ => (pg_name (i := 1) scplaces_in.nd rfl (Or.inl rfl))) (fun _ _ _ _ _ => pts_nil) (fun _ _ _ _ _ => (pe_callB (cr_sumK (K := K) rfl rfl) (by rfl) B.sum (by decide +kernel) (pa_cons (pe_lc (own := [("item", 2)]) (g := gName 2) (by rfl) scplaces_in.nd (pi_tupK (K := K) rfl (pv 1)) (blkOk_by (own := [("item", 2)]) (N := Nplaces_in) (sc := _) (by rfl)) (fun _ _ _ _ _ => (pg_name (i := 2) scplaces_in.nd rfl (Or.inl rfl))) (fun _ _ _ _ _ => pts_nil) (fun _ _ _ _ _ => (pe_f Gplaces_in (hr.mono (by omega)) (by rfl) pass0 (pa_cons (pv 2) pa_nil)))) pa_nil)))) pa_nil))))), ?_⟩
  walk_at "rd"
  refine ⟨[], v, sm.d, rfl, hd, hst, fun H2 p ys hp k2 hp2 hY => ?_⟩
  rw [Sm.blks, List.map_map] at hY
  refine r_LcL (SqL.of hp2) fun q hq => ⟨fun j H' => Kp [] H2 H' ∧ H' q = some (.lst ((sm.parts.take j).map fun c => V.int (Sm.sizes c : Nat))), ⟨Kp.nil.new hq, upd_same⟩, fun j H' ⟨q1, _⟩ => SqL.of (q1.get hp2 (by simp)), ?_, ?_⟩
  · rintro j u H3 hu ⟨k3, hq3⟩
    obtain ⟨du, hdu, hud⟩ := hY.get hu
    rw [List.getElem?_map] at hdu
    obtain ⟨pt, hpt, rfl⟩ := Option.map_eq_some_iff.mp hdu
    have hpm : pt ∈ sm.parts := List.mem_of_getElem? hpt
    have hpz1 := hpz pt hpm
    have hud3 := hud.kp0 k3
    obtain ⟨ua, us, rfl, hT3, hL3⟩ := hud3.items
    have hlen : us.length = pt.length := by rw [hL3.len, Sm.ds_map, List.length_map]
    walk_at "rd"
    refine r_LcT hT3 fun q2 hq2 => ⟨fun i H' => Kp [] H3 H' ∧ H' q2 = some (.lst ((pt.take i).map fun c => V.int (c.size : Nat))), ⟨Kp.nil.new hq2, upd_same⟩, fun i H' ⟨q1, _⟩ => sqT_kp q1 hT3, ?_, ?_⟩
    · rintro i x H4 hx ⟨k4, hq4⟩
      obtain ⟨dx, hdx, hxd⟩ := hL3.get hx
      rw [Sm.ds_map, List.getElem?_map] at hdx
      obtain ⟨c, hc, rfl⟩ := Option.map_eq_some_iff.mp hdx
      have hcm : c ∈ pt := List.mem_of_getElem? hc
      obtain ⟨m, rfl⟩ : ∃ m, n = m + 1 := by
        cases n with
        | zero =>
          have := hv.parts pt hpm
          rw [show pt = [] from this] at hcm
          cases hcm
        | succ m => exact ⟨m, rfl⟩
      obtain rfl := hs m rfl
      have hcv : Sm.vd m c := hv.parts pt hpm c hcm
      have hcz : c.size ≤ 10000 := by
        have : c.size ≤ Sm.sizes pt := Sm.size_mem hcm
        omega
      have hxt : Dw [] K H4 x c.d := hxd.kp0 k4
      walk_at "rd"
      refine ⟨x, c, rfl, hxt, hcv, hcz, fun H5 k5 => ?_⟩
      have hq5 := k5.get hq4 (by simp)
      have hil : i < pt.length := (List.getElem?_eq_some_iff.mp hc).1
      have hls := Sm.len_sizes pt
      refine r_LcEnd hq5 (by rw [List.length_map, List.length_take, sizeLine_eq]; omega) ⟨(k4.trans k5).own hq2, ?_⟩
      rw [upd_same, List.take_add_one, hc, List.map_append]
      rfl
    · rintro H4 ⟨k4, hq4⟩
      rw [hlen, List.take_length] at hq4
      have hq34 := k4.get hq3 (by simp)
      walk_at "rd"
      refine ⟨q2, pt.map fun c => ((c.size : Nat) : Int), rfl, SqL.of (by rw [hq4, List.map_map]; rfl), ?_⟩
      rw [Sm.sizes_sum]
      have hjl : j < sm.parts.length := (List.getElem?_eq_some_iff.mp hpt).1
      have hpl : sm.parts.length ≤ 2 := by cases sm <;> simp [Sm.parts]
      refine r_LcEnd hq34 (by rw [List.length_map, List.length_take, sizeLine_eq]; omega) ⟨(k3.trans k4).own hq, ?_⟩
      rw [upd_same, List.take_add_one, hpt, List.map_append]
      rfl
  · rintro H3 ⟨k3, hq3⟩
    have hyl := hY.len
    rw [List.length_map] at hyl
    rw [hyl, List.take_length] at hq3
    walk_at "rd"
    refine ⟨q, sm.parts.map fun c => ((Sm.sizes c : Nat) : Int), rfl, SqL.of (by rw [hq3, List.map_map]; rfl), ?_⟩
    have e : 1 + (sm.parts.map fun c => ((Sm.sizes c : Nat) : Int)).sum = ((sm.size : Nat) : Int) := (Sm.size_sum sm).symm
    walk_at "rd"
    rw [e]
    exact k _ (k2.trans k3)
abbrev sCourse___init__ : Stmt := inClass (topS 41) 0
abbrev NCourse___init__ : List Str := ["self", "number", "fix"]
abbrev PCourse___init__ : List Str := ["self", "number", "fix"]
theorem scCourse___init__ : FnScope NCourse___init__ PCourse___init__ (defScope sCourse___init__) :=
  ⟨rfl, rfl, rfl, by decide +kernel, rfl, by decide +kernel, by decide +kernel⟩
theorem ok_Course_init {C : Addr} (D : DfM K C "__init__" "Course.__init__" sCourse___init__ PCourse___init__) (B : Blt mg) (T : CT K C) {t1 : Tok} (g_INPUT : mg "INPUT" = some (.str "n" t1))
    (Gwhole_sum : Has P w K mg base CX0 "whole_sum" ["number"] 1 (spWholeS K)) : HasM P w K mg base CX0 C "__init__" PCourse___init__ 2 (spInit K C) := by
  refine D.has scCourse___init__ (fun vs H Q E h => ?_) (fun f cdv A outer s H vs Q E hr h => ?_)
  · obtain ⟨sf, dx, a, n, fix, rfl, _⟩ := h
    rfl
  obtain ⟨sf, dx, a, n, fix, rfl, hI, hF, k⟩ := h
  have cC := T.cl
  refine ⟨_, (pss_cons (ps_fld (pv 0) (pe_disp (pps_cons (pe_gstr (by rfl) g_INPUT) (pe_f Gwhole_sum (hr.mono (by omega)) (by rfl) pass0 (pa_cons (pv 1) pa_nil)) pps_nil) (by rfl) (by rfl) (fun z => by cases z) (by decide)) rfl)
      (pss_cons (ps_fld (pv 0) (pe_lst pa_nil) rfl)
      (pss_cons (ps_fld (pv 0) (pe_lst pa_nil) rfl)
      (pss_one (ps_fld (pv 0) (pv 2) rfl))))), ?_⟩
  with_reducible refine r_seq ?_
  with_reducible refine r_sfld ?_
  refine r_disp1 fun nd hnd => ?_
  have k1 : Kp [] H (upd H nd (.dK [])) := Kp.nil.new hnd
  have h1 : upd H nd (.dK []) nd = some (.dK []) := upd_same
  generalize upd H nd (.dK []) = H1 at k1 h1 ⊢
  walk_at "rd"
  refine ⟨[nd], n, rfl, (fun e m => by cases List.mem_singleton.mp m; exact ⟨_, h1⟩), fun H2 z k2 hz => ?_⟩
  have h2 := k2.get h1 (by simp)
  refine ⟨h2, Sum.inr "n", rfl, ?_⟩
  have k12 := k1.trans k2
  have kw := kpW2 (o := .dK [(Sum.inr "n", z)]) h2 trivial
  have hI2 := k12.get hI (by simp)
  have fnd : sf ≠ nd := ne_of_none hI hnd
  have hI3 := kw.get hI2 (by simp [fnd])
  have h3 : upd H2 nd (.dK [(Sum.inr "n", z)]) nd = some (.dK [(Sum.inr "n", z)]) := upd_same
  have hz3 := (hz.kp kw (fun b m => m))
  have k13 : Kp [] H (upd H2 nd (.dK [(Sum.inr "n", z)])) := k12.own hnd
  generalize upd H2 nd (.dK [(Sum.inr "n", z)]) = H3 at kw hI3 h3 hz3 k13 ⊢
  walk_at "rd"
  refine r_SFld hI3 cC T.nN (by simp) ?_
  show tSeq _ _ _ _ (upd H3 sf (.ins C dx [("names", .ref nd)]))
  have ki : Kp [sf] H3 (upd H3 sf (.ins C dx [("names", .ref nd)])) := kpW2 hI3 trivial
  have hI4 : upd H3 sf (.ins C dx [("names", .ref nd)]) sf = some (.ins C dx [("names", .ref nd)]) := upd_same
  have h4 := ki.get h3 (by simp [Ne.symm fnd])
  have z4 : SvT [] K (upd H3 sf (.ins C dx [("names", .ref nd)])) z ⟨n, []⟩ := by
    obtain ⟨a1, d1, e1, e2, e3, e4⟩ := hz3
    exact ⟨a1, d1, e1, sqT_kp ki e2, ki.get e3 (by intro m; rw [List.mem_singleton.mp m, hI3] at e3; cases e3), by simp⟩
  have k4 : Kp [sf] H (upd H3 sf (.ins C dx [("names", .ref nd)])) := (k13.subM (Ms.cons hI trivial Ms.nil) (by simp)).trans ki
  have n4 := hz3
  have z4d : SvT [nd] K (upd H3 sf (.ins C dx [("names", .ref nd)])) z ⟨n, []⟩ := by
    obtain ⟨a1, d1, e1, e2, e3, e4⟩ := hz3
    exact ⟨a1, d1, e1, sqT_kp ki e2, ki.get e3 (by intro m; rw [List.mem_singleton.mp m, hI3] at e3; cases e3), e4⟩
  generalize upd H3 sf (.ins C dx [("names", .ref nd)]) = H4 at ki hI4 h4 z4d k4 ⊢
  clear z4 hz3 hz h3 h2 h1 kw k13 k12 k1 k2 hI3 hI2 ki n4
  walk_at "rd"
  refine ⟨by decide, fun sd hsd => ?_⟩
  have k5 : Kp [] H4 (upd H4 sd (.lst [])) := Kp.nil.new hsd
  have hI5 := k5.get hI4 (by simp)
  have h5 := k5.get h4 (by simp)
  have s5 : upd H4 sd (.lst []) sd = some (.lst []) := upd_same
  have z5 := (z4d.fresh hsd).kp0 k5
  have hsd0 : H sd = none := k4.freeM (Ms.cons hI4 trivial Ms.nil) hsd
  have fsd : sf ≠ sd := ne_of_none hI4 hsd
  have fnsd : nd ≠ sd := ne_of_none h4 hsd
  have k45 := k4.new (o := .lst []) hsd
  generalize upd H4 sd (.lst []) = H5 at k5 hI5 h5 s5 z5 k45 ⊢
  walk_at "rd"
  refine r_SFld hI5 cC T.nS (by simp) ?_
  show tSeq _ _ _ _ (upd H5 sf (.ins C dx [("names", .ref nd), ("said", .ref sd)]))
  have ki : Kp [sf] H5 (upd H5 sf (.ins C dx [("names", .ref nd), ("said", .ref sd)])) := kpW2 hI5 trivial
  have hI6 : upd H5 sf (.ins C dx [("names", .ref nd), ("said", .ref sd)]) sf = some (.ins C dx [("names", .ref nd), ("said", .ref sd)]) := upd_same
  have h6 := ki.get h5 (by simp [Ne.symm fnd])
  have s6 := ki.get s5 (by simp [Ne.symm fsd])
  have k46 := k45.trans ki
  have z6 : SvT [sd, nd] K (upd H5 sf (.ins C dx [("names", .ref nd), ("said", .ref sd)])) z ⟨n, []⟩ := by
    obtain ⟨a1, d1, e1, e2, e3, e4⟩ := z5
    exact ⟨a1, d1, e1, sqT_kp ki e2, ki.get e3 (by intro m; rw [List.mem_singleton.mp m, hI5] at e3; cases e3), e4⟩
  generalize upd H5 sf (.ins C dx [("names", .ref nd), ("said", .ref sd)]) = H6 at ki hI6 h6 s6 z6 k46 ⊢
  walk_at "rd"
  refine ⟨by decide, fun rd hrd => ?_⟩
  have k7 : Kp [] H6 (upd H6 rd (.lst [])) := Kp.nil.new hrd
  have hI7 := k7.get hI6 (by simp)
  have h7 := k7.get h6 (by simp)
  have s7 := k7.get s6 (by simp)
  have r7 : upd H6 rd (.lst []) rd = some (.lst []) := upd_same
  have z7 := (z6.fresh hrd).kp0 k7
  have hrd0 : H rd = none := k46.freeM (Ms.cons hI6 trivial Ms.nil) hrd
  have frd : sf ≠ rd := ne_of_none hI6 hrd
  have fsr : sd ≠ rd := ne_of_none s6 hrd
  have k47 := k46.new (o := .lst []) hrd
  generalize upd H6 rd (.lst []) = H7 at k7 hI7 h7 s7 r7 z7 k47 ⊢
  walk_at "rd"
  refine r_SFld hI7 cC T.nR (by simp) ?_
  show tSeq _ _ _ _ (upd H7 sf (.ins C dx [("names", .ref nd), ("said", .ref sd), ("readings", .ref rd)]))
  have ki : Kp [sf] H7 (upd H7 sf (.ins C dx [("names", .ref nd), ("said", .ref sd), ("readings", .ref rd)])) := kpW2 hI7 trivial
  have hI8 : upd H7 sf (.ins C dx [("names", .ref nd), ("said", .ref sd), ("readings", .ref rd)]) sf = some (.ins C dx [("names", .ref nd), ("said", .ref sd), ("readings", .ref rd)]) := upd_same
  have h8 := ki.get h7 (by simp [Ne.symm fnd])
  have s8 := ki.get s7 (by simp [Ne.symm fsd])
  have r8 := ki.get r7 (by simp [Ne.symm frd])
  have k48 := k47.trans ki
  have z8 : SvT [rd, sd, nd] K (upd H7 sf (.ins C dx [("names", .ref nd), ("said", .ref sd), ("readings", .ref rd)])) z ⟨n, []⟩ := by
    obtain ⟨a1, d1, e1, e2, e3, e4⟩ := z7
    exact ⟨a1, d1, e1, sqT_kp ki e2, ki.get e3 (by intro m; rw [List.mem_singleton.mp m, hI7] at e3; cases e3), e4⟩
  generalize upd H7 sf (.ins C dx [("names", .ref nd), ("said", .ref sd), ("readings", .ref rd)]) = H8 at ki hI8 h8 s8 r8 z8 k48 ⊢
  walk_at "rd"
  refine r_SFld hI8 cC T.nF (by simp) ?_
  show Q .non (upd H8 sf (.ins C dx [("names", .ref nd), ("said", .ref sd), ("readings", .ref rd), ("fix", .ref a)]))
  have ki : Kp [sf] H8 (upd H8 sf (.ins C dx [("names", .ref nd), ("said", .ref sd), ("readings", .ref rd), ("fix", .ref a)])) := kpW2 hI8 trivial
  have k49 := k48.trans ki
  have z9 : SvT [nd, sd, rd] K (upd H8 sf (.ins C dx [("names", .ref nd), ("said", .ref sd), ("readings", .ref rd), ("fix", .ref a)])) z ⟨n, []⟩ := by
    obtain ⟨a1, d1, e1, e2, e3, e4⟩ := z8
    exact ⟨a1, d1, e1, sqT_kp ki e2, ki.get e3 (by intro m; rw [List.mem_singleton.mp m, hI8] at e3; cases e3), by simp only [List.mem_cons, List.not_mem_nil, or_false, not_or] at e4 ⊢; exact ⟨e4.2.2, e4.2.1, e4.1⟩⟩
  refine k _ nd sd rd hnd hsd0 hrd0 k49 ⟨⟨dx, upd_same⟩, ⟨_, ki.get h8 (by simp [Ne.symm fnd]), fun x => ?_, by simp⟩, ⟨[], ki.get s8 (by simp [Ne.symm fsd]), ⟨rfl, fun i v t e => by simp at e⟩⟩, ki.get r8 (by simp [Ne.symm frd]), ⟨a, rfl, sqT_kp k49 hF⟩, fsr⟩
  show (valV [((Sum.inr "n" : Key), z)] (Sum.inr x) = none ∧ (if x = "n" then some (⟨n, []⟩ : Sv) else none) = none) ∨ ∃ v s, valV [((Sum.inr "n" : Key), z)] (Sum.inr x) = some v ∧ (if x = "n" then some (⟨n, []⟩ : Sv) else none) = some s ∧ SvT [nd, sd, rd] K _ v s
  by_cases e : x = "n"
  · subst e
    exact .inr ⟨z, _, valV_pos rfl, if_pos rfl, z9⟩
  · rw [valV_neg (fun q => e (by injection q with q; exact q.symm)), if_neg e]
    exact .inl ⟨rfl, rfl⟩
abbrev sCourse_reading : Stmt := inClass (topS 41) 1
abbrev NCourse_reading : List Str := ["self", "place"]
abbrev PCourse_reading : List Str := ["self", "place"]
theorem scCourse_reading : FnScope NCourse_reading PCourse_reading (defScope sCourse_reading) :=
  ⟨rfl, rfl, rfl, by decide +kernel, rfl, by decide +kernel, by decide +kernel⟩
theorem ok_Course_reading {C : Addr} (D : DfM K C "reading" "Course.reading" sCourse_reading PCourse_reading) (B : Blt mg) (T : CT K C) {t1 : Tok} (g_NOTHING : mg "NOTHING" = some (.int 0 t1))
    (Gwhole_sum : Has P w K mg base CX0 "whole_sum" ["number"] 1 (spWholeS K)) : HasM P w K mg base CX0 C "reading" PCourse_reading 2 (spRead K C) := by
  refine D.has scCourse_reading (fun vs H Q E h => ?_) (fun f cdv A outer s H vs Q E hr h => ?_)
  · obtain ⟨sf, nd, sd, rd, fv, fix, st, L, p, rfl, _⟩ := h
    rfl
  obtain ⟨sf, nd, sd, rd, fv, fix, st, L, p, rfl, Cr, hm, k⟩ := h
  have cC := T.cl
  have nF := T.nF
  have nR := T.nR
  obtain ⟨dx, hI⟩ := Cr.obj
  obtain ⟨fa, rfl, hfx⟩ := Cr.fixed
  have hrd := Cr.made
  obtain ⟨n1, n2, n3, n4, n5⟩ := Cr.nds
  refine ⟨_, (pss_cons (ps_if (pt_cmpR op_in_seq (pv 1) (pe_fld (pv 0) rfl) (by rfl)) (pss_one (ps_ret (pe_f Gwhole_sum (hr.mono (by omega)) (by rfl) pass0 (pa_cons (pe_gint (by rfl) g_NOTHING) pa_nil))))
        pss_nil)
      (pss_cons (ps_expr (pe_bm PySem.F.plainAttrs_list PySem.F.slot_list_append PySem.F.type_list_append mt_append (pe_fld (pv 0) rfl) (pa_cons (pv 1) pa_nil)))
      (pss_one (ps_ret (pe_tup (pa_cons (pe_gint (by rfl) g_NOTHING) (pa_cons (pe_disp (pps_cons (pe_op op_sub (pe_callB c_len (by rfl) B.len (by decide +kernel) (pa_cons (pe_fld (pv 0) rfl) pa_nil)) pe_int) pe_int pps_nil) (by rfl) (by rfl) (fun z => by cases z) (by decide)) pa_nil))))))), ?_⟩
  walk_at "rd"
  refine r_in (.inr hfx) rfl (flat_ints fix) ?_
  rw [inV_ints]
  unfold rdS at k
  by_cases hp : p ∈ fix
  · rw [if_pos hp] at k
    rw [decide_eq_true hp]
    walk_at "rd"
    exact ⟨[nd, sd, rd], 0, rfl, Cr.ms.oc, fun H1 z k1 hz => k _ z (k1.subM Cr.ms (by simp)) (Cr.kp0 k1) hz⟩
  · rw [if_neg hp] at k
    rw [decide_eq_false hp]
    walk_at "rd"
    rotate_left
    · rw [List.length_map, sizeLine_eq]
      omega
    have Cr1 := Cr.read (q := p)
    have k1 := Cr.kpr (q := p)
    have hI1 : upd H rd (.lst (st.made.map V.int ++ [.int p])) sf = some (.ins C dx [("names", .ref nd), ("said", .ref sd), ("readings", .ref rd), ("fix", .ref fa)]) := by rw [upd_ne n5]; exact hI
    have hr1 : upd H rd (.lst (st.made.map V.int ++ [.int p])) rd = some (.lst (st.made.map V.int ++ [.int p])) := upd_same
    generalize upd H rd (.lst (st.made.map V.int ++ [.int p])) = H1 at Cr1 k1 hI1 hr1 ⊢
    refine r_disp1 fun q hq => ?_
    have k2 : Kp [] H1 (upd H1 q (.dK [])) := Kp.nil.new hq
    have hI2 := k2.get hI1 (by simp)
    have hr2 := k2.get hr1 (by simp)
    have h2 : upd H1 q (.dK []) q = some (.dK []) := upd_same
    generalize upd H1 q (.dK []) = H2 at k2 hI2 hr2 h2 ⊢
    walk_at "rd"
    have e : (((st.made.map V.int ++ [V.int p]).length : Nat) : Int) - 1 = ((st.made.length : Nat) : Int) := by
      rw [List.length_append, List.length_map, List.length_singleton]
      omega
    rw [e]
    refine ⟨h2, Sum.inl ((st.made.length : Nat) : Int), rfl, ?_⟩
    have k3 := kpW2 (o := .dK [((Sum.inl ((st.made.length : Nat) : Int) : Key), .int 1)]) h2 trivial
    have h3 : upd H2 q (.dK [((Sum.inl ((st.made.length : Nat) : Int) : Key), .int 1)]) q = some (.dK [((Sum.inl ((st.made.length : Nat) : Int) : Key), .int 1)]) := upd_same
    have k13 : Kp [] H1 (upd H2 q (.dK [((Sum.inl ((st.made.length : Nat) : Int) : Key), .int 1)])) := k2.own hq
    have hqM : q ∉ [nd, sd, rd] := Cr1.ms.oc.new Kp.nil hq
    generalize upd H2 q (.dK [((Sum.inl ((st.made.length : Nat) : Int) : Key), .int 1)]) = H3 at k3 h3 k13 ⊢
    walk_at "rd"
    refine ⟨by simp [sizeLine_eq], fun t ht => ?_⟩
    have k4 : Kp [] H1 (upd H3 t (.tup [.int 0, .ref q])) := k13.new ht
    exact k _ _ (k1.trans (k4.subM Cr1.ms (by simp))) (Cr1.kp0 k4) ⟨t, q, rfl, SqT.of upd_same, (Kp.nil.new ht).get h3 (by simp), hqM⟩
abbrev sCourse_worth : Stmt := inClass (topS 41) 2
abbrev NCourse_worth : List Str := ["self", "expression", "place", "sort", "first", "second", "one"]
abbrev PCourse_worth : List Str := ["self", "expression", "place"]
theorem scCourse_worth : FnScope NCourse_worth PCourse_worth (defScope sCourse_worth) :=
  ⟨rfl, rfl, rfl, by decide +kernel, rfl, by decide +kernel, by decide +kernel⟩
theorem ok_Course_worth1 {C : Addr} (D : DfM K C "worth" "Course.worth" sCourse_worth PCourse_worth) (B : Blt mg) (T : CT K C) {n lv : Nat} {sp2 : Sp} (hlv : 2 ≤ lv) {t1 : Tok} (g_NOTHING : mg "NOTHING" = some (.int 0 t1))
    (Gwhole_sum : Has P w K mg base CX0 "whole_sum" ["number"] 1 (spWholeS K)) (Gadded : Has P w K mg base CX0 "added" ["one", "other", "times"] 1 (spAdded K))
    (GCourse_reading : HasM P w K mg base CX0 C "reading" ["self", "place"] 2 (spRead K C)) (GCourse_worth : HasM P w K mg base CX0 C "worth" PCourse_worth lv sp2) (hs : ∀ m, n = m + 1 → sp2 = spWorth K C m) :
    HasM P w K mg base CX0 C "worth" PCourse_worth (lv + 1) (spWorth K C n) := by
  refine D.has scCourse_worth (fun vs H Q E h => ?_) (fun f cdv A outer s H vs Q E hr h => ?_)
  · obtain ⟨sf, nd, sd, rd, fv, v, fix, st, L, b, p, e, rfl, _⟩ := h
    rfl
  obtain ⟨sf, nd, sd, rd, fv, v, fix, st, L, b, p, e, rfl, Cr, hd, hv, hok, hb, hm, k⟩ := h
  have cC := T.cl
  have nN := T.nN
  obtain ⟨dx, hI⟩ := Cr.obj
  refine ⟨_, (pss_cons (ps_if (pt_val (pe_callB c_is2 (by rfl) B.isinstance (by decide +kernel) (pa_cons (pv 1) (pa_cons (pe_ty (T := "int") (by rfl) B.int (by decide +kernel)) pa_nil)))) (pss_one (ps_ret (pe_f Gwhole_sum (hr.mono (by omega)) (by rfl) pass0 (pa_cons (pv 1) pa_nil))))
        pss_nil)
      (pss_cons (ps_if (pt_val (pe_callB c_is2 (by rfl) B.isinstance (by decide +kernel) (pa_cons (pv 1) (pa_cons (pe_ty (T := "str") (by rfl) B.str (by decide +kernel)) pa_nil)))) (pss_one (ps_ret (pe_ifExp (pt_cmp (pc_din hr.hu (pv 1) (pe_fld (pv 0) rfl))) (pe_dget hr.hu (pe_fld (pv 0) rfl) (pv 1) (fun _ _ => rfl)) (pe_m GCourse_reading cC (hr.mono (by omega)) pass0 (pv 0) (pa_cons (pv 2) pa_nil)))))
        pss_nil)
      (pss_cons (ps_asg (pv 1) (pg_tup rfl (pgs_cons (pg_name (i := 3) scCourse_worth.nd rfl (Or.inl rfl)) (pgs_cons (pg_name (i := 4) scCourse_worth.nd rfl (Or.inl rfl)) (pgs_cons (pg_name (i := 5) scCourse_worth.nd rfl (Or.inl rfl)) pgs_nil)))))
      (pss_cons (ps_if (pt_cmpR op_eq (pv 3) pe_str (nomark _)) (pss_one (ps_ret (pe_f Gadded (hr.mono (by omega)) (by rfl) pass0 (pa_cons (pe_f Gwhole_sum (hr.mono (by omega)) (by rfl) pass0 (pa_cons (pe_gint (by rfl) g_NOTHING) pa_nil)) (pa_cons (pe_m GCourse_worth cC (hr.mono (by omega)) pass0 (pv 0) (pa_cons (pv 5) (pa_cons (pv 2) pa_nil))) (pa_cons (pv 4) pa_nil))))))
        pss_nil)
      (pss_cons (ps_set (i := 6) scCourse_worth.nd rfl (Or.inl rfl) (pe_m GCourse_worth cC (hr.mono (by omega)) pass0 (pv 0) (pa_cons (pv 4) (pa_cons (pv 2) pa_nil))))
      (pss_one (ps_ret (pe_f Gadded (hr.mono (by omega)) (by rfl) pass0 (pa_cons (pv 6) (pa_cons (pe_m GCourse_worth cC (hr.mono (by omega)) pass0 (pv 0) (pa_cons (pv 5) (pa_cons (pv 2) pa_nil))) (pa_cons (pe_ifExp (pt_cmpR op_eq (pv 3) pe_str (nomark _)) pe_int (pe_un un_neg pe_int)) pa_nil))))))))))), ?_⟩
  cases n with
  | zero => exact hv.elim
  | succ n =>
  obtain rfl := hs n rfl
  have hp2 : 2 ^ (n + 1) = 2 ^ n + 2 ^ n := by rw [Nat.pow_succ]; omega
  have hp1 := Nat.one_le_two_pow (n := n)
  cases e with
  | int i =>
    obtain rfl := hd.isInt
    have hw : Dw [] K H (.int i) (.int i) := .int i
    walk_at "rd"
    exact ⟨[nd, sd, rd], i, rfl, Cr.ms.oc, fun H1 z k1 hz => k _ z (k1.subM Cr.ms (by simp)) (Cr.kp0 k1) hz⟩
  | name x =>
    obtain rfl := hd.isStr
    have hw : Dw [] K H (.str x) (.str x) := .str x
    obtain ⟨kvs, hN, hE, hL⟩ := Cr.names
    walk_at "rd"
    rw [Ex.ev] at k
    rcases hE x with ⟨e1, e2⟩ | ⟨vx, sx, e1, e2, e3⟩
    · rw [e2] at k
      rw [e1, Option.isSome_none]
      walk_at "rd"
      exact ⟨sf, nd, sd, rd, fv, fix, st, L, p, rfl, Cr, by omega, k⟩
    · rw [e2] at k
      rw [e1, Option.isSome_some]
      walk_at "rd"
      refine ⟨nd, vx, rfl, dget_k hN e1, ?_⟩
      exact k _ _ (Kp.reflM Cr.ms) Cr e3
  | bin o x y =>
    obtain ⟨hy, hx⟩ := hv
    have hdw : Dw [] K H v (.tuple [.str o, x.d, y.d]) := Dt.dw (show Dt K H v (.tuple [.str o, x.d, y.d]) from hd)
    obtain ⟨a, v0, v1, v2, rfl, hT, h0, h1, h2⟩ := Dt.is3 hd
    obtain rfl := h0.isStr
    have hw : Dw [] K H (.ref a) (.tuple [.str o, x.d, y.d]) := hdw
    rw [Ex.ev] at k
    walk_at "rd"
    refine ifd (fun c1 => ?_) (fun c1 => ?_)
    · have ho : o = "times" := by injection c1
      subst ho
      rw [if_pos rfl] at k
      rcases hx with ⟨_, i, rfl, i1, i2⟩ | ⟨ho, _⟩
      · obtain rfl := h1.isInt
        walk_at "rd"
        refine ⟨[nd, sd, rd], 0, rfl, Cr.ms.oc, fun H1 z1 k1 hz1 => ?_⟩
        have Cr1 := Cr.kp0 k1
        have hI1 := k1.get hI (by simp)
        walk_at "rd"
        refine ⟨sf, nd, sd, rd, fv, _, fix, st, L, b, p, y, rfl, Cr1, h2.kp k1, hy, hok, hb, by omega, fun H2 z2 k2 Cr2 hz2 => ?_⟩
        have ev := Ex.ev_ok fix p hy hok hb
        walk_at "rd"
        refine ⟨[nd, sd, rd], _, _, ⟨0, []⟩, _, i, b + 4 * n, _, rfl, Cr2.ms.oc, hz1.kp k2 (fun b m => m), hz2, ⟨Nat.lt_of_lt_of_le Nat.zero_lt_one Nat.one_le_two_pow, (fun p hp => nomatch hp), (fun p hp => nomatch hp), List.nodup_nil⟩, ev.2, by have := ev.1.le; omega, i1, i2, fun H3 z3 k3 hz3 => ?_⟩
        exact k _ _ (((k1.subM Cr.ms (by simp)).trans k2).trans (k3.subM Cr2.ms (by simp))) (Cr2.kp0 k3) hz3
      · rcases ho with ho | ho
        · exact absurd ho (by decide +kernel)
        · exact absurd ho (by decide +kernel)
    · have ho : o ≠ "times" := fun z => c1 (by rw [z])
      rw [if_neg ho] at k
      rcases hx with ⟨z, _⟩ | ⟨ho2, hxv⟩
      · exact absurd z ho
      walk_at "rd"
      refine ⟨sf, nd, sd, rd, fv, _, fix, st, L, b, p, x, rfl, Cr, h1, hxv, hok, hb, by omega, fun H1 z1 k1 Cr1 hz1 => ?_⟩
      have ev1 := Ex.ev_ok fix p hxv hok hb
      have hok1 : ∀ z s, (x.ev fix p st).2.env z = some s → s.ok b (x.ev fix p st).2.made.length := fun z s e => by
        rw [ev1.1.env] at e
        exact (hok z s e).mono (Nat.le_refl _) ev1.1.ge
      obtain ⟨dx1, hI1⟩ := Cr1.obj
      have hl1 := ev1.1.le
      walk_at "rd"
      refine ⟨sf, nd, sd, rd, fv, _, fix, _, L, b, p, y, rfl, Cr1, h2.kp k1, hy, hok1, hb, by omega, fun H2 z2 k2 Cr2 hz2 => ?_⟩
      have ev2 := Ex.ev_ok fix p hy hok1 hb
      have hl2 := ev2.1.le
      walk_at "rdj"
      refine r_ifJ (fun v H' => v = .int (if o = "plus" then 1 else -1) ∧ H' = H2) (fun Q' kQ => ?_) ?_
      · walk_at "rd"
        refine ifd (fun c2 => ?_) (fun c2 => ?_)
        · walk_at "rd"
          refine kQ _ _ ⟨?_, rfl⟩
          rw [if_pos (by injection c2)]
        · walk_at "rd"
          refine kQ _ _ ⟨?_, rfl⟩
          rw [if_neg (fun z => c2 (by rw [z]))]
      rintro v H' ⟨rfl, rfl⟩
      have t9 : -9 ≤ (if o = "plus" then (1 : Int) else -1) ∧ (if o = "plus" then (1 : Int) else -1) ≤ 9 := by split <;> omega
      walk_at "rd"
      refine ⟨[nd, sd, rd], _, _, _, _, _, b + 4 * n, _, rfl, Cr2.ms.oc, hz1.kp k2 (fun b m => m), hz2, ev1.2.mono (Nat.le_refl _) ev2.1.ge, ev2.2, by omega, t9.1, t9.2, fun H3 z3 k3 hz3 => ?_⟩
      exact k _ _ ((k1.trans k2).trans (k3.subM Cr2.ms (by simp))) (Cr2.kp0 k3) hz3
abbrev sCourse_truth : Stmt := inClass (topS 41) 3
abbrev NCourse_truth : List Str := ["self", "test", "place", "found", "value", "many", "by"]
abbrev PCourse_truth : List Str := ["self", "test", "place"]
theorem scCourse_truth : FnScope NCourse_truth PCourse_truth (defScope sCourse_truth) :=
  ⟨rfl, rfl, rfl, by decide +kernel, rfl, by decide +kernel, by decide +kernel⟩
theorem ok_Course_truth1 {C : Addr} (D : DfM K C "truth" "Course.truth" sCourse_truth PCourse_truth) (B : Blt mg) (T : CT K C) {n lv : Nat} {sp2 : Sp} (hlv : 5 ≤ lv)
    (Gadded : Has P w K mg base CX0 "added" ["one", "other", "times"] 1 (spAdded K))
    (GCourse_worth : HasM P w K mg base CX0 C "worth" ["self", "expression", "place"] 5 (spWorth K C 3)) (GCourse_truth : HasM P w K mg base CX0 C "truth" PCourse_truth lv sp2) (hs : ∀ m, n = m + 1 → sp2 = spTruth K C m) :
    HasM P w K mg base CX0 C "truth" PCourse_truth (lv + 1) (spTruth K C n) := by
  refine D.has scCourse_truth (fun vs H Q E h => ?_) (fun f cdv A outer s H vs Q E hr h => ?_)
  · obtain ⟨sf, nd, sd, rd, fv, v, fix, st, L, b, p, t, rfl, _⟩ := h
    rfl
  obtain ⟨sf, nd, sd, rd, fv, v, fix, st, L, b, p, t, rfl, Cr, hd, hv, hok, hb, hm, k⟩ := h
  have cC := T.cl
  have nN := T.nN
  obtain ⟨dx, hI⟩ := Cr.obj
  have h8 : 2 ^ 3 = 8 := rfl
  refine ⟨_, (pss_cons (ps_if (pt_cmpR op_eq (pe_ix ix_tup (pv 1) pe_int (fun _ _ => rfl)) pe_str (nomark _)) (pss_cons (ps_set (i := 3) scCourse_truth.nd rfl (Or.inl rfl) (pe_m GCourse_truth cC (hr.mono (by omega)) pass0 (pv 0) (pa_cons (pe_ix ix_tup (pv 1) pe_int (fun _ _ => rfl)) (pa_cons (pv 2) pa_nil))))
      (pss_one (ps_ret (pe_ifExp (pt_cmpR op_isN (pv 3) pe_non (nomark _)) pe_non (pe_not (pv 3))))))
        pss_nil)
      (pss_cons (ps_if (pt_cmpR op_eq (pe_ix ix_tup (pv 1) pe_int (fun _ _ => rfl)) pe_str (nomark _)) (pss_one (ps_ret (pe_cmp (pc_din hr.hu (pe_ix ix_tup (pv 1) pe_int (fun _ _ => rfl)) (pe_fld (pv 0) rfl)))))
        pss_nil)
      (pss_cons (ps_set (i := 4) scCourse_truth.nd rfl (Or.inl rfl) (pe_m GCourse_worth cC (hr.mono (by omega)) pass0 (pv 0) (pa_cons (pe_ix ix_tup (pv 1) pe_int (fun _ _ => rfl)) (pa_cons (pv 2) pa_nil))))
      (pss_cons (ps_if (pt_cmpR op_eq (pe_ix ix_tup (pv 1) pe_int (fun _ _ => rfl)) pe_str (nomark _)) (pss_cons (ps_set (i := 4) scCourse_truth.nd rfl (Or.inl rfl) (pe_f Gadded (hr.mono (by omega)) (by rfl) pass0 (pa_cons (pv 4) (pa_cons (pe_m GCourse_worth cC (hr.mono (by omega)) pass0 (pv 0) (pa_cons (pe_ix ix_tup (pv 1) pe_int (fun _ _ => rfl)) (pa_cons (pv 2) pa_nil))) (pa_cons (pe_un un_neg pe_int) pa_nil)))))
      (pss_one (ps_ret (pe_ifExp (pt_cmpR (op_eqNil hr.h64) (pe_lock (pe_lc (own := [("many", 5)]) (g := gName 5) (by rfl) scCourse_truth.nd (pi_values (pe_ix ix_tup (pv 4) pe_int (fun _ _ => rfl))) (blkOk_by (own := [("many", 5)]) (N := NCourse_truth) (sc := defScope sCourse_truth) (by decide +kernel)) (fun _ _ _ _ _ => (pg_name (i := 5) scCourse_truth.nd rfl (Or.inl rfl))) (fun _ _ _ _ _ => (pts_one (pt_cmpR op_ne (pv 5) pe_int (nomark _)))) (fun _ _ _ _ _ => (pv 5)))) (pe_lst pa_nil) (nomark _)) (pe_cmpR op_lt (pe_ix ix_tup (pv 4) pe_int (fun _ _ => rfl)) pe_int (nomark _)) pe_non))))
        pss_nil)
      (pss_cons (ps_set (i := 6) scCourse_truth.nd rfl (Or.inr rfl) (pe_ix ix_tup (pv 1) pe_int (fun _ _ => rfl)))
      (pss_one (ps_ret (pe_ifExp (pt_cmpR (op_eqNil hr.h64) (pe_lock (pe_lc (own := [("many", 5)]) (g := gName 5) (by rfl) scCourse_truth.nd (pi_values (pe_ix ix_tup (pv 4) pe_int (fun _ _ => rfl))) (blkOk_by (own := [("many", 5)]) (N := NCourse_truth) (sc := defScope sCourse_truth) (by decide +kernel)) (fun _ _ _ _ _ => (pg_name (i := 5) scCourse_truth.nd rfl (Or.inl rfl))) (fun _ _ _ _ _ => (pts_one (pt_cmpR op_ne (pe_op op_mod (pv 5) (pv 6)) pe_int (nomark _)))) (fun _ _ _ _ _ => (pv 5)))) (pe_lst pa_nil) (nomark _)) (pe_cmpR op_eq (pe_op op_mod (pe_ix ix_tup (pv 4) pe_int (fun _ _ => rfl)) (pv 6)) (pe_ix ix_tup (pv 1) pe_int (fun _ _ => rfl)) (nomark _)) pe_non)))))))), ?_⟩
  cases t with
  | not t =>
    cases n with
    | zero => exact hv.elim
    | succ n =>
    obtain rfl := hs n rfl
    obtain ⟨a, v0, v1, rfl, hT, h0, h1⟩ := Dt.is2 hd
    obtain rfl := h0.isStr
    walk_at "rd"
    refine ⟨sf, nd, sd, rd, fv, _, fix, st, L, b, p, t, rfl, Cr, h1, hv, hok, hb, hm, fun H1 k1 Cr1 => ?_⟩
    have fin : Q (trV ((t.tr fix p st).1.map (! ·))) H1 := k H1 k1 Cr1
    cases hr : (t.tr fix p st).1 with
    | none =>
      rw [hr] at fin
      walk_at "rd"
      refine ⟨rfl, ?_⟩
      walk_at "rd"
      refine ifd (fun _ => ?_) (fun z => absurd rfl z)
      walk_at "rd"
      exact fin
    | some bb =>
      rw [hr] at fin
      have hne : ¬ V.bl bb = V.non := fun z => by cases z
      show gName _ (V.bl bb) _ _ _
      walk_at "rd"
      refine ⟨rfl, ?_⟩
      walk_at "rd"
      refine ifd (fun z => absurd z hne) (fun _ => ?_)
      walk_at "rd"
      exact fin
  | given x =>
    obtain ⟨a, v0, v1, rfl, hT, h0, h1⟩ := Dt.is2 hd
    obtain rfl := h0.isStr
    obtain rfl := h1.isStr
    obtain ⟨kvs, hN, hE, hL⟩ := Cr.names
    have fin : Q (.bl (st.env x).isSome) H := k H (Kp.reflM Cr.ms) Cr
    walk_at "rd"
    rcases hE x with ⟨e1, e2⟩ | ⟨vx, sx, e1, e2, e3⟩
    · rw [e2] at fin
      rw [e1]
      exact fin
    · rw [e2] at fin
      rw [e1]
      exact fin
  | rest e c r =>
    have hv' : e.vd 3 ∧ 2 ≤ c ∧ c ≤ 6 ∧ 0 ≤ r ∧ r ≤ c - 1 := by cases n <;> exact hv
    obtain ⟨hv', c1, c2, r1, r2⟩ := hv'
    obtain ⟨a, v0, v1, v2, v3, rfl, hT, h0, h1, h2, h3⟩ := Dt.is4 hd
    obtain rfl := h0.isStr
    obtain rfl := h2.isInt
    obtain rfl := h3.isInt
    walk_at "rd"
    refine ⟨sf, nd, sd, rd, fv, _, fix, st, L, b, p, e, rfl, Cr, h1, hv', hok, hb, by omega, fun H1 z1 k1 Cr1 hz1 => ?_⟩
    have ev := Ex.ev_ok fix p hv' hok hb
    have hl := ev.1.le
    have ll := ev.2.len
    have hT1 := sqT_kp k1 hT
    obtain ⟨a1, d1, rfl, hS1, hD1, hn1⟩ := hz1
    have fin : ∀ H2, Kp [] H1 H2 → Q (trV (restV c r (e.ev fix p st).1)) H2 := fun H2 k2 => k H2 (k1.trans (k2.subM Cr1.ms (by simp))) (Cr1.kp0 k2)
    unfold restV at fin
    generalize (e.ev fix p st).1 = sv at hS1 hD1 ll fin
    walk_at "rdj"
    refine r_ifJ (fun v H' => ∃ H0, Kp [] H1 H0 ∧ H' = H0 ∧ v = trV (if sv.non (fun x => !decide (x % c = 0)) = true then some (decide (sv.n % c = r)) else none)) (fun Q' kQ => ?_) ?_
    · walk_at "rd"
      refine r_lockE hD1 trivial fun od => ?_
      have hTL := sqT_lock (w := .frz od (.dK (kvI sv.m))) hS1 hD1 trivial
      generalize hHL : upd H1 d1 (.frz od (.dK (kvI sv.m))) = HL at hTL ⊢
      have hdL : HL d1 = some (.frz od (.dK (kvI sv.m))) := by rw [← hHL]; exact upd_same
      walk_at "rd"
      refine r_LcVf (f := (fun x => !decide (x % c = 0))) hdL (kvI_vals sv.m) (by rw [List.length_map]; omega) (fun c H' R h => ?_) (fun c H' R h => ?_) (fun v => rfl) fun q hq => ?_
      · walk_at "rd"
        · rw [dec_int]
          exact h
        · omega
      · walk_at "rd"
        exact h
      refine ⟨by rw [upd_ne (ne_of_none hdL hq)]; exact hdL, ?_⟩
      have kk : Kp [] H1 (upd (upd HL q (.lst (((sv.m.map (·.2)).filter (fun x => !decide (x % c = 0))).map V.int))) d1 (.dK (kvI sv.m))) := Kp.unlock (od := od) (by rw [hHL]; exact Kp.nil.new hq) hD1 (by simp)
      have hq2 : upd (upd HL q (.lst (((sv.m.map (·.2)).filter (fun x => !decide (x % c = 0))).map V.int))) d1 (.dK (kvI sv.m)) q = some (.lst (((sv.m.map (·.2)).filter (fun x => !decide (x % c = 0))).map V.int)) := by rw [upd_ne (Ne.symm (ne_of_none hdL hq))]; exact upd_same
      generalize upd (upd HL q (.lst (((sv.m.map (·.2)).filter (fun x => !decide (x % c = 0))).map V.int))) d1 (.dK (kvI sv.m)) = H5 at kk hq2 ⊢
      walk_at "rd"
      refine ⟨by rw [sizeLine_eq]; decide, fun p5 hp5 => ?_⟩
      have hq6 : upd H5 p5 (.lst []) q = _ := (upd_ne (ne_of_none hq2 hp5)).trans hq2
      have hp6 : upd H5 p5 (.lst []) p5 = some (.lst []) := upd_same
      have k6 : Kp [] H5 (upd H5 p5 (.lst [])) := Kp.nil.new hp5
      have hS6 := sqT_kp (kk.trans k6) hS1
      have hTq := sqT_kp (kk.trans k6) hT1
      generalize upd H5 p5 (.lst []) = H6 at k6 hS6 hTq hq6 hp6 ⊢
      walk_at "rd"
      have he : (((sv.m.map (·.2)).filter (fun x => !decide (x % c = 0))).map V.int).isEmpty = sv.non (fun x => !decide (x % c = 0)) := by unfold Sv.non; cases (sv.m.map (·.2)).filter (fun x => !decide (x % c = 0)) <;> rfl
      rw [he]
      cases hn : sv.non (fun x => !decide (x % c = 0)) with
      | true =>
        rw [hn] at kQ
        walk_at "rd"
        · exact kQ _ _ ⟨_, kk.trans k6, rfl, by rw [dec_int]; rfl⟩
        · omega
      | false =>
        rw [hn] at kQ
        walk_at "rd"
        exact kQ _ _ ⟨_, kk.trans k6, rfl, rfl⟩
    · rintro v H' ⟨H0, k0, rfl, rfl⟩
      exact fin _ k0
  | less x y =>
    have hv' : x.vd 3 ∧ y.vd 3 := by cases n <;> exact hv
    obtain ⟨a, v0, v1, v2, rfl, hT, h0, h1, h2⟩ := Dt.is3 hd
    obtain rfl := h0.isStr
    walk_at "rd"
    refine ⟨sf, nd, sd, rd, fv, _, fix, st, L, b, p, x, rfl, Cr, h1, hv'.1, hok, hb, by omega, fun H1 z1 k1 Cr1 hz1 => ?_⟩
    have ev1 := Ex.ev_ok fix p hv'.1 hok hb
    have hok1 : ∀ z s, (x.ev fix p st).2.env z = some s → s.ok b (x.ev fix p st).2.made.length := fun z s e => by
      rw [ev1.1.env] at e
      exact (hok z s e).mono (Nat.le_refl _) ev1.1.ge
    have hl1 := ev1.1.le
    have hT1 := sqT_kp k1 hT
    obtain ⟨dx1, hI1⟩ := Cr1.obj
    walk_at "rd"
    refine ⟨sf, nd, sd, rd, fv, _, fix, _, L, b, p, y, rfl, Cr1, h2.kp k1, hv'.2, hok1, hb, by omega, fun H2 z2 k2 Cr2 hz2 => ?_⟩
    have ev2 := Ex.ev_ok fix p hv'.2 hok1 hb
    have hl2 := ev2.1.le
    walk_at "rd"
    refine ⟨[nd, sd, rd], _, _, _, _, _, b + 4 * 3, _, rfl, Cr2.ms.oc, hz1.kp k2 (fun b m => m), hz2, ev1.2.mono (Nat.le_refl _) ev2.1.ge, ev2.2, by omega, by omega, by omega, fun H3 z3 k3 hz3 => ?_⟩
    have ll := ((ev1.2.mono (Nat.le_refl _) ev2.1.ge).both ev2.2 (t := -1) (by omega) (by omega)).len
    obtain ⟨a1, d1, rfl, hS1, hD1, hn1⟩ := hz3
    have fin : ∀ H4, Kp [] H3 H4 → Q (trV (lessV (both (x.ev fix p st).1 (y.ev fix p (x.ev fix p st).2).1 (-1)))) H4 := fun H4 k4 => k H4 ((k1.trans k2).trans ((k3.trans k4).subM Cr2.ms (by simp))) (Cr2.kp0 (k3.trans k4))
    unfold lessV at fin
    generalize both (x.ev fix p st).1 (y.ev fix p (x.ev fix p st).2).1 (-1) = sv at hS1 hD1 ll fin
    walk_at "rdj"
    refine r_ifJ (fun v H' => ∃ H0, Kp [] H3 H0 ∧ H' = H0 ∧ v = trV (if sv.non (fun x => !decide (x = 0)) = true then some (decide (sv.n < 0)) else none)) (fun Q' kQ => ?_) ?_
    · walk_at "rd"
      refine r_lockE hD1 trivial fun od => ?_
      have hTL := sqT_lock (w := .frz od (.dK (kvI sv.m))) hS1 hD1 trivial
      generalize hHL : upd H3 d1 (.frz od (.dK (kvI sv.m))) = HL at hTL ⊢
      have hdL : HL d1 = some (.frz od (.dK (kvI sv.m))) := by rw [← hHL]; exact upd_same
      walk_at "rd"
      refine r_LcVf (f := (fun x => !decide (x = 0))) hdL (kvI_vals sv.m) (by rw [List.length_map]; omega) (fun c H' R h => ?_) (fun c H' R h => ?_) (fun v => rfl) fun q hq => ?_
      · walk_at "rd"
        rw [dec_int]
        exact h
      · walk_at "rd"
        exact h
      refine ⟨by rw [upd_ne (ne_of_none hdL hq)]; exact hdL, ?_⟩
      have kk : Kp [] H3 (upd (upd HL q (.lst (((sv.m.map (·.2)).filter (fun x => !decide (x = 0))).map V.int))) d1 (.dK (kvI sv.m))) := Kp.unlock (od := od) (by rw [hHL]; exact Kp.nil.new hq) hD1 (by simp)
      have hq2 : upd (upd HL q (.lst (((sv.m.map (·.2)).filter (fun x => !decide (x = 0))).map V.int))) d1 (.dK (kvI sv.m)) q = some (.lst (((sv.m.map (·.2)).filter (fun x => !decide (x = 0))).map V.int)) := by rw [upd_ne (Ne.symm (ne_of_none hdL hq))]; exact upd_same
      generalize upd (upd HL q (.lst (((sv.m.map (·.2)).filter (fun x => !decide (x = 0))).map V.int))) d1 (.dK (kvI sv.m)) = H5 at kk hq2 ⊢
      walk_at "rd"
      refine ⟨by rw [sizeLine_eq]; decide, fun p5 hp5 => ?_⟩
      have hq6 : upd H5 p5 (.lst []) q = _ := (upd_ne (ne_of_none hq2 hp5)).trans hq2
      have hp6 : upd H5 p5 (.lst []) p5 = some (.lst []) := upd_same
      have k6 : Kp [] H5 (upd H5 p5 (.lst [])) := Kp.nil.new hp5
      have hS6 := sqT_kp (kk.trans k6) hS1
      generalize upd H5 p5 (.lst []) = H6 at k6 hS6 hq6 hp6 ⊢
      walk_at "rd"
      have he : (((sv.m.map (·.2)).filter (fun x => !decide (x = 0))).map V.int).isEmpty = sv.non (fun x => !decide (x = 0)) := by unfold Sv.non; cases (sv.m.map (·.2)).filter (fun x => !decide (x = 0)) <;> rfl
      rw [he]
      cases hn : sv.non (fun x => !decide (x = 0)) with
      | true =>
        rw [hn] at kQ
        walk_at "rd"
        exact kQ _ _ ⟨_, kk.trans k6, rfl, rfl⟩
      | false =>
        rw [hn] at kQ
        walk_at "rd"
        exact kQ _ _ ⟨_, kk.trans k6, rfl, rfl⟩
    · rintro v H' ⟨H0, k0, rfl, rfl⟩
      exact fin _ k0
abbrev sCourse_do : Stmt := inClass (topS 41) 4
abbrev NCourse_do : List Str := ["self", "statement", "place"]
abbrev PCourse_do : List Str := ["self", "statement", "place"]
theorem scCourse_do : FnScope NCourse_do PCourse_do (defScope sCourse_do) :=
  ⟨rfl, rfl, rfl, by decide +kernel, rfl, by decide +kernel, by decide +kernel⟩
theorem ok_Course_do {C : Addr} (D : DfM K C "do" "Course.do" sCourse_do PCourse_do) (B : Blt mg) (T : CT K C)
    (GCourse_worth : HasM P w K mg base CX0 C "worth" ["self", "expression", "place"] 5 (spWorth K C 3)) :
    HasM P w K mg base CX0 C "do" PCourse_do 6 (spDo K C) := by
  refine D.has scCourse_do (fun vs H Q E h => ?_) (fun f cdv A outer s H vs Q E hr h => ?_)
  · obtain ⟨sf, nd, sd, rd, fv, v, fix, st, L, b, p, t, rfl, _⟩ := h
    rfl
  obtain ⟨sf, nd, sd, rd, fv, v, fix, st, L, b, p, t, rfl, Cr, hd, hv, hok, hb, hm, k⟩ := h
  have cC := T.cl
  have nN := T.nN
  have nS := T.nS
  obtain ⟨dx, hI⟩ := Cr.obj
  have hmade := hok.ml
  have h8 : 2 ^ 3 = 8 := rfl
  refine ⟨_, (pss_cons (ps_if (pt_cmpR op_eq (pe_ix ix_tup (pv 1) pe_int (fun _ _ => rfl)) pe_str (nomark _)) (pss_one (ps_dput hr.hu (pe_fld (pv 0) rfl) (pe_ix ix_tup (pv 1) pe_int (fun _ _ => rfl)) (pe_m GCourse_worth cC (hr.mono (by omega)) pass0 (pv 0) (pa_cons (pe_ix ix_tup (pv 1) pe_int (fun _ _ => rfl)) (pa_cons (pv 2) pa_nil))) rfl))
        (pss_one (ps_if (pt_cmpR op_eq (pe_ix ix_tup (pv 1) pe_int (fun _ _ => rfl)) pe_str (nomark _)) (pss_one (ps_if (pt_cmp (pc_din hr.hu (pe_ix ix_tup (pv 1) pe_int (fun _ _ => rfl)) (pe_fld (pv 0) rfl))) (pss_one (ps_expr (pe_dpop1 (pe_fld (pv 0) rfl) (pe_ix ix_tup (pv 1) pe_int (fun _ _ => rfl)) ⟨by rfl, by rfl, by rfl, by rfl⟩)))
        pss_nil))
        (pss_one (ps_if (pt_cmpR op_eq (pe_ix ix_tup (pv 1) pe_int (fun _ _ => rfl)) pe_str (nomark _)) (pss_one (ps_expr (pe_bm PySem.F.plainAttrs_list PySem.F.slot_list_append PySem.F.type_list_append mt_append (pe_fld (pv 0) rfl) (pa_cons (pe_m GCourse_worth cC (hr.mono (by omega)) pass0 (pv 0) (pa_cons (pe_ix ix_tup (pv 1) pe_int (fun _ _ => rfl)) (pa_cons (pv 2) pa_nil))) pa_nil))))
        (pss_one (ps_if (pt_cmpR op_eq (pe_ix ix_tup (pv 1) pe_int (fun _ _ => rfl)) pe_str (nomark _)) (pss_one (ps_expr (pe_bm PySem.F.plainAttrs_list PySem.F.slot_list_append PySem.F.type_list_append mt_append (pe_fld (pv 0) rfl) (pa_cons (pe_ix ix_tup (pv 1) pe_int (fun _ _ => rfl)) pa_nil))))
        (pss_one (ps_ret (pe_ix ix_tup (pv 1) pe_int (fun _ _ => rfl)))))))))))
      (pss_one (ps_ret pe_non))), ?_⟩
  cases t with
  | set x e =>
    obtain ⟨a, v0, v1, v2, rfl, hT, h0, h1, h2⟩ := Dt.is3 hd
    obtain rfl := h0.isStr
    obtain rfl := h1.isStr
    walk_at "rd"
    refine ⟨sf, nd, sd, rd, fv, _, fix, st, L, b, p, e, rfl, Cr, h2, hv.2, hok.env, hb, by omega, fun H1 z1 k1 Cr1 hz1 => ?_⟩
    obtain ⟨dx1, hI1⟩ := Cr1.obj
    obtain ⟨kvs, hN, hE, hL⟩ := Cr1.names
    have hT1 := sqT_kp k1 hT
    walk_at "rd"
    refine r_DPut (k := Sum.inr x) hN (by rw [sizeLine_eq]; omega) ?_
    have hc := Cr1.envs (hE.put (x := x) hz1) (Nat.le_trans (putK_len kvs (Sum.inr x) z1) (Nat.add_le_add_right hL 1))
    walk_at "rd"
    exact k _ (k1.trans hc.2) hc.1
  | unset x =>
    obtain ⟨a, v0, v1, rfl, hT, h0, h1⟩ := Dt.is2 hd
    obtain rfl := h0.isStr
    obtain rfl := h1.isStr
    obtain ⟨kvs, hN, hE, hL⟩ := Cr.names
    walk_at "rd"
    cases e1 : valV kvs (Sum.inr x) with
    | none =>
      rw [Option.isSome_none]
      walk_at "rd"
      exact k _ (Kp.reflM Cr.ms) (by
        obtain ⟨c1, c2, c3, c4, c5, c6⟩ := Cr
        exact ⟨c1, ⟨kvs, hN, hE.same e1, by omega⟩, c3, c4, c5, c6⟩)
    | some vx =>
      rw [Option.isSome_some]
      walk_at "rd"
      refine r_DPop1a hN ?_
      walk_at "rd"
      refine r_DPop1 hN e1 ?_
      have hc := Cr.envs (hE.drop (x := x)) (Nat.le_trans (dropK_len kvs (Sum.inr x)) (Nat.le_trans hL (Nat.le_succ _)))
      walk_at "rd"
      exact k _ hc.2 hc.1
  | tell e =>
    obtain ⟨a, v0, v1, rfl, hT, h0, h1⟩ := Dt.is2 hd
    obtain rfl := h0.isStr
    obtain ⟨vs0, hN0, hE0⟩ := Cr.said
    walk_at "rd"
    refine ⟨sf, nd, sd, rd, fv, _, fix, st, L, b, p, e, rfl, Cr, h1, hv, hok.env, hb, by omega, fun H1 z1 k1 Cr1 hz1 => ?_⟩
    clear hN0 hE0
    obtain ⟨vs, hN, hE⟩ := Cr1.said
    have hsl := hE.len
    have ev := Ex.ev_ok fix p hv hok.env hb
    rw [ev.1.said] at hsl
    have := hok.sl
    have hc := Cr1.tells hN hE (t := .inr _) hz1
    walk_at "rd"
    · exact k _ (k1.trans hc.2) (hc.1.mono (by omega))
    · rw [sizeLine_eq]
      omega
  | say x =>
    obtain ⟨a, v0, v1, rfl, hT, h0, h1⟩ := Dt.is2 hd
    obtain rfl := h0.isStr
    obtain rfl := h1.isStr
    obtain ⟨vs, hN, hE⟩ := Cr.said
    have hsl := hE.len
    have := hok.sl
    have hc := Cr.tells hN hE (t := .inl x) (v := .str x) rfl
    walk_at "rd"
    · exact k _ hc.2 (hc.1.mono (by omega))
    · rw [sizeLine_eq]
      omega
  | stop x =>
    obtain ⟨a, v0, v1, rfl, hT, h0, h1⟩ := Dt.is2 hd
    obtain rfl := h0.isStr
    obtain rfl := h1.isStr
    walk_at "rd"
    exact k _ (Kp.reflM Cr.ms) (Cr.mono (by omega))
abbrev sCourse_choose : Stmt := inClass (topS 41) 5
abbrev NCourse_choose : List Str := ["self", "statement", "place", "truth", "item"]
abbrev PCourse_choose : List Str := ["self", "statement", "place"]
theorem scCourse_choose : FnScope NCourse_choose PCourse_choose (defScope sCourse_choose) :=
  ⟨rfl, rfl, rfl, by decide +kernel, rfl, by decide +kernel, by decide +kernel⟩
theorem ok_Course_choose {C : Addr} (D : DfM K C "choose" "Course.choose" sCourse_choose PCourse_choose) (B : Blt mg) (T : CT K C) {n lv : Nat} (hlv : 8 ≤ lv) (hln : n ≤ 5) {t1 : Tok} (g_UNSURE : mg "UNSURE" = some (.str "unsure" t1))
    (Gplaces_in : Has P w K mg base CX0 "places_in" ["statement"] 6 (spPlaces K 4))
    (GCourse_truth : HasM P w K mg base CX0 C "truth" ["self", "test", "place"] 8 (spTruth K C 2))
    (GCourse_go : HasM P w K mg base CX0 C "go" ["self", "block", "place"] lv (spGo K C n)) :
    HasM P w K mg base CX0 C "choose" PCourse_choose (lv + 1) (spBlk K C n false) := by
  refine D.has scCourse_choose (fun vs H Q E h => ?_) (fun f cdv A outer s H vs Q E hr h => ?_)
  · obtain ⟨sf, nd, sd, rd, fv, v, fix, st, L, b, p, t, rfl, _⟩ := h
    rfl
  obtain ⟨sf, nd, sd, rd, fv, v, fix, st, L, b, p, t, rfl, Cr, hd, hv, ⟨t, y, z, rfl⟩, hok, hb, hm, hsz, k⟩ := h
  have cC := T.cl
  obtain ⟨dx, hI⟩ := Cr.obj
  have hmade := hok.ml
  have hv2 : t.vd 2 ∧ VdB n y ∧ VdB n z := by
    cases n with
    | zero => exact hv
    | succ n => exact hv
  obtain ⟨hvt, hvy, hvz⟩ := hv2
  rw [Sm.wt] at hm k
  rw [Sm.size] at hsz
  refine ⟨_, (pss_cons (ps_set (i := 3) scCourse_choose.nd rfl (Or.inl rfl) (pe_m GCourse_truth cC (hr.mono (by omega)) pass0 (pv 0) (pa_cons (pe_ix ix_tup (pv 1) pe_int (fun _ _ => rfl)) (pa_cons (pv 2) pa_nil))))
      (pss_cons (ps_if (pt_cmpR op_isN (pv 3) pe_non (nomark _)) (pss_one (ps_ret (pe_gstr (by rfl) g_UNSURE)))
        pss_nil)
      (pss_cons (ps_if (pt_truth (pv 3) (by intro _; rfl)) (pss_one (ps_ret (pe_m GCourse_go cC (hr.mono (by omega)) pass0 (pv 0) (pa_cons (pe_ix ix_tup (pv 1) pe_int (fun _ _ => rfl)) (pa_cons (pe_op op_add (pv 2) pe_int) pa_nil)))))
        pss_nil)
      (pss_one (ps_ret (pe_m GCourse_go cC (hr.mono (by omega)) pass0 (pv 0) (pa_cons (pe_ix ix_tup (pv 1) pe_int (fun _ _ => rfl)) (pa_cons (pe_op op_add (pe_op op_add (pv 2) pe_int) (pe_callB (cr_sum (by rfl)) (by rfl) B.sum (by decide +kernel) (pa_cons (pe_lc (own := [("item", 4)]) (g := gName 4) (by rfl) scCourse_choose.nd (pi_tup (pe_ix ix_tup (pv 1) pe_int (fun _ _ => rfl))) (blkOk_by (own := [("item", 4)]) (N := NCourse_choose) (sc := defScope sCourse_choose) (by decide +kernel)) (fun _ _ _ _ _ => (pg_name (i := 4) scCourse_choose.nd rfl (Or.inl rfl))) (fun _ _ _ _ _ => pts_nil) (fun _ _ _ _ _ => (pe_f Gplaces_in (hr.mono (by omega)) (by rfl) pass0 (pa_cons (pv 4) pa_nil)))) pa_nil))) pa_nil)))))))), ?_⟩
  obtain ⟨a, v0, v1, v2, v3, rfl, hT, h0, h1, h2, h3⟩ := Dt.is4 (show Dt K H v (.tuple [.str "if", t.d, .tuple (Sm.ds y), .tuple (Sm.ds z)]) by rw [Sm.d] at hd; exact hd)
  obtain rfl := h0.isStr
  walk_at "rd"
  refine ⟨sf, nd, sd, rd, fv, _, fix, st, L, b, p, t, rfl, Cr, h1, hvt, hok.env, hb, by omega, fun H1 k1 Cr1 => ?_⟩
  have tk := Ts.tr_ok fix p hvt hok.env hb
  have hok1 := hok.more tk (by omega)
  have hT1 := sqT_kp k1 hT
  have h2' := h2.kp k1
  have h3' := h3.kp k1
  obtain ⟨dx1, hI1⟩ := Cr1.obj
  rw [Sm.go] at k
  cases e : t.tr fix p st with
  | mk o st' =>
    rw [e] at Cr1 hok1 k
    match o with
    | none =>
      show gName _ V.non _ _ _
      walk_at "rd"
      refine ⟨rfl, ?_⟩
      walk_at "rd"
      refine ifd (fun _ => ?_) (fun z => absurd rfl z)
      walk_at "rd"
      exact k _ k1 (Cr1.mono (by omega))
    | some true =>
      have hne : ¬ V.bl true = V.non := fun z => by cases z
      show gName _ (V.bl true) _ _ _
      walk_at "rd"
      refine ⟨rfl, ?_⟩
      walk_at "rd"
      refine ifd (fun z => absurd z hne) (fun _ => ?_)
      walk_at "rd"
      refine ⟨true, rfl, ?_⟩
      walk_at "rd"
      refine ⟨sf, nd, sd, rd, fv, _, fix, st', L + 1, b, p + 1, y, rfl, Cr1.mono (by omega), h2', hvy, hok1, hb, by omega, by omega, fun H2 k2 Cr2 => ?_⟩
      exact k _ (k1.trans k2) (Cr2.mono (by omega))
    | some false =>
      have hne : ¬ V.bl false = V.non := fun z => by cases z
      show gName _ (V.bl false) _ _ _
      walk_at "rd"
      refine ⟨rfl, ?_⟩
      walk_at "rd"
      refine ifd (fun z => absurd z hne) (fun _ => ?_)
      walk_at "rd"
      refine ⟨false, rfl, ?_⟩
      walk_at "rd"
      have h2w : Dw [] K H1 v2 (.tuple (Sm.ds y)) := h2'.dw
      obtain ⟨ua, us, rfl, hT3, hL3⟩ := h2w.items
      have hlen : us.length = y.length := by rw [hL3.len, Sm.ds_map, List.length_map]
      refine r_LcT hT3 fun q2 hq2 => ⟨fun i H' => Kp [] H1 H' ∧ H' q2 = some (.lst ((y.take i).map fun c => V.int (c.size : Nat))), ⟨Kp.nil.new hq2, upd_same⟩, fun i H' ⟨q1, _⟩ => sqT_kp q1 hT3, ?_, ?_⟩
      · rintro i x H4 hx ⟨k4, hq4⟩
        obtain ⟨dx, hdx, hxd⟩ := hL3.get hx
        rw [Sm.ds_map, List.getElem?_map] at hdx
        obtain ⟨c, hc, rfl⟩ := Option.map_eq_some_iff.mp hdx
        have hcm : c ∈ y := List.mem_of_getElem? hc
        have hcv : Sm.vd 4 c := by
          cases n with
          | zero =>
            rw [show y = [] from hvy] at hcm
            cases hcm
          | succ m => exact (hvy c hcm).mono (by omega)
        have hcz : c.size ≤ 10000 := by
          have : c.size ≤ Sm.sizes y := Sm.size_mem hcm
          omega
        have hxt : Dw [] K H4 x c.d := hxd.kp0 k4
        walk_at "rd"
        refine ⟨x, c, rfl, hxt, hcv, hcz, fun H5 k5 => ?_⟩
        have hq5 := k5.get hq4 (by simp)
        have hil : i < y.length := (List.getElem?_eq_some_iff.mp hc).1
        have hls := Sm.len_sizes y
        refine r_LcEnd hq5 (by rw [List.length_map, List.length_take, sizeLine_eq]; omega) ⟨(k4.trans k5).own hq2, ?_⟩
        rw [upd_same, List.take_add_one, hc, List.map_append]
        rfl
      · rintro H4 ⟨k4, hq4⟩
        rw [hlen, List.take_length] at hq4
        have Cr4 := Cr1.kp0 k4
        walk_at "rd"
        refine ⟨q2, y.map fun c => ((c.size : Nat) : Int), rfl, SqL.of (by rw [hq4, List.map_map]; rfl), ?_⟩
        rw [Sm.sizes_sum]
        walk_at "rd"
        refine ⟨sf, nd, sd, rd, fv, _, fix, st', L + 1, b, p + 1 + (Sm.sizes y : Nat), z, rfl, Cr4.mono (by omega), h3'.kp k4, hvz, hok1, hb, by omega, by omega, fun H2 k2 Cr2 => ?_⟩
        exact k _ (k1.trans ((k4.subM Cr1.ms (by simp)).trans k2)) (Cr2.mono (by omega))
abbrev sCourse_again : Stmt := inClass (topS 41) 6
abbrev NCourse_again : List Str := ["self", "statement", "place", "turn", "word"]
abbrev PCourse_again : List Str := ["self", "statement", "place"]
theorem scCourse_again : FnScope NCourse_again PCourse_again (defScope sCourse_again) :=
  ⟨rfl, rfl, rfl, by decide +kernel, rfl, by decide +kernel, by decide +kernel⟩
theorem ok_Course_again {C : Addr} (D : DfM K C "again" "Course.again" sCourse_again PCourse_again) (B : Blt mg) (T : CT K C) {n lv : Nat} (hlv : 8 ≤ lv)
    (GCourse_go : HasM P w K mg base CX0 C "go" ["self", "block", "place"] lv (spGo K C n)) :
    HasM P w K mg base CX0 C "again" PCourse_again (lv + 1) (spBlk K C n true) := by
  refine D.has scCourse_again (fun vs H Q E h => ?_) (fun f cdv A outer s H vs Q E hr h => ?_)
  · obtain ⟨sf, nd, sd, rd, fv, v, fix, st, L, b, p, t, rfl, _⟩ := h
    rfl
  obtain ⟨sf, nd, sd, rd, fv, v, fix, st, L, b, p, t, rfl, Cr, hd, hv, ⟨kk, bb, rfl⟩, hok, hb, hm, hsz, k⟩ := h
  have cC := T.cl
  have hv2 : 0 ≤ kk ∧ kk ≤ 8 ∧ VdB n bb := by
    cases n with
    | zero => exact hv
    | succ n => exact hv
  obtain ⟨hk0, hk8, hvb⟩ := hv2
  rw [Sm.wt] at hm k
  rw [Sm.size] at hsz
  rw [Sm.go] at k
  refine ⟨_, (pss_cons (ps_for PassesOwn.never rfl (pi_range1 (by rfl) B.range (pa_cons (pe_ix ix_tup (pv 1) pe_int (fun _ _ => rfl)) pa_nil)) (pg_name (i := 3) scCourse_again.nd rfl (Or.inl rfl))
        (pss_cons (ps_set (i := 4) scCourse_again.nd rfl (Or.inl rfl) (pe_m GCourse_go cC (hr.mono (by omega)) pass0 (pv 0) (pa_cons (pe_ix ix_tup (pv 1) pe_int (fun _ _ => rfl)) (pa_cons (pe_op op_add (pv 2) pe_int) pa_nil))))
      (pss_one (ps_if (pt_cmpR op_notN (pv 4) pe_non (nomark _)) (pss_one (ps_ret (pv 4)))
        pss_nil))))
      (pss_one (ps_ret pe_non))), ?_⟩
  obtain ⟨a, v0, v1, v2, rfl, hT, h0, h1, h2⟩ := Dt.is3 (show Dt K H v (.tuple [.str "repeat", .int kk, .tuple (Sm.ds bb)]) by rw [Sm.d] at hd; exact hd)
  obtain rfl := h0.isStr
  obtain rfl := h1.isInt
  walk_at "rd"
  have hF : ∀ (i : Nat) (st' st'' : Rs), i < kk.toNat → Sm.goL fix (p + 1) bb st' = (none, st'') → iterS (fun st => Sm.goL fix (p + 1) bb st) (kk.toNat - i) st' = iterS (fun st => Sm.goL fix (p + 1) bb st) (kk.toNat - (i + 1)) st'' := by
    intro i st' st'' hi e
    rw [show kk.toNat - i = (kk.toNat - (i + 1)) + 1 by omega, iterS, e]
  have hG : ∀ (i : Nat) (st' st'' : Rs) (w : Str), i < kk.toNat → Sm.goL fix (p + 1) bb st' = (some w, st'') → iterS (fun st => Sm.goL fix (p + 1) bb st) (kk.toNat - i) st' = (some w, st'') := by
    intro i st' st'' w hi e
    rw [show kk.toNat - i = (kk.toNat - (i + 1)) + 1 by omega, iterS, e]
  refine r_ForR (fun i σ H' => ∃ (x y : Option V) (st' : Rs), σ = [some (.ref sf), some (.ref a), some (.int p), x, y] ∧ Kp [nd, sd, rd] H H' ∧ Crs K C sf nd sd rd fv fix H' st' (L + Sm.wts bb * i) ∧ st'.ok (b + 12 * (Sm.wts bb * i)) (L + Sm.wts bb * i) ∧
      iterS (fun st => Sm.goL fix (p + 1) bb st) kk.toNat st = iterS (fun st => Sm.goL fix (p + 1) bb st) (kk.toNat - i) st')
    (by omega) (by omega) ⟨_, _, st, rfl, Kp.reflM Cr.ms, Cr, hok, rfl⟩ ?_ ?_
  · rintro i σ H1 hi ⟨x, y, st', rfl, k1, Cr1, hok1, hit⟩
    have hmul : Sm.wts bb * (i + 1) ≤ Sm.wts bb * kk.toNat := Nat.mul_le_mul_left _ hi
    have hmul2 : Sm.wts bb * (i + 1) = Sm.wts bb * i + Sm.wts bb := Nat.mul_succ _ _
    have hT1 := sqT_kp k1 hT
    obtain ⟨dx, hI⟩ := Cr1.obj
    walk_at "rd"
    refine ⟨sf, nd, sd, rd, fv, _, fix, st', L + Sm.wts bb * i, b + 12 * (Sm.wts bb * i), p + 1, bb, rfl, Cr1, h2.kp k1, hvb, hok1, by omega, by omega, by omega, fun H2 k2 Cr2 => ?_⟩
    have hok2 := Sm.goL_ok fix n bb (p + 1) st' _ _ hvb hok1 (by omega)
    cases e : Sm.goL fix (p + 1) bb st' with
    | mk o st'' =>
      rw [e] at Cr2 hok2
      cases o with
      | none =>
        show gName _ V.non _ _ _
        walk_at "rd"
        refine ⟨rfl, ?_⟩
        walk_at "rd"
        walk_at "rd"
        refine ⟨_, _, st'', rfl, k1.trans k2, Cr2.mono (by omega), hok2.mono (by omega) (by omega), ?_⟩
        rw [hit]
        exact hF i st' st'' hi e
      | some wd =>
        have hne : ¬ V.str wd = V.non := fun z => by cases z
        show gName _ (V.str wd) _ _ _
        walk_at "rd"
        refine ⟨rfl, ?_⟩
        walk_at "rd"
        refine ifd (fun _ => ?_) (fun z => absurd hne z)
        walk_at "rd"
        rw [hit, hG i st' st'' wd hi e] at k
        exact k _ (k1.trans k2) (Cr2.mono (by omega))
  · rintro σ H1 ⟨x, y, st', rfl, k1, Cr1, hok1, hit⟩
    rw [hit, Nat.sub_self] at k
    walk_at "rd"
    exact k _ k1 (Cr1.mono (by omega))
abbrev sCourse_go : Stmt := inClass (topS 41) 7
abbrev NCourse_go : List Str := ["self", "block", "place", "statement", "word"]
abbrev PCourse_go : List Str := ["self", "block", "place"]
theorem scCourse_go : FnScope NCourse_go PCourse_go (defScope sCourse_go) :=
  ⟨rfl, rfl, rfl, by decide +kernel, rfl, by decide +kernel, by decide +kernel⟩
theorem ok_Course_go {C : Addr} (D : DfM K C "go" "Course.go" sCourse_go PCourse_go) (B : Blt mg) (T : CT K C) {n lv m : Nat} {sc sa : Sp} (hlv : 8 ≤ lv) (hn : n ≤ 5)
    (Gplaces_in : Has P w K mg base CX0 "places_in" ["statement"] 6 (spPlaces K 4))
    (GCourse_do : HasM P w K mg base CX0 C "do" ["self", "statement", "place"] 6 (spDo K C))
    (GCourse_choose : HasM P w K mg base CX0 C "choose" ["self", "statement", "place"] lv sc)
    (GCourse_again : HasM P w K mg base CX0 C "again" ["self", "statement", "place"] lv sa) (hs : ∀ m, n = m + 1 → sc = spBlk K C m false ∧ sa = spBlk K C m true) :
    HasM P w K mg base CX0 C "go" PCourse_go (lv + 1) (spGo K C n) := by
  refine D.has scCourse_go (fun vs H Q E h => ?_) (fun f cdv A outer s H vs Q E hr h => ?_)
  · obtain ⟨sf, nd, sd, rd, fv, v, fix, st, L, b, p, t, rfl, _⟩ := h
    rfl
  obtain ⟨sf, nd, sd, rd, fv, v, fix, st, L, b, p, bl, rfl, Cr, hd, hv, hok, hb, hm, hsz, k⟩ := h
  have cC := T.cl
  refine ⟨_, (pss_cons (ps_for PassesOwn.never rfl (pi_tup (pv 1)) (pg_name (i := 3) scCourse_go.nd rfl (Or.inl rfl))
        (pss_cons (ps_if (pt_cmpR op_eq (pe_ix ix_tup (pv 3) pe_int (fun _ _ => rfl)) pe_str (nomark _)) (pss_one (ps_set (i := 4) scCourse_go.nd rfl (Or.inl rfl) (pe_m GCourse_choose cC (hr.mono (by omega)) pass0 (pv 0) (pa_cons (pv 3) (pa_cons (pv 2) pa_nil)))))
        (pss_one (ps_if (pt_cmpR op_eq (pe_ix ix_tup (pv 3) pe_int (fun _ _ => rfl)) pe_str (nomark _)) (pss_one (ps_set (i := 4) scCourse_go.nd rfl (Or.inl rfl) (pe_m GCourse_again cC (hr.mono (by omega)) pass0 (pv 0) (pa_cons (pv 3) (pa_cons (pv 2) pa_nil)))))
        (pss_one (ps_set (i := 4) scCourse_go.nd rfl (Or.inl rfl) (pe_m GCourse_do cC (hr.mono (by omega)) pass0 (pv 0) (pa_cons (pv 3) (pa_cons (pv 2) pa_nil))))))))
      (pss_cons (ps_if (pt_cmpR op_notN (pv 4) pe_non (nomark _)) (pss_one (ps_ret (pv 4)))
        pss_nil)
      (pss_one (ps_aug (i := 2) scCourse_go.nd rfl (.inl rfl) (pe_f Gplaces_in (hr.mono (by omega)) (by rfl) pass0 (pa_cons (pv 3) pa_nil)) ip_add)))))
      (pss_one (ps_ret pe_non))), ?_⟩
  obtain ⟨ua, us, rfl, hT, hL⟩ := hd.items
  have hlen : us.length = bl.length := by rw [hL.len, Sm.ds_map, List.length_map]
  walk_at "rd"
  have hst : ∀ (i : Nat) (q : Int) (c : Sm) (st' st'' : Rs), bl[i]? = some c → Sm.go fix q c st' = (none, st'') → Sm.goL fix q (bl.drop i) st' = Sm.goL fix (q + (c.size : Nat)) (bl.drop (i + 1)) st'' := by
    intro i q c st' st'' hc e
    rw [drop_cons hc, Sm.goL, e]
  have hsw : ∀ (i : Nat) (q : Int) (c : Sm) (st' st'' : Rs) (w : Str), bl[i]? = some c → Sm.go fix q c st' = (some w, st'') → Sm.goL fix q (bl.drop i) st' = (some w, st'') := by
    intro i q c st' st'' w hc e
    rw [drop_cons hc, Sm.goL, e]
  refine r_ForT hT (fun i σ H' => ∃ (x y : Option V) (q : Int) (st' : Rs), σ = [some (.ref sf), some (.ref ua), some (.int q), x, y] ∧ Kp [nd, sd, rd] H H' ∧ Crs K C sf nd sd rd fv fix H' st' (L + Sm.wts (bl.take i)) ∧ st'.ok (b + 12 * Sm.wts (bl.take i)) (L + Sm.wts (bl.take i)) ∧
      Sm.goL fix p bl st = Sm.goL fix q (bl.drop i) st')
    ⟨_, _, p, st, rfl, Kp.reflM Cr.ms, Cr, hok, rfl⟩ (fun i σ H' ⟨_, _, _, _, _, q1, _⟩ => sqT_kp q1 hT) ?_ ?_
  · rintro i u σ H1 hu ⟨x, y, q, st', rfl, k1, Cr1, hok1, hit⟩
    obtain ⟨du, hdu, hud⟩ := hL.get hu
    rw [Sm.ds_map, List.getElem?_map] at hdu
    obtain ⟨c, hc, rfl⟩ := Option.map_eq_some_iff.mp hdu
    have hcm : c ∈ bl := List.mem_of_getElem? hc
    have hcz : c.size ≤ 10000 := Nat.le_trans (Sm.size_mem hcm) hsz
    have hw := Sm.wts_take hc
    obtain ⟨m, rfl⟩ : ∃ m, n = m + 1 := by
      cases n with
      | zero =>
        rw [show bl = [] from hv] at hcm
        cases hcm
      | succ m => exact ⟨m, rfl⟩
    obtain ⟨rfl, rfl⟩ := hs m rfl
    have hcv : Sm.vd m c := hv c hcm
    have hud1 := hud.kp k1
    obtain ⟨dx, hI⟩ := Cr1.obj
    have hok2 := Sm.go_ok fix q hcv hok1 (by omega)
    have hT1 := sqT_kp k1 hT
    cases c with
    | pl t =>
      rw [Sm.d] at hud1
      obtain ⟨hh, ds, hds, n1, n2⟩ := t.head2
      rw [hds] at hud1
      obtain ⟨u1, us1, rfl, hU, hUL⟩ := hud1.items
      obtain ⟨u0, us2, rfl, h0⟩ := hUL.un
      obtain rfl := h0.isStr
      rw [← hds] at hud1
      have hix : atI (V.str hh :: us2) 0 = some (V.str hh) := atI0 _ _
      walk_at "rd"
      refine ifd (fun z => absurd (V.str.inj z) n1) (fun _ => ?_)
      walk_at "rd"
      refine ifd (fun z => absurd (V.str.inj z) n2) (fun _ => ?_)
      walk_at "rd"
      have hwt : Sm.wt (Sm.pl t) = 1 := by rw [Sm.wt]
      have hcv1 : t.vd := by cases m <;> exact hcv
      refine ⟨sf, nd, sd, rd, fv, _, fix, st', _, b + 12 * Sm.wts (bl.take i), q, t, rfl, Cr1, hud1, hcv1, hok1, by omega, by omega, fun H2 k2 Cr2 => ?_⟩
      cases e : Sm.go fix q (Sm.pl t) st' with
      | mk o st'' =>
        have Cr3 : Crs K C sf nd sd rd fv fix H2 st'' (L + Sm.wts (bl.take i) + (Sm.pl t).wt) := by
          have z : Crs K C sf nd sd rd fv fix H2 (Sm.go fix q (Sm.pl t) st').2 (L + Sm.wts (bl.take i) + (Sm.pl t).wt) := by rw [Sm.go, Sm.wt]; exact Cr2
          rw [e] at z
          exact z
        rw [e] at hok2
        have hwd : wdV (t.go fix q st').1 = wdV o := by rw [Sm.go] at e; rw [e]
        rw [hwd]
        cases o with
        | none =>
          show gName _ V.non _ _ _
          walk_at "rd"
          refine ⟨rfl, ?_⟩
          walk_at "rd"
          refine ifn (fun z => absurd rfl z) (fun _ => ?_)
          walk_at "rd"
          refine ⟨_, .pl t, rfl, (hud.kp (k1.trans k2)).dw, hcv.mono (by omega), hcz, fun H3 k3 => ?_⟩
          walk_at "rd"
          refine ⟨_, _, _, st'', rfl, (k1.trans k2).trans (k3.subM Cr2.ms (by simp)), (Cr3.kp0 k3).mono (by omega), hok2.mono (by omega) (by omega), ?_⟩
          rw [hit]
          exact hst i q _ st' st'' hc e
        | some wd =>
          have hne : ¬ V.str wd = V.non := fun z => by cases z
          show gName _ (V.str wd) _ _ _
          walk_at "rd"
          refine ⟨rfl, ?_⟩
          walk_at "rd"
          refine ifd (fun _ => ?_) (fun z => absurd hne z)
          walk_at "rd"
          rw [hit, hsw i q _ st' st'' wd hc e] at k
          exact k _ (k1.trans k2) (Cr3.mono (by omega))
    | ifs t yy zz =>
      obtain ⟨u1, w0, w1, w2, w3, rfl, hU, h0, h1, h2, h3⟩ := Dt.is4 (show Dt K H1 u (.tuple [.str "if", t.d, .tuple (Sm.ds yy), .tuple (Sm.ds zz)]) by rw [Sm.d] at hud1; exact hud1)
      obtain rfl := h0.isStr
      walk_at "rd"
      refine ⟨sf, nd, sd, rd, fv, _, fix, st', _, b + 12 * Sm.wts (bl.take i), q, Sm.ifs t yy zz, rfl, Cr1, hud1, hcv, ⟨_, _, _, rfl⟩, hok1, by omega, by omega, hcz, fun H2 k2 Cr2 => ?_⟩
      cases e : Sm.go fix q (Sm.ifs t yy zz) st' with
      | mk o st'' =>
        have Cr3 : Crs K C sf nd sd rd fv fix H2 st'' (L + Sm.wts (bl.take i) + (Sm.ifs t yy zz).wt) := by
          have z : Crs K C sf nd sd rd fv fix H2 (Sm.go fix q (Sm.ifs t yy zz) st').2 (L + Sm.wts (bl.take i) + (Sm.ifs t yy zz).wt) := by exact Cr2
          rw [e] at z
          exact z
        rw [e] at hok2
        cases o with
        | none =>
          show gName _ V.non _ _ _
          walk_at "rd"
          refine ⟨rfl, ?_⟩
          walk_at "rd"
          refine ifn (fun z => absurd rfl z) (fun _ => ?_)
          walk_at "rd"
          refine ⟨_, Sm.ifs t yy zz, rfl, (hud.kp (k1.trans k2)).dw, hcv.mono (by omega), hcz, fun H3 k3 => ?_⟩
          walk_at "rd"
          refine ⟨_, _, _, st'', rfl, (k1.trans k2).trans (k3.subM Cr2.ms (by simp)), (Cr3.kp0 k3).mono (by omega), hok2.mono (by omega) (by omega), ?_⟩
          rw [hit]
          exact hst i q _ st' st'' hc e
        | some wd =>
          have hne : ¬ V.str wd = V.non := fun z => by cases z
          show gName _ (V.str wd) _ _ _
          walk_at "rd"
          refine ⟨rfl, ?_⟩
          walk_at "rd"
          refine ifd (fun _ => ?_) (fun z => absurd hne z)
          walk_at "rd"
          rw [hit, hsw i q _ st' st'' wd hc e] at k
          exact k _ (k1.trans k2) (Cr3.mono (by omega))
    | rep kk bb =>
      obtain ⟨u1, w0, w1, w2, rfl, hU, h0, h1, h2⟩ := Dt.is3 (show Dt K H1 u (.tuple [.str "repeat", .int kk, .tuple (Sm.ds bb)]) by rw [Sm.d] at hud1; exact hud1)
      obtain rfl := h0.isStr
      walk_at "rd"
      refine ⟨sf, nd, sd, rd, fv, _, fix, st', _, b + 12 * Sm.wts (bl.take i), q, Sm.rep kk bb, rfl, Cr1, hud1, hcv, ⟨_, _, rfl⟩, hok1, by omega, by omega, hcz, fun H2 k2 Cr2 => ?_⟩
      cases e : Sm.go fix q (Sm.rep kk bb) st' with
      | mk o st'' =>
        have Cr3 : Crs K C sf nd sd rd fv fix H2 st'' (L + Sm.wts (bl.take i) + (Sm.rep kk bb).wt) := by
          have z : Crs K C sf nd sd rd fv fix H2 (Sm.go fix q (Sm.rep kk bb) st').2 (L + Sm.wts (bl.take i) + (Sm.rep kk bb).wt) := by exact Cr2
          rw [e] at z
          exact z
        rw [e] at hok2
        cases o with
        | none =>
          show gName _ V.non _ _ _
          walk_at "rd"
          refine ⟨rfl, ?_⟩
          walk_at "rd"
          refine ifn (fun z => absurd rfl z) (fun _ => ?_)
          walk_at "rd"
          refine ⟨_, Sm.rep kk bb, rfl, (hud.kp (k1.trans k2)).dw, hcv.mono (by omega), hcz, fun H3 k3 => ?_⟩
          walk_at "rd"
          refine ⟨_, _, _, st'', rfl, (k1.trans k2).trans (k3.subM Cr2.ms (by simp)), (Cr3.kp0 k3).mono (by omega), hok2.mono (by omega) (by omega), ?_⟩
          rw [hit]
          exact hst i q _ st' st'' hc e
        | some wd =>
          have hne : ¬ V.str wd = V.non := fun z => by cases z
          show gName _ (V.str wd) _ _ _
          walk_at "rd"
          refine ⟨rfl, ?_⟩
          walk_at "rd"
          refine ifd (fun _ => ?_) (fun z => absurd hne z)
          walk_at "rd"
          rw [hit, hsw i q _ st' st'' wd hc e] at k
          exact k _ (k1.trans k2) (Cr3.mono (by omega))
  · rintro σ H1 ⟨x, y, q, st', rfl, k1, Cr1, hok1, hit⟩
    rw [hlen, List.drop_length, Sm.goL] at hit
    rw [hlen, List.take_length] at Cr1
    rw [hit] at k
    walk_at "rd"
    exact k _ k1 Cr1
abbrev smultiples_of : Stmt := topS 42
abbrev Nmultiples_of : List Str := ["value", "many", "number"]
abbrev Pmultiples_of : List Str := ["value", "many"]
theorem scmultiples_of : FnScope Nmultiples_of Pmultiples_of (defScope smultiples_of) :=
  ⟨rfl, rfl, rfl, by decide +kernel, rfl, by decide +kernel, by decide +kernel⟩
theorem ok_multiples_of (D : Df K mg "multiples_of" smultiples_of Pmultiples_of) (B : Blt mg) : Has P w K mg base CX0 "multiples_of" Pmultiples_of 1 (spMults K) := by
  refine D.has scmultiples_of (fun vs H Q E h => ?_) (fun f cdv A outer s H vs Q E hr h => ?_)
  · obtain ⟨M, v, s, m, rfl, _⟩ := h
    rfl
  obtain ⟨M, v, sv, m, rfl, hv, hm, k⟩ := h
  obtain ⟨a1, d1, rfl, hT1, hD1, _⟩ := hv
  refine ⟨_, (pss_one (ps_ret (pe_callTy c_tup (by rfl) B.tuple (by decide +kernel) (pa_cons (pe_lc (own := [("number", 2)]) (g := gName 2) (by rfl) scmultiples_of.nd (pi_range1 (by rfl) B.range (pa_cons (pv 1) pa_nil)) (blkOk_by (own := [("number", 2)]) (N := Nmultiples_of) (sc := defScope smultiples_of) (by decide +kernel)) (fun _ _ _ _ _ => (pg_name (i := 2) scmultiples_of.nd rfl (Or.inl rfl))) (fun _ _ _ _ _ => pts_nil) (fun _ _ _ _ _ => (pe_dget2 hr.hu (pe_ix (ix_tupK (K := K) rfl) (pv 0) pe_int (fun _ _ => rfl)) (pv 2) pe_int ⟨by rfl, by rfl, by rfl, by rfl⟩))) pa_nil)))), ?_⟩
  walk_at "rd"
  refine r_LcR (by omega) (by omega) fun q hq => ⟨fun i H' => ∃ vs, Kp [] H H' ∧ H' q = some (.lst vs) ∧ DtL K H' vs (mulD sv i), ⟨[], Kp.nil.new hq, upd_same, DtL.nil⟩, ?_, ?_⟩
  · rintro i H1 hi ⟨vs, k1, hq1, hL⟩
    have hT2 := sqT_kp k1 hT1
    have hD2 := k1.get hD1 (by simp)
    walk_at "rd"
    rw [kvI_get]
    have hlen : vs.length = i := by rw [hL.len, mulD_len]
    refine r_LcEnd hq1 (by rw [sizeLine_eq]; omega) ⟨vs ++ [.int (getI sv.m i)], k1.own hq, upd_same, ?_⟩
    rw [mulD_succ]
    exact (hL.kp (kpW hq1)).snoc (.int _)
  · rintro H1 ⟨vs, k1, hq1, hL⟩
    rw [Int.toNat_natCast] at hL
    walk_at "rd"
    refine r_tupL (SqL.of hq1) fun t ht => ?_
    have k5 : Kp [] H1 (upd H1 t (.tup vs)) := Kp.nil.new ht
    exact k _ _ (k1.trans k5) ((hL.kp k5).tup upd_same)
abbrev scourse_of : Stmt := topS 43
abbrev Ncourse_of : List Str := ["program", "number", "fix", "course", "word", "many", "items", "one"]
abbrev Pcourse_of : List Str := ["program", "number", "fix"]
theorem sccourse_of : FnScope Ncourse_of Pcourse_of (defScope scourse_of) :=
  ⟨rfl, rfl, rfl, by decide +kernel, rfl, by decide +kernel, by decide +kernel⟩
theorem ok_course_of {C : Addr} (D : Df K mg "course_of" scourse_of Pcourse_of) (B : Blt mg) (T : CT K C)
    (GCourse : HasC P w K mg base CX0 "Course" C ["self", "number", "fix"] 2 (spInit K C))
    (GCourse_go : HasM P w K mg base CX0 C "go" ["self", "block", "place"] 17 (spGo K C 4))
    (Gmultiples_of : Has P w K mg base CX0 "multiples_of" ["value", "many"] 1 (spMults K)) :
    Has P w K mg base CX0 "course_of" Pcourse_of 18 (spCourse K) := by
  refine D.has sccourse_of (fun vs H Q E h => ?_) (fun f cdv A outer s H vs Q E hr h => ?_)
  · obtain ⟨v, a, n, fix, bl, rfl, _⟩ := h
    rfl
  obtain ⟨v, a, n, fix, bl, rfl, hd, hv, hn, hw, hz, hF, k⟩ := h
  have cC := T.cl
  have nS := T.nS
  have nR := T.nR
  have h0 := st0_ok hn
  refine ⟨_, (pss_cons (ps_set (i := 3) sccourse_of.nd rfl (Or.inl rfl) (pe_new GCourse (hr.mono (by omega)) (by rfl) pass0 (pa_cons (pv 1) (pa_cons (pv 2) pa_nil))))
      (pss_cons (ps_set (i := 4) sccourse_of.nd rfl (Or.inl rfl) (pe_m GCourse_go cC (hr.mono (by omega)) pass0 (pv 3) (pa_cons (pv 0) (pa_cons pe_int pa_nil))))
      (pss_cons (ps_set (i := 5) sccourse_of.nd rfl (Or.inr rfl) (pe_callB c_len (by rfl) B.len (by decide +kernel) (pa_cons (pe_fld (pv 3) rfl) pa_nil)))
      (pss_cons (ps_setLc (i := 6) (own := [("one", 7)]) (g := gName 7) (by rfl) sccourse_of.nd rfl rfl (sw_true rfl rfl rfl (by decide +kernel)) (pi_list (pe_fld (pv 3) rfl)) (blkOk_by (own := [("one", 7)]) (N := Ncourse_of) (sc := defScope scourse_of) (by decide +kernel)) (fun _ _ _ _ _ => (pg_name (i := 7) sccourse_of.nd rfl (Or.inl rfl))) (fun _ _ _ _ _ => pts_nil) (fun _ _ _ _ _ => (pe_ifExp (pt_val (pe_callB (c_is2K (K := K) rfl) (by rfl) B.isinstance (by decide +kernel) (pa_cons (pv 7) (pa_cons (pe_ty (T := "str") (by rfl) B.str (by decide +kernel)) pa_nil)))) (pv 7) (pe_tup (pa_cons (pe_ix (ix_tupK (K := K) rfl) (pv 7) pe_int (fun _ _ => rfl)) (pa_cons (pe_f Gmultiples_of (hr.mono (by omega)) (by rfl) pass0 (pa_cons (pv 7) (pa_cons (pv 5) pa_nil))) pa_nil))))))
      (pss_one (ps_ret (pe_tup (pa_cons (pe_callTy c_tup (by rfl) B.tuple (by decide +kernel) (pa_cons (pv 6) pa_nil)) (pa_cons (pv 4) (pa_cons (pe_callTy c_tup (by rfl) B.tuple (by decide +kernel) (pa_cons (pe_fld (pv 3) rfl) pa_nil)) pa_nil)))))))))), ?_⟩
  with_reducible refine r_seq ?_
  with_reducible refine r_asg ?_
  refine r_make ?_
  walk_at "rd"
  intro x dx hx hdx hne
  have k0 : Kp [] H (upd (upd H dx (.own x)) x (.ins C dx [])) := (Kp.nil.new hdx).new (by rw [upd_ne (Ne.symm hne)]; exact hx)
  have hx0 : upd (upd H dx (.own x)) x (.ins C dx []) x = some (.ins C dx []) := upd_same
  generalize upd (upd H dx (.own x)) x (.ins C dx []) = H0 at k0 hx0 ⊢
  have nn : ∀ b, H0 b = none → H b = none := fun b e => by
    cases e2 : H b with
    | none => rfl
    | some o => rw [k0.get e2 (by simp)] at e; cases e
  refine ⟨x, dx, a, n, fix, rfl, hx0, sqT_kp k0 hF, fun H1 nd sd rd n1 n2 n3 k1 Cr => ⟨rfl, ?_⟩⟩
  have k1' : Kp [] H H1 := Kp.own1 k0 hx k1
  obtain ⟨dx1, hI1⟩ := Cr.obj
  walk_at "rd"
  refine ⟨x, nd, sd, rd, .ref a, v, fix, st0 n, 1, 200, 0, bl, rfl, Cr, hd.kp k1', hv, h0, by omega, by omega, hz, fun H2 k2 Cr2 => ?_⟩
  have k2' : Kp [] H H2 := k1'.outs (fun b m => .inl (by
    simp only [List.mem_cons, List.not_mem_nil, or_false] at m
    rcases m with rfl | rfl | rfl
    · exact nn _ n1
    · exact nn _ n2
    · exact nn _ n3)) k2
  have hok := Sm.goL_ok fix 4 bl 0 (st0 n) 200 1 hv h0 (by omega)
  have fin : ∀ H' z, Kp [] H H' → Dt K H' z (.tuple [.tuple ((Sm.goL fix 0 bl (st0 n)).2.said.map (itD (Sm.goL fix 0 bl (st0 n)).2.made.length)), wdD (Sm.goL fix 0 bl (st0 n)).1, .tuple ((Sm.goL fix 0 bl (st0 n)).2.made.map PyData.int)]) → Q z H' := k
  clear k
  generalize Sm.goL fix 0 bl (st0 n) = R at fin hok Cr2 ⊢
  obtain ⟨wd, st⟩ := R
  dsimp only at fin hok Cr2 ⊢
  obtain ⟨dx2, hI2⟩ := Cr2.obj
  have hmade := Cr2.made
  obtain ⟨ss, hsd, hits⟩ := Cr2.said
  have hml := hok.ml
  have hsl := hok.sl
  have hlen := hits.len
  walk_at "rd"
  refine r_LcL (SqL.of hsd) fun q hq => ⟨fun i H' => ∃ vs, Kp [] H2 H' ∧ H' q = some (.lst vs) ∧ DtL K H' vs ((st.said.take i).map (itD st.made.length)), ⟨[], Kp.nil.new hq, upd_same, DtL.nil⟩, fun i H' ⟨_, q1, _⟩ => SqL.of (q1.get hsd (by simp)), ?_, ?_⟩
  · rintro i u H3 hu ⟨vs, k3, hq3, hL⟩
    have hi : i < st.said.length := by have := (List.getElem?_eq_some_iff.mp hu).1; omega
    have ht : st.said[i]? = some st.said[i] := List.getElem?_eq_getElem hi
    have hit := (hits.all i u _ hu ht).kp k3 (by simp)
    have hvl : vs.length = i := by rw [hL.len, List.length_map, List.length_take]; omega
    have htk : (st.said.take (i + 1)).map (itD st.made.length) = (st.said.take i).map (itD st.made.length) ++ [itD st.made.length st.said[i]] := by rw [List.take_add_one, ht, List.map_append]; rfl
    generalize st.said[i] = t at ht hit htk
    cases t with
    | inl wx =>
      obtain rfl : u = .str wx := hit
      have hw : Dw [] K H3 (.str wx) (.str wx) := .str wx
      walk_at "rd"
      refine r_LcEnd hq3 (by rw [sizeLine_eq]; omega) ⟨vs ++ [.str wx], k3.own hq, upd_same, ?_⟩
      rw [htk]
      exact (hL.kp (kpW hq3)).snoc (.str _)
    | inr sv =>
      obtain ⟨a1, d1, rfl, hT1, hD1, hn1⟩ := hit
      walk_at "rd"
      refine r_is2tF hT1 ?_
      walk_at "rd"
      refine ⟨[nd, sd, rd], .ref a1, sv, st.made.length, by rw [List.length_map]; rfl, ⟨a1, d1, rfl, hT1, hD1, hn1⟩, by omega, fun H4 z k4 hz4 => ?_⟩
      have hq4 := k4.get hq3 (by simp)
      walk_at "rd"
      refine ⟨by rw [sizeLine_eq]; simp, fun q5 hq5 => ?_⟩
      have k5 : Kp [] H4 (upd H4 q5 (.tup [.int sv.n, z])) := Kp.nil.new hq5
      have hD5 : Dt K (upd H4 q5 (.tup [.int sv.n, z])) (.ref q5) (itD st.made.length (.inr sv)) := (DtL.cons (.int sv.n) (DtL.cons (hz4.kp k5) DtL.nil)).tup upd_same
      generalize upd H4 q5 (.tup [.int sv.n, z]) = H5 at k5 hD5 ⊢
      have hqq := k5.get hq4 (by simp)
      refine r_LcEnd hqq (by rw [sizeLine_eq]; omega) ⟨vs ++ [.ref q5], (k3.trans (k4.trans k5)).own hq, upd_same, ?_⟩
      rw [htk]
      exact ((hL.kp (k4.trans k5)).kp (kpW hqq)).snoc (hD5.kp (kpW hqq))
  · rintro H3 ⟨vs, k3, hq3, hL⟩
    rw [hlen, List.take_length] at hL
    have Cr3 := Cr2.kp0 k3
    obtain ⟨dx3, hI3⟩ := Cr3.obj
    have hmade3 := Cr3.made
    walk_at "rd"
    refine r_tupL (SqL.of hq3) fun t ht => ?_
    have k4 : Kp [] H3 (upd H3 t (.tup vs)) := Kp.nil.new ht
    have hD4 := (hL.kp k4).tup upd_same
    generalize upd H3 t (.tup vs) = H4 at k4 hD4 ⊢
    have hI4 := k4.get hI3 (by simp)
    have hmade4 := k4.get hmade3 (by simp)
    walk_at "rd"
    refine r_tupL (SqL.of hmade4) fun t2 ht2 => ?_
    have k5 : Kp [] H4 (upd H4 t2 (.tup (st.made.map V.int))) := Kp.nil.new ht2
    have hD5 : Dt K (upd H4 t2 (.tup (st.made.map V.int))) (.ref t2) (.tuple (st.made.map PyData.int)) := (DtL.ints st.made).tup upd_same
    generalize upd H4 t2 (.tup (st.made.map V.int)) = H5 at k5 hD5 ⊢
    walk_at "rd"
    refine ⟨by rw [sizeLine_eq]; simp, fun q5 hq5 => ?_⟩
    have k6 : Kp [] H5 (upd H5 q5 (.tup [.ref t, wdV wd, .ref t2])) := Kp.nil.new hq5
    exact fin _ _ (((k2'.trans k3).trans (k4.trans k5)).trans k6) ((DtL.cons (hD4.kp (k5.trans k6)) (DtL.cons (wdD_dt wd) (DtL.cons (hD5.kp k6) DtL.nil))).tup upd_same)
abbrev ssums_of : Stmt := topS 44
abbrev Nsums_of : List Str := ["program", "number", "items", "word", "places"]
abbrev Psums_of : List Str := ["program", "number"]
theorem scsums_of : FnScope Nsums_of Psums_of (defScope ssums_of) :=
  ⟨rfl, rfl, rfl, by decide +kernel, rfl, by decide +kernel, by decide +kernel⟩
theorem ok_sums_of (D : Df K mg "sums_of" ssums_of Psums_of) (B : Blt mg) (Gcourse_of : Has P w K mg base CX0 "course_of" ["program", "number", "fix"] 18 (spCourse K)) :
    Has P w K mg base CX0 "sums_of" Psums_of 19 (spSums K) := by
  refine D.has scsums_of (fun vs H Q E h => ?_) (fun f cdv A outer s H vs Q E hr h => ?_)
  · obtain ⟨v, n, bl, rfl, _⟩ := h
    rfl
  obtain ⟨v, n, bl, rfl, hd, hv, hn, hw, hz, k⟩ := h
  refine ⟨_, (pss_cons (ps_asg (pe_f Gcourse_of (hr.mono (by omega)) (by rfl) pass0 (pa_cons (pv 0) (pa_cons (pv 1) (pa_cons (pe_tup pa_nil) pa_nil)))) (pg_tup rfl (pgs_cons (pg_name (i := 2) scsums_of.nd rfl (Or.inl rfl)) (pgs_cons (pg_name (i := 3) scsums_of.nd rfl (Or.inl rfl)) (pgs_cons (pg_name (i := 4) scsums_of.nd rfl (Or.inl rfl)) pgs_nil)))))
      (pss_one (ps_ret (pe_tup (pa_cons (pv 2) (pa_cons (pv 3) (pa_cons (pe_callB c_len (by rfl) B.len (by decide +kernel) (pa_cons (pv 4) pa_nil)) pa_nil))))))), ?_⟩
  walk_at "rd"
  refine ⟨by decide, fun t0 ht0 => ?_⟩
  have k0 : Kp [] H (upd H t0 (.tup [])) := Kp.nil.new ht0
  have h0 : SqT K (upd H t0 (.tup [])) t0 (([] : List Int).map V.int) := SqT.of upd_same
  generalize upd H t0 (.tup []) = H0 at k0 h0 ⊢
  walk_at "rd"
  refine ⟨v, t0, n, [], bl, rfl, hd.kp k0, hv, hn, hw, hz, h0, fun H1 z k1 hz1 => ?_⟩
  obtain ⟨a, v0, v1, v2, rfl, hT, d0, d1, d2⟩ := Dt.is3 hz1
  obtain ⟨a2, xs2, rfl, hT2, hL2⟩ := d2.items
  have hl2 : xs2.length = (runR [] n bl).2.made.length := by rw [hL2.len, List.length_map]
  walk_at "rd"
  refine ⟨by simp [sizeLine_eq], fun q hq => ?_⟩
  have k2 : Kp [] H1 (upd H1 q (.tup [v0, v1, .int (xs2.length : Nat)])) := Kp.nil.new hq
  refine k _ _ (k0.trans (k1.trans k2)) ((DtL.cons (d0.kp k2) (DtL.cons (d1.kp k2) (DtL.cons (d := .int ((runR [] n bl).2.made.length : Nat)) ?_ DtL.nil))).tup upd_same)
  rw [hl2]
  exact .int _
abbrev s_law_deck : Stmt := topS 46
abbrev N_law_deck : List Str := ["_law_script", "_law_cell"]
abbrev P_law_deck : List Str := ["_law_script"]
theorem sc_law_deck : FnScope N_law_deck P_law_deck (defScope s_law_deck) :=
  ⟨rfl, rfl, rfl, by decide +kernel, rfl, by decide +kernel, by decide +kernel⟩
theorem ok_law_deck (D : Df K mg "_law_deck" s_law_deck P_law_deck) (B : Blt mg) : Has P w K mg base CX0 "_law_deck" P_law_deck 1 (spDeck K) := by
  refine D.has sc_law_deck (fun vs H Q E h => ?_) (fun f cdv A outer s H vs Q E hr h => ?_)
  · obtain ⟨a, ns, rfl, _⟩ := h
    rfl
  obtain ⟨a, ns, rfl, hS, hl, k⟩ := h
  refine ⟨_, (pss_one (ps_ret (pe_lst (pa_cons (pe_lc (own := [("_law_cell", 1)]) (g := gName 1) (by rfl) sc_law_deck.nd (pi_list (pe_slice sl_list (pv 0) po_none (po_some pe_int))) (blkOk_by (own := [("_law_cell", 1)]) (N := N_law_deck) (sc := defScope s_law_deck) (by decide +kernel)) (fun _ _ _ _ _ => (pg_name (i := 1) sc_law_deck.nd rfl (Or.inl rfl))) (fun _ _ _ _ _ => pts_nil) (fun _ _ _ _ _ => (pe_callB c_abs (by rfl) B.abs (by decide +kernel) (pa_cons (pv 1) pa_nil)))) (pa_cons pe_int pa_nil))))), ?_⟩
  walk_at "rd"
  refine r_slL hS fun p hp => ?_
  obtain ⟨ms, e, hm, _⟩ := cutV_map V.int ns none (some 63)
  rw [e]
  have k1 : Kp [] H (upd H p (.lst (ms.map V.int))) := Kp.nil.new hp
  have h1 : upd H p (.lst (ms.map V.int)) p = some (.lst (ms.map V.int)) := upd_same
  generalize upd H p (.lst (ms.map V.int)) = H1 at k1 h1 ⊢
  refine r_LcL (SqL.of h1) fun c hc => ?_
  refine ⟨fun i H' => ∃ cs : List Int, H' c = some (.lst (cs.map V.int)) ∧ (∀ x ∈ cs, 0 ≤ x) ∧ cs.length = i ∧ Kp [] H1 H', ⟨[], upd_same, (fun _ h => (nomatch h)), rfl, Kp.nil.new hc⟩,
    fun i H' ⟨_, _, _, _, kk⟩ => SqL.of (kk.get h1 (by simp)), ?_, ?_⟩
  · rintro i x H2 hx ⟨cs, h2, h3, h4, k2⟩
    rw [List.getElem?_map] at hx
    obtain ⟨y, hy, rfl⟩ := Option.map_eq_some_iff.mp hx
    have hi : i < ms.length := (List.getElem?_eq_some_iff.mp hy).1
    walk_at "rd"
    refine r_LcEnd h2 (by walk_at "sz") ⟨cs ++ [if y < 0 then -y else y], ?_, ?_, ?_, k2.own hc⟩
    · rw [upd_same, List.map_append]
      rfl
    · intro z hz
      rcases List.mem_append.mp hz with hz | hz
      · exact h3 z hz
      · rw [List.mem_singleton.mp hz]
        split <;> omega
    · rw [List.length_append, h4]
      rfl
  · rintro H2 ⟨cs, h2, h3, h4, k2⟩
    rw [List.length_map] at h4
    walk_at "rd"
    refine ⟨by simp [sizeLine_eq], fun d hd => ?_⟩
    have hcd : d ≠ c := Ne.symm (ne_of_none h2 hd)
    refine k _ d c ((k1.trans k2).same.free hd) (k1.same.free hc) ⟨upd_same, ⟨cs, ?_, h3, by omega⟩, hcd, by omega⟩ ((k1.trans k2).new hd)
    rw [upd_ne hcd.symm]
    exact h2
abbrev s_law_draw : Stmt := topS 47
abbrev N_law_draw : List Str := ["_law_deck_here", "_law_many", "_law_cell", "_law_at", "_law_mixed"]
abbrev P_law_draw : List Str := ["_law_deck_here", "_law_many"]
theorem sc_law_draw : FnScope N_law_draw P_law_draw (defScope s_law_draw) :=
  ⟨rfl, rfl, rfl, by decide +kernel, rfl, by decide +kernel, by decide +kernel⟩
theorem ok_law_draw (D : Df K mg "_law_draw" s_law_draw P_law_draw) (B : Blt mg) : Has P w K mg base CX0 "_law_draw" P_law_draw 1 spDraw := by
  refine D.has sc_law_draw (fun vs H Q E h => ?_) (fun f cdv A outer s H vs Q E hr h => ?_)
  · obtain ⟨d, c, n, m, rfl, _⟩ := h
    rfl
  obtain ⟨d, c, n, m, rfl, Dk, hn, h1, h2, k⟩ := h
  refine ⟨_, (pss_cons (ps_asg (pe_op op_add (pe_ix ix_list (pv 0) pe_int (fun _ _ => rfl)) pe_int) (pg_sub (pv 0) pe_int set_list))
      (pss_cons (ps_asg (pe_tup (pa_cons pe_int (pa_cons (pe_un un_neg pe_int) pa_nil))) (pg_tup rfl (pgs_cons (pg_name (i := 2) sc_law_draw.nd rfl (Or.inl rfl)) (pgs_cons (pg_name (i := 3) sc_law_draw.nd rfl (Or.inl rfl)) pgs_nil))))
      (pss_cons (ps_if (pt_cmpR op_gt (pe_callB c_len (by rfl) B.len (by decide +kernel) (pa_cons (pe_ix ix_list (pv 0) pe_int (fun _ _ => rfl)) pa_nil)) pe_int (nomark _)) (pss_cons (ps_set (i := 3) sc_law_draw.nd rfl (Or.inl rfl) (pe_op op_mod (pe_callTy c_int (by rfl) B.int (by decide +kernel) (pa_cons (pe_ix ix_list (pv 0) pe_int (fun _ _ => rfl)) pa_nil)) (pe_callB c_len (by rfl) B.len (by decide +kernel) (pa_cons (pe_ix ix_list (pv 0) pe_int (fun _ _ => rfl)) pa_nil))))
      (pss_one (ps_set (i := 2) sc_law_draw.nd rfl (Or.inl rfl) (pe_ix ix_list (pe_ix ix_list (pv 0) pe_int (fun _ _ => rfl)) (pv 3) (fun _ _ => rfl)))))
        pss_nil)
      (pss_cons (ps_if (pt_cmpR op_ge (pv 2) (pe_op op_pow pe_int pe_int) (nomark _)) (pss_cons (ps_asg (pe_op op_fdiv (pe_callTy c_int (by rfl) B.int (by decide +kernel) (pa_cons (pv 2) pa_nil)) (pv 1)) (pg_sub (pe_ix ix_list (pv 0) pe_int (fun _ _ => rfl)) (pv 3) set_list))
      (pss_one (ps_ret (pe_op op_mod (pe_callTy c_int (by rfl) B.int (by decide +kernel) (pa_cons (pv 2) pa_nil)) (pv 1)))))
        pss_nil)
      (pss_cons (ps_set (i := 4) sc_law_draw.nd rfl (Or.inl rfl) (pe_op op_add (pe_op op_add (pe_op op_mod (pe_callTy c_int (by rfl) B.int (by decide +kernel) (pa_cons (pv 2) pa_nil)) pe_int) (pe_op op_mul pe_int (pe_ix ix_list (pv 0) pe_int (fun _ _ => rfl)))) pe_int))
      (pss_one (ps_ret (pe_op op_mod (pe_callTy c_int (by rfl) B.int (by decide +kernel) (pa_cons (pe_op op_mod (pe_callTy c_int (by rfl) B.int (by decide +kernel) (pa_cons (pe_op op_pow (pv 4) pe_int) pa_nil)) pe_int) pa_nil)) (pv 1))))))))), ?_⟩
  obtain ⟨hd, ⟨cs, hc, hp, hl⟩, ne, n0⟩ := Dk
  walk_at "rd"
  refine ⟨by decide, fun p hp' => ?_⟩
  have pd : p ≠ d := fun z => by
    rw [z, upd_same] at hp'
    cases hp'
  have pH : H p = none := by
    rw [upd_ne pd] at hp'
    exact hp'
  have pc : p ≠ c := Ne.symm (ne_of_none hc pH)
  generalize eH : upd (upd H d (HO.lst ([V.ref c, V.int n].set (Int.toNat 1) (V.int (n + 1))))) p (HO.tup [V.int 0, V.int (-1)]) = H1
  have hT : H1 p = some (.tup [V.int 0, V.int (-1)]) := by rw [← eH]; exact upd_same
  have hd1 : H1 d = some (.lst [V.ref c, V.int (n + 1)]) := by
    rw [← eH, upd_ne pd.symm]
    exact upd_same
  have hc1 : H1 c = some (.lst (cs.map V.int)) := by
    rw [← eH, upd_ne pc.symm, upd_ne ne.symm]
    exact hc
  have kp : Kp [d, c] H H1 := by
    rw [← eH]
    exact ((Kp.refl (Deck.ls ⟨hd, ⟨cs, hc, hp, hl⟩, ne, n0⟩)).write (by simp)).new hp'
  walk_at "rd"
  have last : ∀ (x : Int), 0 ≤ x → ∀ (y : Int), y = x % 2147483563 + 8117 * (n + 1) + 3 → y.natAbs < 2 ^ 64 := by
    intro x hx y e
    omega
  refine ifd (fun c1 => ?_) (fun c1 => ?_)
  · rw [List.length_map] at c1
    have hlt : ((n + 1) % (cs.length : Int)).toNat < cs.length := by
      have q1 := Int.emod_nonneg (n + 1) (show (cs.length : Int) ≠ 0 by omega)
      have q2 := Int.emod_lt_of_pos (n + 1) c1
      omega
    have h0 := Int.emod_nonneg (n + 1) (show (cs.length : Int) ≠ 0 by omega)
    have hlt2 := Int.emod_lt_of_pos (n + 1) c1
    have hat : atI (cs.map V.int) ((n + 1) % ((cs.map V.int).length : Nat)) = some (.int cs[((n + 1) % (cs.length : Int)).toNat]) := by
      rw [List.length_map]
      refine at_of (j := ((n + 1) % (cs.length : Int)).toNat) (by omega) ?_
      rw [List.getElem?_map, List.getElem?_eq_getElem hlt]
      rfl
    have hset : ixN (cs.map V.int).length ((n + 1) % ((cs.map V.int).length : Nat)) = some ((n + 1) % (cs.length : Int)).toNat := by
      unfold ixN
      rw [List.length_map, if_pos h0, if_pos hlt2]
    have hx := hp _ (List.getElem_mem hlt)
    generalize cs[((n + 1) % (cs.length : Int)).toNat] = x at hat hx
    walk_at "rd"
    refine ifd (fun c2 => ?_) (fun c2 => ?_)
    all_goals walk_at "rd"
    · refine k _ _ (Int.emod_nonneg _ (by omega)) (Int.emod_lt_of_pos _ (by omega)) ⟨?_, ⟨cs.set ((n + 1) % (cs.length : Int)).toNat (x / m), ?_, ?_, ?_⟩, ne, by omega⟩ (kp.write (by simp))
      · rw [upd_ne ne]
        exact hd1
      · rw [upd_same, List.map_set]
      · intro y hy
        rcases List.mem_or_eq_of_mem_set hy with hy | rfl
        · exact hp y hy
        · exact Int.ediv_nonneg hx (by omega)
      · rw [List.length_set]
        exact hl
    · walk_at "sc"
    · walk_at "sc"
    · exact k _ _ (Int.emod_nonneg _ (by omega)) (Int.emod_lt_of_pos _ (by omega)) ⟨hd1, ⟨cs, hc1, hp, hl⟩, ne, by omega⟩ kp
    · walk_at "sc"
    · walk_at "sc"
    · walk_at "sc"
    · walk_at "sc"
    · walk_at "sc"
    · walk_at "sc"
    · rw [List.length_map]
      exact c1
  · walk_at "rd"
    · refine ifd (fun c2 => ?_) (fun c2 => ?_)
      · exact absurd c2 (by decide)
      · walk_at "rd"
        · exact k _ _ (Int.emod_nonneg _ (by omega)) (Int.emod_lt_of_pos _ (by omega)) ⟨hd1, ⟨cs, hc1, hp, hl⟩, ne, by omega⟩ kp
        all_goals walk_at "sc"
    · walk_at "sc"
abbrev s_law_one : Stmt := topS 48
abbrev N_law_one : List Str := ["_law_deck_here", "_law_items"]
abbrev P_law_one : List Str := ["_law_deck_here", "_law_items"]
theorem sc_law_one : FnScope N_law_one P_law_one (defScope s_law_one) :=
  ⟨rfl, rfl, rfl, by decide +kernel, rfl, by decide +kernel, by decide +kernel⟩
theorem ok_law_one (D : Df K mg "_law_one" s_law_one P_law_one) (B : Blt mg)
    (G_law_draw : Has P w K mg base CX0 "_law_draw" ["_law_deck_here", "_law_many"] 1 spDraw) : Has P w K mg base CX0 "_law_one" P_law_one 2 (spOne K) := by
  refine D.has sc_law_one (fun vs H Q E h => ?_) (fun f cdv A outer s H vs Q E hr h => ?_)
  · rcases h with ⟨d, c, a, n, xs, rfl, _⟩ | ⟨d, c, n, z, rfl, _⟩ <;> rfl
  refine ⟨_, (pss_one (ps_ret (pe_ix ix_seq (pv 1) (pe_f G_law_draw (hr.mono (by omega)) (by rfl) pass0 (pa_cons (pv 0) (pa_cons (pe_callB c_len (by rfl) B.len (by decide +kernel) (pa_cons (pv 1) pa_nil)) pa_nil))) (fun _ _ => rfl)))), ?_⟩
  rcases h with ⟨d, c, a, n, xs, rfl, Dk, hn, hS, h1, h2, h3, h4, k⟩ | ⟨d, c, n, z, rfl, Dk, hn, h3, h4, k⟩
  · walk_at "rd"
    refine spDraw.use Dk hn (by omega) (by omega) fun H1 r r0 r1 D1 k1 => ?_
    have hlt : r.toNat < xs.length := by omega
    refine .inl (r_ixL (sqL_kp k1 (by simp [h1, h2]) hS) (at_of (j := r.toNat) (by omega) (List.getElem?_eq_getElem hlt)) ?_)
    exact k _ r.toNat _ (List.getElem?_eq_getElem hlt) D1 k1
  · have hz : z.length ≤ sizeLine := by rw [sizeLine_eq]; omega
    have hsz : z.cps.toList.length = z.length := by rw [Array.length_toList]; rfl
    walk_at "rd"
    · refine spDraw.use Dk hn (by omega) (by omega) fun H1 r r0 r1 D1 k1 => ?_
      have hlt : r.toNat < z.cps.toList.length := by omega
      refine .inr (.inr (r_ixS (c := z.cps.toList[r.toNat]) hz ?_ ?_))
      · exact at_nn r0 (List.getElem?_eq_getElem hlt)
      · exact k _ _ (List.getElem_mem hlt) D1 k1
    · exact hz
abbrev s_law_names : Stmt := topS 49
abbrev N_law_names : List Str := ["_law_deck_here", "_law_letters", "_law_signs", "_law_size", "_law_left", "_law_k", "_law_right"]
abbrev P_law_names : List Str := ["_law_deck_here"]
theorem sc_law_names : FnScope N_law_names P_law_names (defScope s_law_names) :=
  ⟨rfl, rfl, rfl, by decide +kernel, rfl, by decide +kernel, by decide +kernel⟩
theorem ok_law_names (D : Df K mg "_law_names" s_law_names P_law_names) (B : Blt mg)
    (G_law_draw : Has P w K mg base CX0 "_law_draw" ["_law_deck_here", "_law_many"] 1 spDraw) (G_law_one : Has P w K mg base CX0 "_law_one" ["_law_deck_here", "_law_items"] 2 (spOne K)) :
    Has P w K mg base CX0 "_law_names" P_law_names 3 spNmN := by
  refine D.has sc_law_names (fun vs H Q E h => ?_) (fun f cdv A outer s H vs Q E hr h => ?_)
  · obtain ⟨d, c, n, rfl, _⟩ := h
    rfl
  obtain ⟨d, c, n, rfl, Dk, hn, k⟩ := h
  have n0 := Dk.n0
  refine ⟨_, (pss_cons (ps_set (i := 1) sc_law_names.nd rfl (Or.inr rfl) pe_str)
      (pss_cons (ps_set (i := 2) sc_law_names.nd rfl (Or.inr rfl) (pe_op op_addS (pv 1) pe_str))
      (pss_cons (ps_set (i := 3) sc_law_names.nd rfl (Or.inl rfl) (pe_f G_law_one (hr.mono (by omega)) (by rfl) pass0 (pa_cons (pv 0) (pa_cons (pe_lst (pa_cons pe_int (pa_cons pe_int (pa_cons pe_int (pa_cons pe_int (pa_cons pe_int (pa_cons pe_int (pa_cons pe_int pa_nil)))))))) pa_nil))))
      (pss_cons (ps_set (i := 4) sc_law_names.nd rfl (Or.inr rfl) (pe_join pe_str (pe_lc (own := [("_law_k", 5)]) (g := gName 5) (by rfl) sc_law_names.nd (pi_range1 (by rfl) B.range (pa_cons (pv 3) pa_nil)) (blkOk_by (own := [("_law_k", 5)]) (N := N_law_names) (sc := defScope s_law_names) (by decide +kernel)) (fun _ _ _ _ _ => (pg_name (i := 5) sc_law_names.nd rfl (Or.inl rfl))) (fun _ _ _ _ _ => pts_nil) (fun _ _ _ _ _ => (pe_f G_law_one (hr.mono (by omega)) (by rfl) pass0 (pa_cons (pv 0) (pa_cons (pv 1) pa_nil)))))))
      (pss_cons (ps_set (i := 6) sc_law_names.nd rfl (Or.inr rfl) (pe_join pe_str (pe_lc (own := [("_law_k", 5)]) (g := gName 5) (by rfl) sc_law_names.nd (pi_range1 (by rfl) B.range (pa_cons (pe_f G_law_draw (hr.mono (by omega)) (by rfl) pass0 (pa_cons (pv 0) (pa_cons (pe_op op_sub pe_int (pv 3)) pa_nil))) pa_nil)) (blkOk_by (own := [("_law_k", 5)]) (N := N_law_names) (sc := defScope s_law_names) (by decide +kernel)) (fun _ _ _ _ _ => (pg_name (i := 5) sc_law_names.nd rfl (Or.inl rfl))) (fun _ _ _ _ _ => pts_nil) (fun _ _ _ _ _ => (pe_f G_law_one (hr.mono (by omega)) (by rfl) pass0 (pa_cons (pv 0) (pa_cons (pv 2) pa_nil)))))))
      (pss_one (ps_ret (pe_op op_cat (pe_lst (pa_cons pe_str pa_nil)) (pe_lc (own := [("_law_k", 5)]) (g := gName 5) (by rfl) sc_law_names.nd (pi_range1 (by rfl) B.range (pa_cons pe_int pa_nil)) (blkOk_by (own := [("_law_k", 5)]) (N := N_law_names) (sc := defScope s_law_names) (by decide +kernel)) (fun _ _ _ _ _ => (pg_name (i := 5) sc_law_names.nd rfl (Or.inl rfl))) (fun _ _ _ _ _ => pts_nil) (fun _ _ _ _ _ => (pe_op op_addS (pe_op op_addS (pv 4) (pe_ix ix_str pe_str (pv 5) (fun _ _ => rfl))) (pv 6)))))))))))), ?_⟩
  walk_at "rd"
  rotate_left
  · decide +kernel
  have Dk0 := Dk
  have k0 : Kp [d, c] H H := Kp.refl Dk.ls
  refine one_disp Dk0 (by omega) (by simp) (by simp) fun H1 x hx D1 k1 => ?_
  have hx' : ∃ u : Int, x = .int u ∧ 0 ≤ u ∧ u ≤ 7 := by
    simp only [List.mem_cons, List.not_mem_nil, or_false] at hx
    rcases hx with rfl | rfl | rfl | rfl | rfl | rfl | rfl <;> exact ⟨_, rfl, by omega, by omega⟩
  obtain ⟨u, rfl, u0, u1⟩ := hx'
  have kk1 := k0.trans k1
  walk_at "rd"
  refine lc_signs (text := "abcdefgijkmoquvwxyz") D1 (by omega) u0 (by omega) (fun _ => rfl) (fun _ => rfl) (fun _ => rfl) (by decide +kernel) (by decide +kernel) fun H2 p2 ys hp2 y1 y2 y3 D2 k2 => ?_
  have emp0 : ("" : Str).length = 0 := by decide +kernel
  have sm := sum_one y3
  refine ⟨"", p2, ys, rfl, rfl, .inl (SqL.of y1), by rw [emp0]; omega, ?_⟩
  have hL := joinL_signs ys LTT.cps.toList y3
  generalize Txt.join "" ys = left at hL ⊢
  have kk2 := kk1.trans k2
  walk_at "rd"
  refine spDraw.use D2 (by omega) (by omega) (by omega) fun H3 t t0 t1 D3 k3 => ?_
  walk_at "rd"
  refine lc_signs (text := "abcdefgijkmoquvwxyz" ++ "0123456789") D3 (by omega) t0 (by omega) (fun _ => rfl) (fun _ => rfl) (fun _ => rfl) (by decide +kernel) (by decide +kernel) fun H4 p4 zs hp4 z1 z2 z3 D4 k4 => ?_
  have sm2 := sum_one z3
  refine ⟨"", p4, zs, rfl, rfl, .inl (SqL.of z1), by rw [emp0]; omega, ?_⟩
  have hR := joinL_signs zs (LTT ++ ("0123456789" : Str)).cps.toList z3
  generalize Txt.join "" zs = right at hR ⊢
  have kk4 := (kk2.trans k3).trans k4
  clear k1 k2 k3 k4 sm sm2 y1 y3 z1 z3 hp2 hp4 D1 D2 D3
  walk_at "rd"
  refine ⟨by decide, fun p5 hp5 => ?_⟩
  have k5 : Kp [] H4 (upd H4 p5 (.lst [.str "n"])) := Kp.nil.new hp5
  have D5 := D4.kp k5 (by simp) (by simp)
  have h5 : upd H4 p5 (.lst [.str "n"]) p5 = some (.lst [.str "n"]) := upd_same
  have kk5 := kk4.new (o := .lst [.str "n"]) hp5
  generalize upd H4 p5 (.lst [.str "n"]) = H5 at k5 D5 h5 kk5 ⊢
  walk_at "rd"
  refine r_LcR (by omega) (by omega) fun p6 hp6 => ⟨fun i H' => ∃ xs : List Str, H' p6 = some (.lst (xs.map V.str)) ∧ xs.length = i ∧ (∀ x ∈ xs, isNameS x = true) ∧ Kp [] H5 H' ∧ xs = (QXZ.cps.toList.take i).map (nmF left right), ⟨[], upd_same, rfl, (fun _ h => (nomatch h)), Kp.nil.new hp6, rfl⟩, ?_, ?_⟩
  · rintro i H7 hi ⟨xs, x1, x2, x3, k7, x4⟩
    have hlt : i < QXZ.cps.toList.length := by
      show i < 3
      omega
    have hat : atI ("qxz" : Str).cps.toList (i : Int) = some (QXZ.cps.toList[i]) := atI_nat (xs := QXZ.cps.toList) (List.getElem?_eq_getElem hlt)
    have hsg := name_made hL hR (List.getElem_mem hlt) (by omega)
    have x5 : xs ++ [nmF left right QXZ.cps.toList[i]] = (QXZ.cps.toList.take (i + 1)).map (nmF left right) := by
      rw [List.take_add_one, List.getElem?_eq_getElem hlt, List.map_append, x4]
      rfl
    generalize QXZ.cps.toList[i] = sg at hat hsg x5
    have l1 : left.length = ys.length := by rw [← hL.1, Array.length_toList]; rfl
    have l2 : right.length = zs.length := by rw [← hR.1, Array.length_toList]; rfl
    have l3 : (⟨#[sg]⟩ : Str).length = 1 := rfl
    walk_at "rd"
    refine r_ixS (by decide +kernel) hat ?_
    walk_at "rd"
    · refine r_LcEnd x1 (by walk_at "sz") ⟨xs ++ [left ++ ⟨#[sg]⟩ ++ right], ?_, by rw [List.length_append, x2]; rfl, ?_, k7.own hp6, x5⟩
      · rw [upd_same, List.map_append]
        rfl
      · intro y hy
        rcases List.mem_append.mp hy with hy | hy
        · exact x3 y hy
        · rw [List.mem_singleton.mp hy]
          exact hsg
    all_goals walk_at "sz"
  · rintro H7 ⟨xs, x1, x2, x3, k7, x4⟩
    have x6 : xs = [nmF left right 113, nmF left right 120, nmF left right 122] := by
      rw [x4]
      have e : QXZ.cps.toList.take (Int.toNat 3) = [113, 120, 122] := by decide +kernel
      rw [e]
      rfl
    have fn := four_names hL.2 hR.2
    refine r_cat (k7.get h5 (by simp)) x1 (by rw [List.length_map, sizeLine_eq]; simp; omega) fun p8 hp8 => ?_
    have k8 : Kp [] H7 (upd H7 p8 (.lst ([V.str "n"] ++ xs.map V.str))) := Kp.nil.new hp8
    have D7 := D5.kp k7 (by simp) (by simp)
    have kk7 := kk5.trans (k7.sub D5.ls (by simp))
    refine k _ p8 ("n" :: xs) _ (kk7.free D7.ls hp8) (D7.kp k8 (by simp) (by simp)) (by omega) (by omega) (kk7.new hp8) ⟨by rw [upd_same]; rfl, by rw [List.length_cons, x2]; rfl, fun x hx => ?_, ⟨_, _, _, by rw [x6], by rw [x6]; exact fn.1, by rw [x6]; exact fn.2⟩⟩
    rcases List.mem_cons.mp hx with rfl | hx
    · decide +kernel
    · exact x3 x hx
abbrev s_law_expression : Stmt := topS 50
abbrev N_law_expression : List Str := ["_law_deck_here", "_law_names_here", "_law_deep", "_law_way", "_law_factor", "_law_first"]
abbrev P_law_expression : List Str := ["_law_deck_here", "_law_names_here", "_law_deep"]
theorem sc_law_expression : FnScope N_law_expression P_law_expression (defScope s_law_expression) :=
  ⟨rfl, rfl, rfl, by decide +kernel, rfl, by decide +kernel, by decide +kernel⟩
theorem ok_law_expression (D : Df K mg "_law_expression" s_law_expression P_law_expression) (B : Blt mg)
    (G_law_draw : Has P w K mg base CX0 "_law_draw" ["_law_deck_here", "_law_many"] 1 spDraw) (G_law_one : Has P w K mg base CX0 "_law_one" ["_law_deck_here", "_law_items"] 2 (spOne K)) :
    ∀ m, 1 ≤ m → m ≤ 3 → Has P w K mg base CX0 "_law_expression" P_law_expression (m + 2) (spExN K m) := by
  intro m
  induction m with
  | zero => intro h; omega
  | succ m ih =>
    intro _ hm
    have Gx : ∃ sp, Has P w K mg base CX0 "_law_expression" P_law_expression (m + 2) sp ∧ (1 ≤ m → sp = spExN K m) := by
      by_cases h : 1 ≤ m
      · exact ⟨_, ih h (by omega), fun _ => rfl⟩
      · exact ⟨fun _ _ _ _ => False, (D.void fun _ _ _ _ h => h).mono (by omega), fun q => absurd q h⟩
    obtain ⟨sp, G_law_expression, hsp⟩ := Gx
    refine D.has sc_law_expression (fun vs H Q E h => ?_) (fun f cdv A outer s H vs Q E hr h => ?_)
    · obtain ⟨d, c, nm, n, xs, rfl, _⟩ := h
      rfl
    obtain ⟨d, c, nm, n, xs, rfl, Dk, hn, N, n1, n2, k⟩ := h
    have eD : eDraws (m + 1) = 3 + 2 * eDraws m := rfl
    have hE : eDraws m ≤ 21 := eDraws_le (by omega)
    have n0 := Dk.n0
    refine ⟨_, (pss_cons (ps_set (i := 3) sc_law_expression.nd rfl (Or.inl rfl) (pe_ifExp (pt_cmpR op_gt (pv 2) pe_int (nomark _)) (pe_f G_law_draw (hr.mono (by omega)) (by rfl) pass0 (pa_cons (pv 0) (pa_cons pe_int pa_nil))) (pe_f G_law_draw (hr.mono (by omega)) (by rfl) pass0 (pa_cons (pv 0) (pa_cons pe_int pa_nil)))))
      (pss_cons (ps_if (pt_cmpR op_eq (pv 3) pe_int (nomark _)) (pss_one (ps_ret (pe_f G_law_one (hr.mono (by omega)) (by rfl) pass0 (pa_cons (pv 0) (pa_cons (pe_lst (pa_cons pe_int (pa_cons pe_int (pa_cons pe_int (pa_cons (pe_un un_neg pe_int) (pa_cons pe_int (pa_cons (pe_un un_neg pe_int) (pa_cons pe_int (pa_cons (pe_un un_neg pe_int) (pa_cons (pe_op op_sub (pe_f G_law_draw (hr.mono (by omega)) (by rfl) pass0 (pa_cons (pv 0) (pa_cons pe_int pa_nil))) pe_int) pa_nil)))))))))) pa_nil)))))
        pss_nil)
      (pss_cons (ps_if (pt_cmpR op_lt (pv 3) pe_int (nomark _)) (pss_one (ps_ret (pe_f G_law_one (hr.mono (by omega)) (by rfl) pass0 (pa_cons (pv 0) (pa_cons (pv 1) pa_nil)))))
        pss_nil)
      (pss_cons (ps_if (pt_cmpR op_eq (pv 3) pe_int (nomark _)) (pss_cons (ps_set (i := 4) sc_law_expression.nd rfl (Or.inl rfl) (pe_f G_law_one (hr.mono (by omega)) (by rfl) pass0 (pa_cons (pv 0) (pa_cons (pe_lst (pa_cons (pe_un un_neg pe_int) (pa_cons (pe_un un_neg pe_int) (pa_cons (pe_un un_neg pe_int) (pa_cons (pe_un un_neg pe_int) (pa_cons (pe_un un_neg pe_int) (pa_cons pe_int (pa_cons pe_int (pa_cons pe_int (pa_cons pe_int pa_nil)))))))))) pa_nil))))
      (pss_one (ps_ret (pe_tup (pa_cons pe_str (pa_cons (pv 4) (pa_cons (pe_f G_law_expression (hr.mono (by omega)) (by rfl) pass0 (pa_cons (pv 0) (pa_cons (pv 1) (pa_cons (pe_op op_sub (pv 2) pe_int) pa_nil)))) pa_nil)))))))
        pss_nil)
      (pss_cons (ps_set (i := 5) sc_law_expression.nd rfl (Or.inl rfl) (pe_f G_law_expression (hr.mono (by omega)) (by rfl) pass0 (pa_cons (pv 0) (pa_cons (pv 1) (pa_cons (pe_op op_sub (pv 2) pe_int) pa_nil)))))
      (pss_one (ps_ret (pe_tup (pa_cons (pe_ix ix_list (pe_lst (pa_cons pe_str (pa_cons pe_str pa_nil))) (pe_op op_mod (pe_callTy c_int (by rfl) B.int (by decide +kernel) (pa_cons (pv 3) pa_nil)) pe_int) (fun _ _ => rfl)) (pa_cons (pv 5) (pa_cons (pe_f G_law_expression (hr.mono (by omega)) (by rfl) pass0 (pa_cons (pv 0) (pa_cons (pv 1) (pa_cons (pe_op op_sub (pv 2) pe_int) pa_nil)))) pa_nil))))))))))), ?_⟩
    walk_at "rdj"
    refine r_ifJ (fun v H1 => ∃ r : Int, v = .int r ∧ 0 ≤ r ∧ r < 7 ∧ (4 ≤ r → 1 ≤ m) ∧ Deck H1 d c (n + 1) ∧ Kp [d, c] H H1) (fun Q' kQ => ?_) ?_
    · walk_at "rd"
      refine ifd (fun c1 => ?_) (fun c1 => ?_)
      · walk_at "rd"
        refine spDraw.use Dk (by omega) (by omega) (by omega) fun H1 r r0 r1 D1 k1 => kQ _ _ ⟨r, rfl, r0, r1, fun _ => by omega, D1, k1⟩
      · walk_at "rd"
        refine spDraw.use Dk (by omega) (by omega) (by omega) fun H1 r r0 r1 D1 k1 => kQ _ _ ⟨r, rfl, r0, by omega, fun _ => by omega, D1, k1⟩
    rintro v H1 ⟨r, rfl, r0, r1, r4, D1, k1⟩
    have N1 := N.kp k1 (by simp [n1, n2])
    walk_at "rd"
    refine ifd (fun c1 => ?_) (fun c1 => ?_)
    · walk_at "rd"
      refine spDraw.use D1 (by omega) (by omega) (by omega) fun H2 z z0 z1 D2 k2 => ?_
      walk_at "rd"
      refine one_disp D2 (by omega) (by simp) (by simp) fun H3 x hx D3 k3 => ?_
      have hx' : ∃ t : Int, x = .int t ∧ -99 ≤ t ∧ t ≤ 99 := by
        simp only [List.mem_cons, List.not_mem_nil, or_false] at hx
        rcases hx with rfl | rfl | rfl | rfl | rfl | rfl | rfl | rfl | rfl <;> exact ⟨_, rfl, by omega, by omega⟩
      obtain ⟨t, rfl, t0, t1⟩ := hx'
      exact k H3 _ (.int t) _ D3 (by omega) (by omega) ((k1.trans k2).trans k3) (.int t) ⟨t0, t1⟩
    walk_at "rd"
    refine ifd (fun c2 => ?_) (fun c2 => ?_)
    · walk_at "rd"
      refine N1.one D1 (by omega) n1 n2 fun H2 y hy D2 k2 => ?_
      exact k H2 _ (.name y) _ D2 (by omega) (by omega) (k1.trans k2) (.str y) hy
    have m1 : 1 ≤ m := r4 (by omega)
    obtain rfl := hsp m1
    have em : (((m + 1 : Nat) : Int) - 1) = (m : Int) := by omega
    walk_at "rd"
    refine ifd (fun c3 => ?_) (fun c3 => ?_)
    · walk_at "rd"
      refine one_disp D1 (by omega) (by simp) (by simp) fun H2 x hx D2 k2 => ?_
      have hx' : ∃ t : Int, x = .int t ∧ -9 ≤ t ∧ t ≤ 9 := by
        simp only [List.mem_cons, List.not_mem_nil, or_false] at hx
        rcases hx with rfl | rfl | rfl | rfl | rfl | rfl | rfl | rfl | rfl <;> exact ⟨_, rfl, by omega, by omega⟩
      obtain ⟨t, rfl, t0, t1⟩ := hx'
      have N2 := N1.kp k2 (by simp [n1, n2])
      walk_at "rd"
      rw [em]
      refine ⟨d, c, nm, _, xs, rfl, D2, by omega, N2, n1, n2, fun H3 v e n3 D3 q1 q2 k3 hv he => ?_⟩
      walk_at "rd"
      refine ⟨by simp [sizeLine_eq], fun p hp => ?_⟩
      have k4 : Kp [] H3 (upd H3 p (.tup [.str "times", .int t, v])) := Kp.nil.new hp
      exact k _ _ (.bin "times" (.int t) e) n3 (D3.kp k4 (by simp) (by simp)) (by omega) (by omega) (((k1.trans k2).trans k3).new hp) (Dt.mk3 upd_same (.str _) (.int _) (hv.kp k4)) (Ex.vn_times t0 t1 he)
    · walk_at "rd"
      rw [em]
      refine ⟨d, c, nm, _, xs, rfl, D1, by omega, N1, n1, n2, fun H2 v e n2' D2 q1 q2 k2 hv he => ?_⟩
      have N2 := N1.kp k2 (by simp [n1, n2])
      have kk2 := k1.trans k2
      have c1' : r ≠ 0 := fun z => c1 (by rw [z])
      have c3' : r ≠ 6 := fun z => c3 (by rw [z])
      walk_at "rd"
      refine ⟨by decide, fun p hp => ?_⟩
      have k3 : Kp [] H2 (upd H2 p (.lst [.str "plus", .str "minus"])) := Kp.nil.new hp
      have D3 := D2.kp k3 (by simp) (by simp)
      have N3 := N2.kp k3 (by simp)
      have v3 := hv.kp k3
      have kk3 := kk2.new (o := .lst [.str "plus", .str "minus"]) hp
      have h3 : upd H2 p (.lst [.str "plus", .str "minus"]) p = some (.lst [.str "plus", .str "minus"]) := upd_same
      generalize upd H2 p (.lst [.str "plus", .str "minus"]) = H3 at k3 D3 N3 v3 h3 kk3 ⊢
      have hr45 : r = 4 ∨ r = 5 := by omega
      walk_at "rd"
      rotate_left
      · walk_at "sc"
      have hat : ∃ o : Str, atI [V.str "plus", V.str "minus"] (r % 2) = some (.str o) ∧ (o = "plus" ∨ o = "minus") := by
        rcases hr45 with rfl | rfl
        · exact ⟨"plus", rfl, .inl rfl⟩
        · exact ⟨"minus", rfl, .inr rfl⟩
      obtain ⟨o, hat, ho⟩ := hat
      refine r_ixL (SqL.of h3) hat ?_
      walk_at "rd"
      rw [em]
      refine ⟨d, c, nm, _, xs, rfl, D3, by omega, N3, n1, n2, fun H4 v2 e2 n4 D4 q3 q4 k4 hv2 he2 => ?_⟩
      walk_at "rd"
      refine ⟨by simp [sizeLine_eq], fun p6 hp6 => ?_⟩
      have k6 : Kp [] H4 (upd H4 p6 (.tup [.str o, v, v2])) := Kp.nil.new hp6
      exact k _ _ (.bin o e e2) n4 (D4.kp k6 (by simp) (by simp)) (by omega) (by omega) ((kk3.trans k4).new hp6) (Dt.mk3 upd_same (.str _) ((v3.kp k4).kp k6) (hv2.kp k6)) ⟨he2, .inr ⟨ho, he⟩⟩
abbrev s_law_test : Stmt := topS 51
abbrev N_law_test : List Str := ["_law_deck_here", "_law_names_here", "_law_left", "_law_times", "_law_nots", "_law_way", "_law_test_here", "_law_by", "_law_factor", "_law_inner", "_law_first", "_law_k"]
abbrev P_law_test : List Str := ["_law_deck_here", "_law_names_here", "_law_left", "_law_times"]
theorem sc_law_test : FnScope N_law_test P_law_test (defScope s_law_test) :=
  ⟨rfl, rfl, rfl, by decide +kernel, rfl, by decide +kernel, by decide +kernel⟩
theorem ok_law_test (D : Df K mg "_law_test" s_law_test P_law_test) (B : Blt mg)
    (G_law_draw : Has P w K mg base CX0 "_law_draw" ["_law_deck_here", "_law_many"] 1 spDraw) (G_law_one : Has P w K mg base CX0 "_law_one" ["_law_deck_here", "_law_items"] 2 (spOne K))
    (G_law_expression : Has P w K mg base CX0 "_law_expression" ["_law_deck_here", "_law_names_here", "_law_deep"] 5 (spExNA K)) :
    Has P w K mg base CX0 "_law_test" P_law_test 6 (spTsN K) := by
  refine D.has sc_law_test (fun vs H Q E h => ?_) (fun f cdv A outer s H vs Q E hr h => ?_)
  · obtain ⟨d, c, nm, l, n, ti, a, b, r, s, xs, rfl, _⟩ := h
    rfl
  obtain ⟨d, c, nm, l, n, ti, a, b, r, s, xs, rfl, Dk, hn, N, n1, n2, n3, l1, l2, hL, hr0, hs0, ht0, k⟩ := h
  have n0 := Dk.n0
  refine ⟨_, (pss_cons (ps_par (i := 4) (j := 5) (by rfl) sc_law_test.nd rfl rfl (by decide) rfl rfl (pa_cons (pe_op op_sub (pe_f G_law_draw (hr.mono (by omega)) (by rfl) pass0 (pa_cons (pv 0) (pa_cons pe_int pa_nil))) pe_int) (pa_cons (pe_f G_law_draw (hr.mono (by omega)) (by rfl) pass0 (pa_cons (pv 0) (pa_cons pe_int pa_nil))) pa_nil)) (by rfl))
      (pss_cons (ps_set (i := 6) sc_law_test.nd rfl (Or.inl rfl) (pe_tup (pa_cons pe_str (pa_cons (pe_f G_law_one (hr.mono (by omega)) (by rfl) pass0 (pa_cons (pv 0) (pa_cons (pv 1) pa_nil))) pa_nil))))
      (pss_cons (ps_if (PW.pt (pw_and (pt_cmpR op_lt (pv 5) pe_int (nomark _)) (pw_and1 (pt_cmpR op_ge (pe_ix ix_list (pv 2) pe_int (fun _ _ => rfl)) (pv 3) (nomark _))))) (pss_cons (ps_asg (pe_op op_sub (pe_ix ix_list (pv 2) pe_int (fun _ _ => rfl)) (pv 3)) (pg_sub (pv 2) pe_int set_list))
      (pss_cons (ps_set (i := 7) sc_law_test.nd rfl (Or.inl rfl) (pe_op op_add pe_int (pe_f G_law_draw (hr.mono (by omega)) (by rfl) pass0 (pa_cons (pv 0) (pa_cons pe_int pa_nil)))))
      (pss_cons (ps_set (i := 8) sc_law_test.nd rfl (Or.inl rfl) (pe_f G_law_one (hr.mono (by omega)) (by rfl) pass0 (pa_cons (pv 0) (pa_cons (pe_lst (pa_cons (pv 7) (pa_cons (pv 7) (pa_cons pe_int (pa_cons pe_int pa_nil))))) pa_nil))))
      (pss_cons (ps_set (i := 9) sc_law_test.nd rfl (Or.inl rfl) (pe_tup (pa_cons pe_str (pa_cons (pv 8) (pa_cons (pe_f G_law_expression (hr.mono (by omega)) (by rfl) pass0 (pa_cons (pv 0) (pa_cons (pv 1) (pa_cons pe_int pa_nil)))) pa_nil)))))
      (pss_one (ps_set (i := 6) sc_law_test.nd rfl (Or.inl rfl) (pe_tup (pa_cons pe_str (pa_cons (pv 9) (pa_cons (pv 7) (pa_cons (pe_f G_law_draw (hr.mono (by omega)) (by rfl) pass0 (pa_cons (pv 0) (pa_cons (pv 7) pa_nil))) pa_nil)))))))))))
        (pss_one (ps_if (PW.pt (pw_and (pt_cmpR op_lt (pv 5) pe_int (nomark _)) (pw_and1 (pt_cmpR op_ge (pe_ix ix_list (pv 2) pe_int (fun _ _ => rfl)) (pv 3) (nomark _))))) (pss_cons (ps_asg (pe_op op_sub (pe_ix ix_list (pv 2) pe_int (fun _ _ => rfl)) (pv 3)) (pg_sub (pv 2) pe_int set_list))
      (pss_cons (ps_set (i := 10) sc_law_test.nd rfl (Or.inl rfl) (pe_f G_law_one (hr.mono (by omega)) (by rfl) pass0 (pa_cons (pv 0) (pa_cons (pe_lst (pa_cons pe_str (pa_cons (pe_f G_law_expression (hr.mono (by omega)) (by rfl) pass0 (pa_cons (pv 0) (pa_cons (pv 1) (pa_cons pe_int pa_nil)))) pa_nil))) pa_nil))))
      (pss_one (ps_set (i := 6) sc_law_test.nd rfl (Or.inl rfl) (pe_tup (pa_cons pe_str (pa_cons (pv 10) (pa_cons (pe_op op_sub (pe_f G_law_draw (hr.mono (by omega)) (by rfl) pass0 (pa_cons (pv 0) (pa_cons pe_int pa_nil))) pe_int) pa_nil))))))))
        pss_nil)))
      (pss_cons (ps_for PassesOwn.never rfl (pi_range1 (by rfl) B.range (pa_cons (pe_ifExp (pt_cmpR op_gt (pv 4) pe_int (nomark _)) (pv 4) pe_int) pa_nil)) (pg_name (i := 11) sc_law_test.nd rfl (Or.inl rfl))
        (pss_one (ps_set (i := 6) sc_law_test.nd rfl (Or.inl rfl) (pe_tup (pa_cons pe_str (pa_cons (pv 6) pa_nil))))))
      (pss_one (ps_ret (pv 6))))))), ?_⟩
  have ls3 : Kp [d, c, l] H H := Kp.refl (Dk.ls3 hL)
  walk_at "rd"
  refine spDraw.use Dk (by omega) (by omega) (by omega) fun H1 u u0 u1 D1 k1 => ?_
  have L1 : Lft H1 l a b r s := k1.get hL (by simp [l1, l2])
  have kk1 := ls3.trans (k1.sub (Dk.ls3 hL) (by simp))
  walk_at "rd"
  refine spDraw.use D1 (by omega) (by omega) (by omega) fun H2 y y0 y1 D2 k2 => ?_
  have L2 : Lft H2 l a b r s := k2.get L1 (by simp [l1, l2])
  have kk2 := kk1.trans (k2.sub (D1.ls3 L1) (by simp))
  have N2 := N.kp kk2 (by simp [n1, n2, n3])
  walk_at "rd"
  refine N2.one D2 (by omega) n1 n2 fun H3 z hz D3 k3 => ?_
  have L3 : Lft H3 l a b r s := k3.get L2 (by simp [l1, l2])
  have kk3 := kk2.trans (k3.sub (D2.ls3 L2) (by simp))
  walk_at "rd"
  refine ⟨by simp [sizeLine_eq], fun p4 hp4 => ?_⟩
  have k4 : Kp [] H3 (upd H3 p4 (.tup [.str "given", .str z])) := Kp.nil.new hp4
  have D4 := D3.kp k4 (by simp) (by simp)
  have L4 : Lft (upd H3 p4 (.tup [.str "given", .str z])) l a b r s := k4.get L3 (by simp)
  have kk4 := kk3.new (o := .tup [.str "given", .str z]) hp4
  have v4 : Dt K (upd H3 p4 (.tup [.str "given", .str z])) (.ref p4) (Ts.given z).d := Dt.mk2 upd_same (.str _) (.str _)
  generalize upd H3 p4 (.tup [.str "given", .str z]) = H4 at k4 D4 L4 kk4 v4 ⊢
  have N4 := N.kp kk4 (by simp [n1, n2, n3])
  clear kk1 kk2 kk3 k1 k2 k3 k4 D1 D2 D3 L1 L2 L3 N2 hp4
  have o0 : ∀ so : Str, so ≠ "given" → (Ts.given z).one so = 0 := fun so h => if_neg (Ne.symm h)
  have g1 := o0 "rest" (by decide +kernel)
  have g2 := o0 "less" (by decide +kernel)
  walk_at "rds"
  with_reducible refine r_seqJ (fun σ H' => ∃ (v : V) (t : Ts) (n' r' s' : Int) (x7 x8 x9 x10 : Option V), σ = [some (.ref d), some (.ref nm), some (.ref l), some (.int ti), some (.int (u - 2)), some (.int y), some v, x7, x8, x9, x10, none] ∧ Deck H' d c n' ∧ n ≤ n' ∧ n' ≤ n + 50 ∧
    Lft H' l a b r' s' ∧ 0 ≤ r' ∧ 0 ≤ s' ∧ r' = r - ti * t.one "rest" ∧ s' = s - ti * t.one "less" ∧ Kp [d, c, l] H H' ∧ Dt K H' v t.d ∧ t.vn xs 0 ∧ t.lo) (fun nx' kn => ?_) ?_
  · have give : ∀ σ, σ = [some (.ref d), some (.ref nm), some (.ref l), some (.int ti), some (.int (u - 2)), some (.int y), some (.ref p4), none, none, none, none, none] → nx' σ H4 := fun σ e =>
      kn _ _ ⟨_, .given z, _, r, s, none, none, none, none, e, D4, by omega, by omega, L4, hr0, hs0, by rw [g1]; omega, by rw [g2]; omega, kk4, v4, hz, trivial⟩
    have L4' := L4
    unfold Lft at L4'
    walk_at "rd"
    refine ite2 (fun c1 => ?_) (fun c1 => ?_)
    all_goals simp only [Bool.and_eq_true, decide_eq_true_eq, not_and] at c1
    · walk_at "rd"
      have k5 := kpW (o := .lst ([V.int a, V.int b, V.int r, V.int s].set (Int.toNat 2) (V.int (r - ti)))) L4'
      have D5 := D4.kp k5 (by simp [Ne.symm l1]) (by simp [Ne.symm l2])
      have kk5 : Kp [d, c, l] H (upd H4 l (.lst ([V.int a, V.int b, V.int r, V.int s].set (Int.toNat 2) (V.int (r - ti))))) := kk4.write (by simp)
      have L5 : Lft (upd H4 l (.lst ([V.int a, V.int b, V.int r, V.int s].set (Int.toNat 2) (V.int (r - ti))))) l a b (r - ti) s := upd_same
      generalize upd H4 l (.lst ([V.int a, V.int b, V.int r, V.int s].set (Int.toNat 2) (V.int (r - ti)))) = H5 at k5 D5 kk5 L5 ⊢
      clear k5 L4' L4 D4 v4 N4 kk4 give
      refine spDraw.use D5 (by omega) (by omega) (by omega) fun H6 w w0 w1 D6 k6 => ?_
      have L6 : Lft H6 l a b (r - ti) s := k6.get L5 (by simp [l1, l2])
      have kk6 := kk5.trans (k6.sub (D5.ls3 L5) (by simp))
      walk_at "rd"
      refine one_disp D6 (by omega) (by simp) (by simp) fun H7 x hx D7 k7 => ?_
      have hx' : ∃ t : Int, x = .int t ∧ -9 ≤ t ∧ t ≤ 9 := by
        simp only [List.mem_cons, List.not_mem_nil, or_false] at hx
        rcases hx with rfl | rfl | rfl | rfl <;> exact ⟨_, rfl, by omega, by omega⟩
      obtain ⟨t, rfl, t0, t1⟩ := hx'
      have L7 : Lft H7 l a b (r - ti) s := k7.get L6 (by simp [l1, l2])
      have kk7 := kk6.trans (k7.sub (D6.ls3 L6) (by simp))
      have N7 := N.kp kk7 (by simp [n1, n2, n3])
      walk_at "rd"
      refine spExNA.use 2 D7 (by omega) N7 n1 n2 rfl (by omega) (by omega) fun H8 v e n8 D8 q1 q2 k8 hv he => ?_
      have L8 : Lft H8 l a b (r - ti) s := k8.get L7 (by simp [l1, l2])
      have kk8 := kk7.trans (k8.sub (D7.ls3 L7) (by simp))
      walk_at "rd"
      refine ⟨by simp [sizeLine_eq], fun p9 hp9 => ?_⟩
      have k9 : Kp [] H8 (upd H8 p9 (.tup [.str "times", .int t, v])) := Kp.nil.new hp9
      have D9 := D8.kp k9 (by simp) (by simp)
      have L9 : Lft (upd H8 p9 (.tup [.str "times", .int t, v])) l a b (r - ti) s := k9.get L8 (by simp)
      have kk9 := kk8.new (o := .tup [.str "times", .int t, v]) hp9
      have v9 : Dt K (upd H8 p9 (.tup [.str "times", .int t, v])) (.ref p9) (Ex.bin "times" (.int t) e).d := Dt.mk3 upd_same (.str _) (.int _) (hv.kp k9)
      have e9 : (Ex.bin "times" (.int t) e).vn xs 3 := Ex.vn_times t0 t1 he
      generalize upd H8 p9 (.tup [.str "times", .int t, v]) = H9 at k9 D9 L9 kk9 v9 ⊢
      clear k6 k7 k8 k9 D5 D6 D7 D8 L5 L6 L7 L8 kk5 kk6 kk7 kk8 hv N7 hp9
      walk_at "rd"
      refine spDraw.use D9 (by omega) (by omega) (by omega) fun Ha q q0 q1' Da ka => ?_
      have La : Lft Ha l a b (r - ti) s := ka.get L9 (by simp [l1, l2])
      have kka := kk9.trans (ka.sub (D9.ls3 L9) (by simp))
      walk_at "rd"
      refine ⟨by simp [sizeLine_eq], fun pb hpb => ?_⟩
      have kb : Kp [] Ha (upd Ha pb (.tup [.str "rest", .ref p9, .int (2 + w), .int q])) := Kp.nil.new hpb
      walk_at "rd"
      have o1 : (Ts.rest (.bin "times" (.int t) e) (2 + w) q).one "rest" = 1 := if_pos rfl
      have o2 : (Ts.rest (.bin "times" (.int t) e) (2 + w) q).one "less" = 0 := if_neg (show ¬ ("rest" : Str) = "less" by decide +kernel)
      refine kn _ _ ⟨_, .rest (.bin "times" (.int t) e) (2 + w) q, _, r - ti, s, _, _, _, _, rfl, Da.kp kb (by simp) (by simp), by omega, by omega, kb.get La (by simp), by omega, hs0, by rw [o1]; omega, by rw [o2]; omega, kka.new hpb, ?_, ⟨e9, by omega, by omega, by omega, by omega⟩, trivial⟩
      exact Dt.mk4 upd_same (.str _) ((v9.kp ka).kp kb) (.int _) (.int _)
    walk_at "rd"
    refine ite2 (fun c2 => ?_) (fun c2 => ?_)
    all_goals simp only [Bool.and_eq_true, decide_eq_true_eq, not_and] at c2
    · walk_at "rd"
      have k5 := kpW (o := .lst ([V.int a, V.int b, V.int r, V.int s].set (Int.toNat 3) (V.int (s - ti)))) L4'
      have D5 := D4.kp k5 (by simp [Ne.symm l1]) (by simp [Ne.symm l2])
      have kk5 : Kp [d, c, l] H (upd H4 l (.lst ([V.int a, V.int b, V.int r, V.int s].set (Int.toNat 3) (V.int (s - ti))))) := kk4.write (by simp)
      have L5 : Lft (upd H4 l (.lst ([V.int a, V.int b, V.int r, V.int s].set (Int.toNat 3) (V.int (s - ti))))) l a b r (s - ti) := upd_same
      generalize upd H4 l (.lst ([V.int a, V.int b, V.int r, V.int s].set (Int.toNat 3) (V.int (s - ti)))) = H5 at k5 D5 kk5 L5 ⊢
      have N5 := N.kp kk5 (by simp [n1, n2, n3])
      clear k5 L4' L4 D4 v4 N4 kk4 give
      refine spExNA.use 2 D5 (by omega) N5 n1 n2 rfl (by omega) (by omega) fun H6 v e n6 D6 q1 q2 k6 hv he => ?_
      have L6 : Lft H6 l a b r (s - ti) := k6.get L5 (by simp [l1, l2])
      have kk6 := kk5.trans (k6.sub (D5.ls3 L5) (by simp))
      walk_at "rd"
      refine one_disp D6 (by omega) (by simp) (by simp) fun H7 x hx D7 k7 => ?_
      have hx' : ∃ e : Ex, Dt K H7 x e.d ∧ e.vn xs 2 := by
        simp only [List.mem_cons, List.not_mem_nil, or_false] at hx
        rcases hx with rfl | rfl
        · exact ⟨.name "n", .str _, N.nn⟩
        · exact ⟨e, hv.kp k7, he⟩
      obtain ⟨e1, hx1, he1⟩ := hx'
      have L7 : Lft H7 l a b r (s - ti) := k7.get L6 (by simp [l1, l2])
      have kk7 := kk6.trans (k7.sub (D6.ls3 L6) (by simp))
      walk_at "rd"
      refine spDraw.use D7 (by omega) (by omega) (by omega) fun H8 q q0 q1' D8 k8 => ?_
      have L8 : Lft H8 l a b r (s - ti) := k8.get L7 (by simp [l1, l2])
      have kk8 := kk7.trans (k8.sub (D7.ls3 L7) (by simp))
      walk_at "rd"
      refine ⟨by simp [sizeLine_eq], fun pb hpb => ?_⟩
      have kb : Kp [] H8 (upd H8 pb (.tup [.str "less", x, .int (q - 20)])) := Kp.nil.new hpb
      walk_at "rd"
      have o1 : (Ts.less e1 (.int (q - 20))).one "less" = 1 := if_pos rfl
      have o2 : (Ts.less e1 (.int (q - 20))).one "rest" = 0 := if_neg (show ¬ ("less" : Str) = "rest" by decide +kernel)
      refine kn _ _ ⟨_, .less e1 (.int (q - 20)), _, r, s - ti, _, _, _, _, rfl, D8.kp kb (by simp) (by simp), by omega, by omega, kb.get L8 (by simp), hr0, by omega, by rw [o2]; omega, by rw [o1]; omega, kk8.new hpb, ?_, ⟨he1.succ, Ex.vn_int (by omega) (by omega) (by omega)⟩, he1.vd, Ex.vd_int (by omega) (by omega) (by omega)⟩
      exact Dt.mk3 upd_same (.str _) ((hx1.kp k8).kp kb) (.int _)
    · walk_at "rd"
      exact give _ rfl
  rintro σ H5 ⟨v5, t5, n5, r5, s5, x7, x8, x9, x10, rfl, D5, q1, q2, L5, r50, s50, er, es, kk5, hv5, ht5, hlo5⟩
  clear L4 D4 v4 N4 kk4
  walk_at "rdj"
  refine r_ifJ (fun v H6 => v = .int (if u - 2 > 0 then u - 2 else 0) ∧ H6 = H5) (fun Q' kQ => ?_) ?_
  · walk_at "rd"
    refine ifd (fun c1 => ?_) (fun c1 => ?_)
    · walk_at "rd"
      refine kQ _ _ ⟨?_, rfl⟩
      rw [if_pos c1]
    · walk_at "rd"
      refine kQ _ _ ⟨?_, rfl⟩
      rw [if_neg c1]
  rintro v H6 ⟨rfl, rfl⟩
  generalize hw : (if u - 2 > 0 then u - 2 else 0) = w
  have hw2 : 0 ≤ w ∧ w ≤ 2 := by
    rw [← hw]
    split <;> omega
  walk_at "rd"
  refine r_ForR (fun i σ H' => ∃ (v : V) (t : Ts) (kx : Option V), σ = [some (.ref d), some (.ref nm), some (.ref l), some (.int ti), some (.int (u - 2)), some (.int y), some v, x7, x8, x9, x10, kx] ∧ Kp [] H6 H' ∧ Dt K H' v t.d ∧ t.one "rest" = t5.one "rest" ∧ t.one "less" = t5.one "less" ∧ t.vn xs i ∧ t.lo)
    (by omega) (by omega) ⟨_, t5, _, rfl, Kp.nil, hv5, rfl, rfl, ht5, hlo5⟩ ?_ ?_
  · rintro i σ H9 hi ⟨v, t, kx, rfl, k9, hv, o1, o2, ht, hlo⟩
    walk_at "rd"
    refine ⟨by simp [sizeLine_eq], fun pa hpa => ?_⟩
    have ka : Kp [] H9 (upd H9 pa (.tup [.str "not", v])) := Kp.nil.new hpa
    walk_at "rd"
    exact ⟨_, .not t, _, rfl, k9.new hpa, Dt.mk2 upd_same (.str _) (hv.kp ka), o1, o2, ht, hlo⟩
  · rintro σ H9 ⟨v, t, kx, rfl, k9, hv, o1, o2, ht, hlo⟩
    walk_at "rd"
    exact k _ _ t _ r5 s5 (D5.kp k9 (by simp) (by simp)) (by omega) (by omega) (k9.get L5 (by simp)) r50 s50 (by rw [o1]; exact er) (by rw [o2]; exact es) (kk5.trans (k9.sub (D5.ls3 L5) (by simp))) hv (ht.mono (by omega)) hlo
abbrev s_law_plain : Stmt := topS 52
abbrev N_law_plain : List Str := ["_law_deck_here", "_law_names_here", "_law_way", "_law_name"]
abbrev P_law_plain : List Str := ["_law_deck_here", "_law_names_here"]
theorem sc_law_plain : FnScope N_law_plain P_law_plain (defScope s_law_plain) :=
  ⟨rfl, rfl, rfl, by decide +kernel, rfl, by decide +kernel, by decide +kernel⟩
theorem ok_law_plain (D : Df K mg "_law_plain" s_law_plain P_law_plain) (B : Blt mg)
    (G_law_draw : Has P w K mg base CX0 "_law_draw" ["_law_deck_here", "_law_many"] 1 spDraw) (G_law_one : Has P w K mg base CX0 "_law_one" ["_law_deck_here", "_law_items"] 2 (spOne K))
    (G_law_expression : Has P w K mg base CX0 "_law_expression" ["_law_deck_here", "_law_names_here", "_law_deep"] 5 (spExNA K)) :
    Has P w K mg base CX0 "_law_plain" P_law_plain 6 (spPlN K) := by
  refine D.has sc_law_plain (fun vs H Q E h => ?_) (fun f cdv A outer s H vs Q E hr h => ?_)
  · obtain ⟨d, c, nm, n, xs, rfl, _⟩ := h
    rfl
  obtain ⟨d, c, nm, n, xs, rfl, Dk, hn, N, n1, n2, k⟩ := h
  have n0 := Dk.n0
  refine ⟨_, (pss_cons (ps_par (i := 2) (j := 3) (by rfl) sc_law_plain.nd rfl rfl (by decide) rfl rfl (pa_cons (pe_f G_law_draw (hr.mono (by omega)) (by rfl) pass0 (pa_cons (pv 0) (pa_cons pe_int pa_nil))) (pa_cons (pe_f G_law_one (hr.mono (by omega)) (by rfl) pass0 (pa_cons (pv 0) (pa_cons (pv 1) pa_nil))) pa_nil)) (by rfl))
      (pss_cons (ps_if (pt_cmpR op_lt (pv 2) pe_int (nomark _)) (pss_one (ps_ret (pe_tup (pa_cons pe_str (pa_cons (pv 3) (pa_cons (pe_f G_law_expression (hr.mono (by omega)) (by rfl) pass0 (pa_cons (pv 0) (pa_cons (pv 1) (pa_cons pe_int pa_nil)))) pa_nil))))))
        pss_nil)
      (pss_cons (ps_if (pt_cmpR op_eq (pv 2) pe_int (nomark _)) (pss_one (ps_ret (pe_tup (pa_cons pe_str (pa_cons (pv 3) (pa_cons (pv 3) pa_nil))))))
        pss_nil)
      (pss_cons (ps_if (pt_cmpR op_eq (pv 2) pe_int (nomark _)) (pss_one (ps_ret (pe_tup (pa_cons pe_str (pa_cons (pv 3) pa_nil)))))
        pss_nil)
      (pss_cons (ps_if (pt_cmpR op_eq (pv 2) pe_int (nomark _)) (pss_one (ps_ret (pe_tup (pa_cons pe_str (pa_cons (pe_f G_law_one (hr.mono (by omega)) (by rfl) pass0 (pa_cons (pv 0) (pa_cons (pe_lst (pa_cons pe_str (pa_cons pe_str (pa_cons pe_str (pa_cons pe_str pa_nil))))) pa_nil))) pa_nil)))))
        pss_nil)
      (pss_cons (ps_if (PW.pt (pw_and (pt_cmpR op_eq (pv 2) pe_int (nomark _)) (pw_and1 (pt_cmpR op_eq (pe_f G_law_draw (hr.mono (by omega)) (by rfl) pass0 (pa_cons (pv 0) (pa_cons pe_int pa_nil))) pe_int (nomark _))))) (pss_one (ps_ret (pe_tup (pa_cons pe_str (pa_cons (pe_f G_law_one (hr.mono (by omega)) (by rfl) pass0 (pa_cons (pv 0) (pa_cons (pe_lst (pa_cons pe_str (pa_cons pe_str (pa_cons pe_str pa_nil)))) pa_nil))) pa_nil)))))
        pss_nil)
      (pss_one (ps_ret (pe_tup (pa_cons pe_str (pa_cons (pe_f G_law_expression (hr.mono (by omega)) (by rfl) pass0 (pa_cons (pv 0) (pa_cons (pv 1) (pa_cons pe_int pa_nil)))) pa_nil))))))))))), ?_⟩
  walk_at "rd"
  refine spDraw.use Dk (by omega) (by omega) (by omega) fun H1 r r0 r1 D1 k1 => ?_
  have N1 := N.kp k1 (by simp [n1, n2])
  walk_at "rd"
  refine N1.one D1 (by omega) n1 n2 fun H2 y hy D2 k2 => ?_
  have N2 := N1.kp k2 (by simp [n1, n2])
  have kk2 := k1.trans k2
  walk_at "rd"
  refine ifd (fun c1 => ?_) (fun c1 => ?_)
  · walk_at "rd"
    refine spExNA.use 3 D2 (by omega) N2 n1 n2 rfl (by omega) (by omega) fun H3 v e n3 D3 q1 q2 k3 hv he => ?_
    walk_at "rd"
    refine ⟨by simp [sizeLine_eq], fun p hp => ?_⟩
    have k4 : Kp [] H3 (upd H3 p (.tup [.str "set", .str y, v])) := Kp.nil.new hp
    exact k _ _ (.set y e) n3 (D3.kp k4 (by simp) (by simp)) (by omega) (by omega) ((kk2.trans k3).new hp) (Dt.mk3 upd_same (.str _) (.str _) (hv.kp k4)) ⟨hy, he⟩
  walk_at "rd"
  refine ifd (fun c2 => ?_) (fun c2 => ?_)
  · walk_at "rd"
    refine ⟨by simp [sizeLine_eq], fun p hp => ?_⟩
    have k4 : Kp [] H2 (upd H2 p (.tup [.str "set", .str y, .str y])) := Kp.nil.new hp
    exact k _ _ (.set y (.name y)) _ (D2.kp k4 (by simp) (by simp)) (by omega) (by omega) (kk2.new hp) (Dt.mk3 upd_same (.str _) (.str _) (.str _)) ⟨hy, hy⟩
  walk_at "rd"
  refine ifd (fun c3 => ?_) (fun c3 => ?_)
  · walk_at "rd"
    refine ⟨by simp [sizeLine_eq], fun p hp => ?_⟩
    have k4 : Kp [] H2 (upd H2 p (.tup [.str "unset", .str y])) := Kp.nil.new hp
    exact k _ _ (.unset y) _ (D2.kp k4 (by simp) (by simp)) (by omega) (by omega) (kk2.new hp) (Dt.mk2 upd_same (.str _) (.str _)) hy
  walk_at "rd"
  refine ifd (fun c4 => ?_) (fun c4 => ?_)
  · walk_at "rd"
    refine one_disp D2 (by omega) (by simp) (by simp) fun H3 x hx D3 k3 => ?_
    have hx' : ∃ z : Str, x = .str z ∧ isWordS z = true := by
      simp only [List.mem_cons, List.not_mem_nil, or_false] at hx
      rcases hx with rfl | rfl | rfl | rfl <;> exact ⟨_, rfl, by decide +kernel⟩
    obtain ⟨z, rfl, hz⟩ := hx'
    walk_at "rd"
    refine ⟨by simp [sizeLine_eq], fun p hp => ?_⟩
    have k4 : Kp [] H3 (upd H3 p (.tup [.str "say", .str z])) := Kp.nil.new hp
    exact k _ _ (.say z) _ (D3.kp k4 (by simp) (by simp)) (by omega) (by omega) ((kk2.trans k3).new hp) (Dt.mk2 upd_same (.str _) (.str _)) hz
  have last : ∀ (H3 : Hp) (n3 : Int), Deck H3 d c n3 → n ≤ n3 → n3 ≤ n + 4 → Kp [d, c] H H3 → spExNA K [.ref d, .ref nm, .int 3] H3 (fun v H4 => [V.str "tell", v].length ≤ sizeLine ∧ ∀ p, H4 p = none → Q (.ref p) (upd H4 p (.tup [.str "tell", v]))) E0 := by
    intro H3 n3 D3 q1 q2 k3
    refine spExNA.use 3 D3 (by omega) (N.kp k3 (by simp [n1, n2])) n1 n2 rfl (by omega) (by omega) fun H4 v e n4 D4 q3 q4 k4 hv he => ?_
    refine ⟨by simp [sizeLine_eq], fun p hp => ?_⟩
    have k5 : Kp [] H4 (upd H4 p (.tup [.str "tell", v])) := Kp.nil.new hp
    exact k _ _ (.tell e) n4 (D4.kp k5 (by simp) (by simp)) (by omega) (by omega) ((k3.trans k4).new hp) (Dt.mk2 upd_same (.str _) (hv.kp k5)) he
  walk_at "rd"
  refine ifd (fun c5 => ?_) (fun c5 => ?_)
  · walk_at "rd"
    refine spDraw.use D2 (by omega) (by omega) (by omega) fun H3 z z0 z1 D3 k3 => ?_
    walk_at "rd"
    refine ifd (fun c6 => ?_) (fun c6 => ?_)
    · walk_at "rd"
      refine one_disp D3 (by omega) (by simp) (by simp) fun H4 x hx D4 k4 => ?_
      have hx' : ∃ z : Str, x = .str z ∧ isWordS z = true := by
        simp only [List.mem_cons, List.not_mem_nil, or_false] at hx
        rcases hx with rfl | rfl | rfl <;> exact ⟨_, rfl, by decide +kernel⟩
      obtain ⟨z, rfl, hz⟩ := hx'
      walk_at "rd"
      refine ⟨by simp [sizeLine_eq], fun p hp => ?_⟩
      have k5 : Kp [] H4 (upd H4 p (.tup [.str "stop", .str z])) := Kp.nil.new hp
      exact k _ _ (.stop z) _ (D4.kp k5 (by simp) (by simp)) (by omega) (by omega) (((kk2.trans k3).trans k4).new hp) (Dt.mk2 upd_same (.str _) (.str _)) hz
    · walk_at "rd"
      exact last _ _ D3 (by omega) (by omega) (kk2.trans k3)
  · walk_at "rd"
    exact last _ _ D2 (by omega) (by omega) kk2
abbrev s_law_row : Stmt := topS 53
abbrev N_law_row : List Str := ["_law_deck_here", "_law_names_here", "_law_left", "_law_times", "_law_depth", "_law_way", "_law_test_here", "_law_yes", "_law_no", "_law_again", "_law_block_here"]
abbrev P_law_row : List Str := ["_law_deck_here", "_law_names_here", "_law_left", "_law_times", "_law_depth"]
theorem sc_law_row : FnScope N_law_row P_law_row (defScope s_law_row) :=
  ⟨rfl, rfl, rfl, by decide +kernel, rfl, by decide +kernel, by decide +kernel⟩
theorem ok_law_row (D : Df K mg "_law_row" s_law_row P_law_row) (B : Blt mg) {e lv : Nat} (hlv : 6 ≤ lv)
    (G_law_draw : Has P w K mg base CX0 "_law_draw" ["_law_deck_here", "_law_many"] 1 spDraw) (G_law_one : Has P w K mg base CX0 "_law_one" ["_law_deck_here", "_law_items"] 2 (spOne K))
    (G_law_test : Has P w K mg base CX0 "_law_test" ["_law_deck_here", "_law_names_here", "_law_left", "_law_times"] 6 (spTsN K))
    (G_law_plain : Has P w K mg base CX0 "_law_plain" ["_law_deck_here", "_law_names_here"] 6 (spPlN K))
    (G_law_block : Has P w K mg base CX0 "_law_block" ["_law_deck_here", "_law_names_here", "_law_left", "_law_times", "_law_depth"] lv (spBlN K e)) :
    Has P w K mg base CX0 "_law_row" P_law_row (lv + 1) (spRowN K e) := by
  refine D.has sc_law_row (fun vs H Q E h => ?_) (fun f cdv A outer s H vs Q E hr h => ?_)
  · obtain ⟨d, c, nm, l, n, ti, dep, a, b, r, s, xs, rfl, _⟩ := h
    rfl
  obtain ⟨d, c, nm, l, n, ti, dep, a, b, r, s, xs, rfl, Dk, hn, N, n1, n2, n3, l1, l2, hL, ha, hb, hr0, hs0, ha1, ht0, hdep, k⟩ := h
  have n0 := Dk.n0
  refine ⟨_, (pss_cons (ps_if (PW.pt (pw_or (pt_cmpR op_lt (pe_ix ix_list (pv 2) pe_int (fun _ _ => rfl)) pe_int (nomark _)) (pw_or1 (pt_cmpR op_lt (pe_ix ix_list (pv 2) pe_int (fun _ _ => rfl)) (pv 3) (nomark _))))) (pss_one (ps_ret (pe_tup pa_nil)))
        pss_nil)
      (pss_cons (ps_asg (pe_tup (pa_cons (pe_op op_sub (pe_ix ix_list (pv 2) pe_int (fun _ _ => rfl)) pe_int) (pa_cons (pe_op op_sub (pe_ix ix_list (pv 2) pe_int (fun _ _ => rfl)) (pv 3)) pa_nil))) (pg_tup rfl (pgs_cons (pg_sub (pv 2) pe_int set_list) (pgs_cons (pg_sub (pv 2) pe_int set_list) pgs_nil))))
      (pss_cons (ps_set (i := 5) sc_law_row.nd rfl (Or.inl rfl) (pe_f G_law_draw (hr.mono (by omega)) (by rfl) pass0 (pa_cons (pv 0) (pa_cons pe_int pa_nil))))
      (pss_cons (ps_if (pt_cmpR op_eq (pv 5) pe_int (nomark _)) (pss_cons (ps_set (i := 6) sc_law_row.nd rfl (Or.inl rfl) (pe_f G_law_test (hr.mono (by omega)) (by rfl) pass0 (pa_cons (pv 0) (pa_cons (pv 1) (pa_cons (pv 2) (pa_cons (pv 3) pa_nil))))))
      (pss_cons (ps_set (i := 7) sc_law_row.nd rfl (Or.inl rfl) (pe_f G_law_block (hr.mono (by omega)) (by rfl) pass0 (pa_cons (pv 0) (pa_cons (pv 1) (pa_cons (pv 2) (pa_cons (pv 3) (pa_cons (pe_op op_add (pv 4) pe_int) pa_nil)))))))
      (pss_cons (ps_set (i := 8) sc_law_row.nd rfl (Or.inl rfl) (pe_f G_law_block (hr.mono (by omega)) (by rfl) pass0 (pa_cons (pv 0) (pa_cons (pv 1) (pa_cons (pv 2) (pa_cons (pv 3) (pa_cons (pe_op op_add (pv 4) pe_int) pa_nil)))))))
      (pss_one (ps_ret (pe_tup (pa_cons pe_str (pa_cons (pv 6) (pa_cons (pv 7) (pa_cons (pv 8) pa_nil))))))))))
        pss_nil)
      (pss_cons (ps_if (pt_cmpR op_eq (pv 5) pe_int (nomark _)) (pss_cons (ps_set (i := 9) sc_law_row.nd rfl (Or.inl rfl) (pe_f G_law_one (hr.mono (by omega)) (by rfl) pass0 (pa_cons (pv 0) (pa_cons (pe_lst (pa_cons pe_int (pa_cons pe_int (pa_cons pe_int (pa_cons pe_int (pa_cons pe_int (pa_cons pe_int (pa_cons pe_int pa_nil)))))))) pa_nil))))
      (pss_cons (ps_set (i := 10) sc_law_row.nd rfl (Or.inl rfl) (pe_f G_law_block (hr.mono (by omega)) (by rfl) pass0 (pa_cons (pv 0) (pa_cons (pv 1) (pa_cons (pv 2) (pa_cons (pe_op op_mul (pv 3) (pv 9)) (pa_cons (pe_op op_add (pv 4) pe_int) pa_nil)))))))
      (pss_one (ps_ret (pe_tup (pa_cons pe_str (pa_cons (pv 9) (pa_cons (pv 10) pa_nil))))))))
        pss_nil)
      (pss_one (ps_ret (pe_f G_law_plain (hr.mono (by omega)) (by rfl) pass0 (pa_cons (pv 0) (pa_cons (pv 1) pa_nil)))))))))), ?_⟩
  have hL' := hL
  unfold Lft at hL'
  have ls3 : Kp [d, c, l] H H := Kp.refl (Dk.ls3 hL)
  walk_at "rd"
  refine ite2 (fun c1 => ?_) (fun c1 => ?_)
  all_goals simp only [Bool.or_eq_true, decide_eq_true_eq, not_or] at c1
  · walk_at "rd"
    refine ⟨by decide, fun p hp => ?_⟩
    have k1 : Kp [] H (upd H p (.tup [])) := Kp.nil.new hp
    exact k _ _ [] _ a b r s (Dk.kp k1 (by simp) (by simp)) (by omega) (by omega) (k1.get hL (by simp)) ha hb hr0 hs0 (by simp) Took.nil (ls3.new hp) (Dt.mk0 upd_same) (fun _ h => nomatch h)
  walk_at "rd"
  refine ⟨by simp [sizeLine_eq], fun p1 hp1 => ?_⟩
  have k1 : Kp [] H (upd H p1 (.tup [.int (a - 1), .int (b - ti)])) := Kp.nil.new hp1
  have D1 := Dk.kp k1 (by simp) (by simp)
  have kk1 : Kp [d, c, l] H (upd H p1 (.tup [.int (a - 1), .int (b - ti)])) := ls3.new hp1
  have L1 := k1.get hL' (by simp)
  have t1 : upd H p1 (.tup [.int (a - 1), .int (b - ti)]) p1 = some (.tup [.int (a - 1), .int (b - ti)]) := upd_same
  generalize upd H p1 (.tup [.int (a - 1), .int (b - ti)]) = H1 at k1 D1 kk1 L1 t1 ⊢
  walk_at "rd"
  rw [upd_upd]
  have k2 := kpW (o := .lst (([V.int a, V.int b, V.int r, V.int s].set (Int.toNat 0) (V.int (a - 1))).set (Int.toNat 1) (V.int (b - ti)))) L1
  have D2 := D1.kp k2 (by simp [Ne.symm l1]) (by simp [Ne.symm l2])
  have kk2 : Kp [d, c, l] H (upd H1 l (.lst (([V.int a, V.int b, V.int r, V.int s].set (Int.toNat 0) (V.int (a - 1))).set (Int.toNat 1) (V.int (b - ti))))) := kk1.write (by simp)
  have L2 : Lft (upd H1 l (.lst (([V.int a, V.int b, V.int r, V.int s].set (Int.toNat 0) (V.int (a - 1))).set (Int.toNat 1) (V.int (b - ti))))) l (a - 1) (b - ti) r s := upd_same
  generalize upd H1 l (.lst (([V.int a, V.int b, V.int r, V.int s].set (Int.toNat 0) (V.int (a - 1))).set (Int.toNat 1) (V.int (b - ti)))) = H2 at k2 D2 kk2 L2 ⊢
  clear k1 D1 kk1 L1 t1 k2 hL' hp1
  refine spDraw.use D2 (by omega) (by omega) (by omega) fun H3 way w0 w1 D3 k3 => ?_
  have L3 : Lft H3 l (a - 1) (b - ti) r s := k3.get L2 (by simp [l1, l2])
  have kk3 := kk2.trans (k3.sub (D2.ls3 L2) (by simp))
  have N3 := N.kp kk3 (by simp [n1, n2, n3])
  clear D2 kk2 L2 k3
  walk_at "rd"
  refine ifd (fun c2 => ?_) (fun c2 => ?_)
  · walk_at "rd"
    refine ⟨d, c, nm, l, _, ti, _, _, _, _, xs, rfl, D3, by omega, N3, n1, n2, n3, l1, l2, L3, hr0, hs0, ht0, fun H4 v t n4 r4 s4 D4 q1 q2 L4 r40 s40 er es k4 hv ht hlo => ?_⟩
    have kk4 := kk3.trans k4
    have N4 := N.kp kk4 (by simp [n1, n2, n3])
    walk_at "rd"
    refine ⟨d, c, nm, l, _, ti, _, _, _, _, _, xs, rfl, D4, by omega, N4, n1, n2, n3, l1, l2, L4, by omega, by omega, r40, s40, by omega, ht0, by omega, fun H5 v5 x5 n5 a5 b5 r5 s5 D5 q3 q4 L5 a50 b50 r50 s50 T5 k5 hv5 hx5 => ?_⟩
    have kk5 := kk4.trans k5
    have N5 := N.kp kk5 (by simp [n1, n2, n3])
    have ea5 := T5.a
    walk_at "rd"
    refine ⟨d, c, nm, l, _, ti, _, _, _, _, _, xs, rfl, D5, by omega, N5, n1, n2, n3, l1, l2, L5, by omega, by omega, r50, s50, by omega, ht0, by omega, fun H6 v6 x6 n6 a6 b6 r6 s6 D6 q5 q6 L6 a60 b60 r60 s60 T6 k6 hv6 hx6 => ?_⟩
    have kk6 := kk5.trans k6
    have ea6 := T6.a
    walk_at "rd"
    refine ⟨by simp [sizeLine_eq], fun p hp => ?_⟩
    have k7 : Kp [] H6 (upd H6 p (.tup [.str "if", v, v5, v6])) := Kp.nil.new hp
    refine k _ _ [.ifs t x5 x6] n6 a6 b6 r6 s6 (D6.kp k7 (by simp) (by simp)) (by omega) (by omega) (k7.get L6 (by simp)) a60 b60 r60 s60 (by simp) ?_ (kk6.new hp) ?_ ?_
    · have w1 : Sm.cnts "weight" [Sm.ifs t x5 x6] = 1 + (Sm.cnts "weight" x5 + Sm.cnts "weight" x6) := by rw [Sm.cnts_one, Sm.cnt, Sm.cnt_w]
      have w2 : Sm.cnts "rest" [Sm.ifs t x5 x6] = t.one "rest" + (Sm.cnts "rest" x5 + Sm.cnts "rest" x6) := by rw [Sm.cnts_one, Sm.cnt_if _ _ _ _ (by decide +kernel)]
      have w3 : Sm.cnts "less" [Sm.ifs t x5 x6] = t.one "less" + (Sm.cnts "less" x5 + Sm.cnts "less" x6) := by rw [Sm.cnts_one, Sm.cnt_if _ _ _ _ (by decide +kernel)]
      have b5 := T5.b; have r5' := T5.r; have s5' := T5.s
      have b6 := T6.b; have r6' := T6.r; have s6' := T6.s
      constructor
      · simp only [Sm.sizes, Sm.size]
        omega
      · rw [w1, Int.mul_add, Int.mul_add]
        omega
      · rw [w2, Int.mul_add, Int.mul_add]
        omega
      · rw [w3, Int.mul_add, Int.mul_add]
        omega
      · exact Sm.los_one (by rw [Sm.lo]; exact ⟨hlo, T5.l, T6.l⟩)
    · show Dt K _ _ (Sm.d (.ifs t x5 x6))
      rw [Sm.d]
      exact Dt.mk4 upd_same (.str _) (((hv.kp k5).kp k6).kp k7) ((hv5.kp k6).kp k7) (hv6.kp k7)
    · intro z hz
      rw [List.mem_singleton.mp hz]
      cases e with
      | zero => exact ⟨ht, hx5, hx6⟩
      | succ e => exact ⟨ht, hx5, hx6⟩
  walk_at "rd"
  refine ifd (fun c3 => ?_) (fun c3 => ?_)
  · walk_at "rd"
    refine one_disp D3 (by omega) (by simp) (by simp) fun H4 x hx D4 k4 => ?_
    have hx' : ∃ u : Int, x = .int u ∧ 0 ≤ u ∧ u ≤ 8 := by
      simp only [List.mem_cons, List.not_mem_nil, or_false] at hx
      rcases hx with rfl | rfl | rfl | rfl | rfl | rfl | rfl <;> exact ⟨_, rfl, by omega, by omega⟩
    obtain ⟨u, rfl, u0, u1⟩ := hx'
    have L4 : Lft H4 l (a - 1) (b - ti) r s := k4.get L3 (by simp [l1, l2])
    have kk4 := kk3.trans (k4.sub (D3.ls3 L3) (by simp))
    have N4 := N.kp kk4 (by simp [n1, n2, n3])
    have m0 : 0 ≤ ti * u := Int.mul_nonneg ht0 u0
    walk_at "rd"
    rotate_left
    · walk_at "sc"
    refine ⟨d, c, nm, l, _, ti * u, _, _, _, _, _, xs, rfl, D4, by omega, N4, n1, n2, n3, l1, l2, L4, by omega, by omega, hr0, hs0, by omega, m0, by omega, fun H5 v5 x5 n5 a5 b5 r5 s5 D5 q3 q4 L5 a50 b50 r50 s50 T5 k5 hv5 hx5 => ?_⟩
    have kk5 := kk4.trans k5
    have ea5 := T5.a
    walk_at "rd"
    refine ⟨by simp [sizeLine_eq], fun p hp => ?_⟩
    have k7 : Kp [] H5 (upd H5 p (.tup [.str "repeat", .int u, v5])) := Kp.nil.new hp
    refine k _ _ [.rep u x5] n5 a5 b5 r5 s5 (D5.kp k7 (by simp) (by simp)) (by omega) (by omega) (k7.get L5 (by simp)) a50 b50 r50 s50 (by simp) ?_ (kk5.new hp) ?_ ?_
    · have b5 := T5.b; have r5' := T5.r; have s5' := T5.s
      have hh : ∀ so : Str, ti * (Sm.cnts so x5 * u) = ti * u * Sm.cnts so x5 := fun so => by rw [Int.mul_comm (Sm.cnts so x5), Int.mul_assoc]
      constructor
      · simp only [Sm.sizes, Sm.size]
        omega
      · rw [Sm.cnts_one, Sm.cnt_rep, if_pos rfl, Int.mul_add, hh]
        omega
      · rw [Sm.cnts_one, Sm.cnt_rep, if_neg (by decide +kernel), Int.mul_add, hh]
        omega
      · rw [Sm.cnts_one, Sm.cnt_rep, if_neg (by decide +kernel), Int.mul_add, hh]
        omega
      · exact Sm.los_one (by rw [Sm.lo]; exact T5.l)
    · show Dt K _ _ (Sm.d (.rep u x5))
      rw [Sm.d]
      exact Dt.mk3 upd_same (.str _) (.int _) (hv5.kp k7)
    · intro z hz
      rw [List.mem_singleton.mp hz]
      cases e with
      | zero => exact ⟨u0, u1, hx5⟩
      | succ e => exact ⟨u0, u1, hx5⟩
  walk_at "rd"
  refine ⟨d, c, nm, _, xs, rfl, D3, by omega, N3, n1, n2, fun H4 v p n4 D4 q1 q2 k4 hv hp => ?_⟩
  have L4 : Lft H4 l (a - 1) (b - ti) r s := k4.get L3 (by simp [l1, l2])
  refine k _ _ [.pl p] n4 (a - 1) (b - ti) r s D4 (by omega) (by omega) L4 (by omega) (by omega) hr0 hs0 (by simp) ?_ (kk3.trans (k4.sub (D3.ls3 L3) (by simp))) ?_ ?_
  · constructor
    · simp only [Sm.sizes, Sm.size]
      omega
    · rw [Sm.cnts_one, Sm.cnt_pl, if_pos rfl]
      omega
    · rw [Sm.cnts_one, Sm.cnt_pl, if_neg (by decide +kernel)]
      omega
    · rw [Sm.cnts_one, Sm.cnt_pl, if_neg (by decide +kernel)]
      omega
    · exact Sm.los_one (by rw [Sm.lo]; trivial)
  · show Dt K _ _ (Sm.d (.pl p))
    rw [Sm.d]
    exact hv
  · intro z hz
    rw [List.mem_singleton.mp hz]
    cases e <;> exact hp
abbrev s_law_block : Stmt := topS 54
abbrev N_law_block : List Str := ["_law_deck_here", "_law_names_here", "_law_left", "_law_times", "_law_depth", "_law_many", "_law_rows", "_law_k", "_law_row_here"]
abbrev P_law_block : List Str := ["_law_deck_here", "_law_names_here", "_law_left", "_law_times", "_law_depth"]
theorem sc_law_block : FnScope N_law_block P_law_block (defScope s_law_block) :=
  ⟨rfl, rfl, rfl, by decide +kernel, rfl, by decide +kernel, by decide +kernel⟩
theorem ok_law_block (D : Df K mg "_law_block" s_law_block P_law_block) (B : Blt mg) {e lv : Nat} {sp2 : Sp} (hlv : 1 ≤ lv)
    (G_law_draw : Has P w K mg base CX0 "_law_draw" ["_law_deck_here", "_law_many"] 1 spDraw)
    (G_law_row : Has P w K mg base CX0 "_law_row" ["_law_deck_here", "_law_names_here", "_law_left", "_law_times", "_law_depth"] lv sp2) (hs : ∀ m, e = m + 1 → sp2 = spRowN K m) :
    Has P w K mg base CX0 "_law_block" P_law_block (lv + 1) (spBlN K e) := by
  refine D.has sc_law_block (fun vs H Q E h => ?_) (fun f cdv A outer s H vs Q E hr h => ?_)
  · obtain ⟨d, c, nm, l, n, ti, dep, a, b, r, s, xs, rfl, _⟩ := h
    rfl
  obtain ⟨d, c, nm, l, n, ti, dep, a, b, r, s, xs, rfl, Dk, hn, N, n1, n2, n3, l1, l2, hL, ha, hb, hr0, hs0, ha1, ht0, hdep, k⟩ := h
  have n0 := Dk.n0
  refine ⟨_, (pss_cons (ps_if (pt_cmpR op_gt (pv 4) pe_int (nomark _)) (pss_one (ps_ret (pe_tup pa_nil)))
        pss_nil)
      (pss_cons (ps_par (i := 5) (j := 6) (by rfl) sc_law_block.nd rfl rfl (by decide) rfl rfl (pa_cons (pe_op op_add (pe_f G_law_draw (hr.mono (by omega)) (by rfl) pass0 (pa_cons (pv 0) (pa_cons pe_int pa_nil))) (pe_callTy c_int (by rfl) B.int (by decide +kernel) (pa_cons (pe_cmpR op_eq (pv 4) pe_int (nomark _)) pa_nil))) (pa_cons (pe_lst pa_nil) pa_nil)) (by rfl))
      (pss_cons (ps_for PassesOwn.never rfl (pi_range1 (by rfl) B.range (pa_cons (pv 5) pa_nil)) (pg_name (i := 7) sc_law_block.nd rfl (Or.inl rfl))
        (pss_one (ps_expr (pe_bm PySem.F.plainAttrs_list PySem.F.slot_list_append PySem.F.type_list_append mt_append (pv 6) (pa_cons (pe_f G_law_row (hr.mono (by omega)) (by rfl) pass0 (pa_cons (pv 0) (pa_cons (pv 1) (pa_cons (pv 2) (pa_cons (pv 3) (pa_cons (pv 4) pa_nil)))))) pa_nil)))))
      (pss_one (ps_ret (pe_callTy c_tup (by rfl) B.tuple (by decide +kernel) (pa_cons (pe_lc (own := [("_law_row_here", 8)]) (g := gName 8) (by rfl) sc_law_block.nd (pi_list (pv 6)) (blkOk_by (own := [("_law_row_here", 8)]) (N := N_law_block) (sc := defScope s_law_block) (by decide +kernel)) (fun _ _ _ _ _ => (pg_name (i := 8) sc_law_block.nd rfl (Or.inl rfl))) (fun _ _ _ _ _ => (pts_one (pt_cmpR (op_neNilK (K := K) rfl hr.h64) (pv 8) (pe_tup pa_nil) (nomark _)))) (fun _ _ _ _ _ => (pv 8))) pa_nil))))))), ?_⟩
  have ls3 : Kp [d, c, l] H H := Kp.refl (Dk.ls3 hL)
  walk_at "rd"
  refine ifd (fun c1 => ?_) (fun c1 => ?_)
  · walk_at "rd"
    refine ⟨by decide, fun p hp => ?_⟩
    have k1 : Kp [] H (upd H p (.tup [])) := Kp.nil.new hp
    refine k _ _ [] _ a b r s (Dk.kp k1 (by simp) (by simp)) (by omega) (by omega) (k1.get hL (by simp)) ha hb hr0 hs0 Took.nil (ls3.new hp) (by rw [Sm.ds]; exact Dt.mk0 upd_same) ?_
    cases e with
    | zero => exact rfl
    | succ e => exact fun _ h => nomatch h
  obtain ⟨e, rfl⟩ : ∃ m, e = m + 1 := ⟨e - 1, by omega⟩
  obtain rfl := hs e rfl
  walk_at "rd"
  refine spDraw.use Dk (by omega) (by omega) (by omega) fun H1 u u0 u1 D1 k1 => ?_
  have L1 : Lft H1 l a b r s := k1.get hL (by simp [l1, l2])
  have kk1 := ls3.trans (k1.sub (Dk.ls3 hL) (by simp))
  walk_at "rd"
  generalize ew : u + (if decide (V.int dep = V.int 0) = true then 1 else 0) = m
  have hm0 : 0 ≤ m ∧ m ≤ 5 := by
    rw [← ew]
    split <;> omega
  refine ⟨by decide, fun q hq => ?_⟩
  have f1 := D1.fresh hq
  have hql : q ≠ l := Ne.symm (ne_of_none (show H1 l = _ from L1) hq)
  have hq0 : H q = none := kk1.free (D1.ls3 L1) hq
  have k2 : Kp [] H1 (upd H1 q (.lst [])) := Kp.nil.new hq
  have D2 := D1.kp k2 (by simp) (by simp)
  have L2 : Lft (upd H1 q (.lst [])) l a b r s := k2.get L1 (by simp)
  have q2 : upd H1 q (.lst []) q = some (.lst []) := upd_same
  have kk2 := kk1.new (o := .lst []) hq
  generalize upd H1 q (.lst []) = H2 at k2 D2 L2 q2 kk2 ⊢
  walk_at "rd"
  refine r_ForR (fun i σ H' => ∃ (vs : List V) (xss : List (List Sm)) (n' a' b' r' s' : Int) (kx : Option V), σ = [some (.ref d), some (.ref nm), some (.ref l), some (.int ti), some (.int dep), some (.int m), some (.ref q), kx, none] ∧
      Deck H' d c n' ∧ n ≤ n' ∧ n' ≤ n + 1 + 150 * (a - a') ∧ Lft H' l a' b' r' s' ∧ 0 ≤ a' ∧ 0 ≤ b' ∧ 0 ≤ r' ∧ 0 ≤ s' ∧ Took ti a b r s a' b' r' s' xss.flatten ∧ Kp [d, c, l] H H' ∧ H' q = some (.lst vs) ∧ DtL K H' vs (xss.map rowD) ∧ vs.length = i ∧
      (∀ x ∈ xss, x.length ≤ 1) ∧ ∀ s ∈ xss.flatten, Sm.vn xs e s)
    (by omega) (by omega) ⟨[], [], n + 1, a, b, r, s, none, rfl, D2, by omega, by omega, L2, ha, hb, hr0, hs0, Took.nil, kk2, q2, DtL.nil, rfl, (fun _ h => nomatch h), fun _ h => nomatch h⟩ ?_ ?_
  · rintro i σ H4 hi ⟨vs, xss, n4, a4, b4, r4, s4, kx, rfl, D4, m1, m2, L4, a40, b40, r40, s40, T4, k4, q4, t4, v4, x4, o4⟩
    have ea4 := T4.a
    walk_at "rd"
    refine ⟨d, c, nm, l, n4, ti, dep, a4, b4, r4, s4, xs, rfl, D4, by omega, N.kp k4 (by simp [n1, n2, n3]), n1, n2, n3, l1, l2, L4, a40, b40, r40, s40, by omega, ht0, by omega, fun H5 v x n5 a5 b5 r5 s5 D5 m3 m4 L5 a50 b50 r50 s50 x1 T5 k5 hv hx => ?_⟩
    have q5 := k5.get q4 (by simp [f1.1, f1.2, hql])
    walk_at "rd"
    · have k6 := kpW (o := .lst (vs ++ [v])) q5
      refine ⟨vs ++ [v], xss ++ [x], n5, a5, b5, r5, s5, _, rfl, D5.kp k6 (by simp [Ne.symm f1.1]) (by simp [Ne.symm f1.2]), by omega, by omega, k6.get L5 (by simp [Ne.symm hql]), a50, b50, r50, s50, ?_, (k4.trans k5).own hq0, upd_same, ?_, ?_, ?_, ?_⟩
      · rw [List.flatten_append, List.flatten_cons, List.flatten_nil, List.append_nil]
        exact T4.app T5
      · rw [List.map_append]
        exact ((t4.kp k5).kp k6).snoc (hv.kp k6)
      · rw [List.length_append, List.length_singleton, v4]
      · intro z hz
        rcases List.mem_append.mp hz with hz | hz
        · exact x4 z hz
        · rw [List.mem_singleton.mp hz]
          exact x1
      · intro z hz
        rw [List.flatten_append, List.flatten_cons, List.flatten_nil, List.append_nil] at hz
        rcases List.mem_append.mp hz with hz | hz
        · exact o4 z hz
        · exact hx z hz
    · walk_at "sz"
  · rintro σ H4 ⟨vs, xss, n4, a4, b4, r4, s4, kx, rfl, D4, m1, m2, L4, a40, b40, r40, s40, T4, k4, q4, t4, v4, x4, o4⟩
    walk_at "rd"
    refine r_LcL (SqL.of q4) fun p hp => ⟨fun i H' => ∃ acc : List V, H' p = some (.lst acc) ∧ acc.length ≤ i ∧ DtL K H' acc (Sm.ds (xss.take i).flatten) ∧ Kp [] H4 H', ⟨[], upd_same, by simp, by simp [Sm.ds, DtL.nil], Kp.nil.new hp⟩, fun i H' ⟨_, _, _, _, q⟩ => SqL.of (q.get q4 (by simp)), ?_, ?_⟩
    · rintro i x H5 hx ⟨acc, p5, a5, t5, k5⟩
      have hil := (List.getElem?_eq_some_iff.mp hx).1
      have hilx : i < xss.length := by
        have := t4.len
        rw [List.length_map] at this
        omega
      have hg : xss[i]? = some xss[i] := List.getElem?_eq_getElem hilx
      have hd := t4.all i x (rowD xss[i]) hx (by rw [List.getElem?_map, hg]; rfl)
      have h1 := x4 xss[i] (List.getElem_mem hilx)
      have htk : (xss.take (i + 1)).flatten = (xss.take i).flatten ++ xss[i] := by
        have e : xss.take (i + 1) = xss.take i ++ [xss[i]] := by rw [List.take_add_one, hg]; rfl
        rw [e, List.flatten_append, List.flatten_cons, List.flatten_nil, List.append_nil]
      generalize xss[i] = xi at hd h1 htk
      have hd5 := hd.kp k5
      walk_at "rd"
      refine ⟨by decide, fun t ht => ?_⟩
      have k6 : Kp [] H5 (upd H5 t (.tup [])) := Kp.nil.new ht
      have hd6 := hd5.kp k6
      have p6 := k6.get p5 (by simp)
      have t6 := t5.kp k6
      have kk6 := k5.trans k6
      match xi, h1, hd6, htk with
      | [], _, hd6, htk =>
        obtain ⟨z, rfl, hz⟩ := Dt.is0 hd6
        refine r_neNT hz (SqT.of upd_same) ?_
        generalize upd H5 t (.tup []) = H6 at k6 p6 t6 kk6 ⊢
        walk_at "rd"
        exact ⟨acc, p6, by omega, by rw [htk, List.append_nil]; exact t6, kk6⟩
      | [sm], _, hd6, htk =>
        have hd7 : Dt K (upd H5 t (.tup [])) x sm.d := hd6
        obtain ⟨z, zs, rfl, hz, hne⟩ : ∃ (z : Addr) (zs : List V), x = .ref z ∧ SqT K (upd H5 t (.tup [])) z zs ∧ zs ≠ [] := by
          obtain ⟨ds, e1, e2⟩ : ∃ ds, sm.d = .tuple ds ∧ ds ≠ [] := by
            cases sm with
            | pl p => rw [Sm.d]; cases p <;> exact ⟨_, rfl, by simp⟩
            | ifs t y z => rw [Sm.d]; exact ⟨_, rfl, by simp⟩
            | rep k b => rw [Sm.d]; exact ⟨_, rfl, by simp⟩
          rw [e1] at hd7
          obtain ⟨z, zs, e3, hz, hl⟩ := hd7.items
          refine ⟨z, zs, e3, hz, fun e => e2 ?_⟩
          have := hl.len
          rw [e] at this
          exact List.length_eq_zero_iff.mp this.symm
        refine r_neNT hz (SqT.of upd_same) ?_
        have he : (!zs.isEmpty) = true := by cases zs with
          | nil => exact absurd rfl hne
          | cons _ _ => rfl
        rw [he]
        generalize upd H5 t (.tup []) = H6 at k6 p6 t6 kk6 hd7 ⊢
        walk_at "rd"
        have k7 := kpW (o := .lst (acc ++ [.ref z])) p6
        refine r_LcEnd p6 (by rw [sizeLine_eq]; omega) ⟨acc ++ [.ref z], upd_same, by rw [List.length_append, List.length_singleton]; omega, ?_, kk6.own hp⟩
        rw [htk, Sm.ds_snoc]
        exact (t6.kp k7).snoc (hd7.kp k7)
    · rintro H5 ⟨acc, p5, a5, t5, k5⟩
      have ll : vs.length = xss.length := by
        have := t4.len
        rwa [List.length_map] at this
      rw [ll, List.take_length] at t5
      walk_at "rd"
      refine r_tupL (SqL.of p5) fun t ht => ?_
      have k6 : Kp [] H5 (upd H5 t (.tup acc)) := Kp.nil.new ht
      have k56 := k5.trans k6
      have T4a := T4.a
      exact k _ _ xss.flatten n4 a4 b4 r4 s4 (D4.kp k56 (by simp) (by simp)) m1 m2 (k56.get L4 (by simp)) a40 b40 r40 s40 T4 (k4.trans (k56.sub (D4.ls3 L4) (by simp))) ((t5.kp k6).tup upd_same) o4
abbrev s_law_program : Stmt := topS 55
abbrev N_law_program : List Str := ["_law_deck_here", "_law_names_here", "_law_left", "_law_program_here", "_law_k"]
abbrev P_law_program : List Str := ["_law_deck_here", "_law_names_here"]
theorem sc_law_program : FnScope N_law_program P_law_program (defScope s_law_program) :=
  ⟨rfl, rfl, rfl, by decide +kernel, rfl, by decide +kernel, by decide +kernel⟩
theorem ok_law_program (D : Df K mg "_law_program" s_law_program P_law_program) (B : Blt mg) {lv : Nat} (hlv : 5 ≤ lv)
    (G_law_draw : Has P w K mg base CX0 "_law_draw" ["_law_deck_here", "_law_many"] 1 spDraw)
    (G_law_expression : Has P w K mg base CX0 "_law_expression" ["_law_deck_here", "_law_names_here", "_law_deep"] 5 (spExNA K))
    (G_law_block : Has P w K mg base CX0 "_law_block" ["_law_deck_here", "_law_names_here", "_law_left", "_law_times", "_law_depth"] lv (spBlN K 4)) :
    Has P w K mg base CX0 "_law_program" P_law_program (lv + 1) (spPgN K) := by
  refine D.has sc_law_program (fun vs H Q E h => ?_) (fun f cdv A outer s H vs Q E hr h => ?_)
  · obtain ⟨d, c, nm, n, xs, rfl, _⟩ := h
    rfl
  obtain ⟨d, c, nm, n, xs, rfl, Dk, hn, N, n1, n2, k⟩ := h
  have n0 := Dk.n0
  refine ⟨_, (pss_cons (ps_par (i := 2) (j := 3) (by rfl) sc_law_program.nd rfl rfl (by decide) rfl rfl (pa_cons (pe_lst (pa_cons pe_int (pa_cons pe_int (pa_cons pe_int (pa_cons pe_int pa_nil))))) (pa_cons (pe_tup pa_nil) pa_nil)) (by rfl))
      (pss_cons (ps_for PassesOwn.never rfl (pi_range1 (by rfl) B.range (pa_cons (pe_op op_add pe_int (pe_f G_law_draw (hr.mono (by omega)) (by rfl) pass0 (pa_cons (pv 0) (pa_cons pe_int pa_nil)))) pa_nil)) (pg_name (i := 4) sc_law_program.nd rfl (Or.inl rfl))
        (pss_one (ps_set (i := 3) sc_law_program.nd rfl (Or.inl rfl) (pe_op op_catA (pv 3) (pe_f G_law_block (hr.mono (by omega)) (by rfl) pass0 (pa_cons (pv 0) (pa_cons (pv 1) (pa_cons (pv 2) (pa_cons pe_int (pa_cons pe_int pa_nil))))))))))
      (pss_cons (ps_if (PW.pt (pw_or (pt_cmpR op_lt (pe_ix ix_list (pv 2) pe_int (fun _ _ => rfl)) pe_int (nomark _)) (pw_or (pt_cmpR op_lt (pe_ix ix_list (pv 2) pe_int (fun _ _ => rfl)) pe_int (nomark _)) (pw_or1 (pt_cmpR op_eq (pe_f G_law_draw (hr.mono (by omega)) (by rfl) pass0 (pa_cons (pv 0) (pa_cons pe_int pa_nil))) pe_int (nomark _)))))) (pss_one (ps_ret (pv 3)))
        pss_nil)
      (pss_one (ps_ret (pe_op op_catA (pv 3) (pe_tup (pa_cons (pe_tup (pa_cons pe_str (pa_cons (pe_f G_law_expression (hr.mono (by omega)) (by rfl) pass0 (pa_cons (pv 0) (pa_cons (pv 1) (pa_cons pe_int pa_nil)))) pa_nil))) pa_nil)))))))), ?_⟩
  walk_at "rd"
  refine ⟨by simp [sizeLine_eq], fun l hl => ?_⟩
  have k1 : Kp [] H (upd H l (.lst [.int 24, .int 30, .int 2, .int 2])) := Kp.nil.new hl
  have D1 := Dk.kp k1 (by simp) (by simp)
  have L1 : Lft (upd H l (.lst [.int 24, .int 30, .int 2, .int 2])) l 24 30 2 2 := upd_same
  have f1 := Dk.fresh hl
  have f2 : nm ≠ l := ne_of_none N.h hl
  have kk1 : Kp [d, c] H (upd H l (.lst [.int 24, .int 30, .int 2, .int 2])) := (Kp.refl Dk.ls).new hl
  generalize upd H l (.lst [.int 24, .int 30, .int 2, .int 2]) = H1 at k1 D1 L1 kk1 ⊢
  walk_at "rd"
  refine ⟨by decide, fun p2 hp2 => ?_⟩
  have k2 : Kp [] H1 (upd H1 p2 (.tup [])) := Kp.nil.new hp2
  have D2 := D1.kp k2 (by simp) (by simp)
  have L2 : Lft (upd H1 p2 (.tup [])) l 24 30 2 2 := k2.get L1 (by simp)
  have kk2 := kk1.new (o := .tup []) hp2
  have v2 : Dt K (upd H1 p2 (.tup [])) (.ref p2) (.tuple (Sm.ds [])) := by rw [Sm.ds]; exact Dt.mk0 upd_same
  generalize upd H1 p2 (.tup []) = H2 at k2 D2 L2 kk2 v2 ⊢
  walk_at "rd"
  refine spDraw.use D2 (by omega) (by omega) (by omega) fun H3 u u0 u1 D3 k3 => ?_
  have L3 : Lft H3 l 24 30 2 2 := k3.get L2 (by simp [f1.1, f1.2])
  walk_at "rd"
  refine r_ForR (fun i σ H' => ∃ (v : V) (x : List Sm) (n' a' b' r' s' : Int) (kx : Option V), σ = [some (.ref d), some (.ref nm), some (.ref l), some v, kx] ∧
      Deck H' d c n' ∧ n ≤ n' ∧ n' ≤ n + 1 + i + 150 * (24 - a') ∧ Lft H' l a' b' r' s' ∧ 0 ≤ a' ∧ 0 ≤ b' ∧ 0 ≤ r' ∧ 0 ≤ s' ∧ Took 1 24 30 2 2 a' b' r' s' x ∧ Kp [d, c] H H' ∧ Dt K H' v (.tuple (Sm.ds x)) ∧ ∀ s ∈ x, Sm.vn xs 3 s)
    (by omega) (by omega) ⟨_, [], n + 1, 24, 30, 2, 2, none, rfl, D3, by omega, by omega, L3, by omega, by omega, by omega, by omega, Took.nil, kk2.trans k3, v2.kp k3, fun _ h => nomatch h⟩ ?_ ?_
  · rintro i σ H4 hi ⟨v, x, n4, a4, b4, r4, s4, kx, rfl, D4, m1, m2, L4, a40, b40, r40, s40, T4, k4, v4, o4⟩
    have ea4 := T4.a
    walk_at "rd"
    refine ⟨d, c, nm, l, n4, 1, 0, a4, b4, r4, s4, xs, rfl, D4, by omega, N.kp k4 (by simp [n1, n2]), n1, n2, f2, f1.1, f1.2, L4, a40, b40, r40, s40, by omega, by omega, by omega, fun H5 v5 x5 n5 a5 b5 r5 s5 D5 m3 m4 L5 a50 b50 r50 s50 T5 k5 hv hx => ?_⟩
    have T6 := T4.app T5
    have e6 := T6.a
    have kk5 : Kp [d, c] H H5 := k4.out hl k5
    have ea := Sm.sizes_app x x5
    have ln : (Sm.ds x).length + (Sm.ds x5).length ≤ 24 := by
      have q1 := Sm.len_sizes x
      have q2 := Sm.len_sizes x5
      rw [Sm.ds_map, Sm.ds_map, List.length_map, List.length_map]
      omega
    refine r_catA (K := K) (v4.kp k5) hv (by omega) fun H6 v6 k6 hv6 => ?_
    rw [← Sm.ds_app] at hv6
    walk_at "rd"
    refine ⟨v6, x ++ x5, n5, a5, b5, r5, s5, _, rfl, D5.kp k6 (by simp) (by simp), by omega, by omega, k6.get L5 (by simp), a50, b50, r50, s50, T6, kk5.trans (k6.sub D5.ls (by simp)), hv6, fun z hz => ?_⟩
    rcases List.mem_append.mp hz with hz | hz
    · exact o4 z hz
    · exact hx z hz
  · rintro σ H4 ⟨v, x, n4, a4, b4, r4, s4, kx, rfl, D4, m1, m2, L4, a40, b40, r40, s40, T4, k4, v4, o4⟩
    have ea4 := T4.a
    have eb4 := T4.b
    have er4 := T4.r
    have es4 := T4.s
    have hi4 : (1 + u).toNat ≤ 4 := by omega
    have pg : PgN xs x := ⟨o4, by omega, by omega, by omega, by omega, T4.l⟩
    have L4' := L4
    unfold Lft at L4'
    walk_at "rd"
    refine ifd (fun c1 => ?_) (fun c1 => ?_)
    · walk_at "rd"
      exact k _ _ x n4 D4 m1 (by omega) k4 v4 pg
    walk_at "rd"
    refine ifd (fun c2 => ?_) (fun c2 => ?_)
    · walk_at "rd"
      exact k _ _ x n4 D4 m1 (by omega) k4 v4 pg
    walk_at "rd"
    refine spDraw.use D4 (by omega) (by omega) (by omega) fun H5 z z0 z1 D5 k5 => ?_
    walk_at "rd"
    refine ifd (fun c3 => ?_) (fun c3 => ?_)
    · walk_at "rd"
      exact k _ _ x _ D5 (by omega) (by omega) (k4.trans k5) (v4.kp k5) pg
    walk_at "rd"
    refine spExNA.use 2 D5 (by omega) (N.kp (k4.trans k5) (by simp [n1, n2])) n1 n2 rfl (by omega) (by omega) fun H6 v6 e n6 D6 q1 q2 k6 hv he => ?_
    walk_at "rd"
    refine ⟨by simp [sizeLine_eq], fun p7 hp7 => ?_⟩
    have k7 : Kp [] H6 (upd H6 p7 (.tup [.str "tell", v6])) := Kp.nil.new hp7
    have v7 : Dt K (upd H6 p7 (.tup [.str "tell", v6])) (.ref p7) (Pl.tell e).d := Dt.mk2 upd_same (.str _) (hv.kp k7)
    have D7 := D6.kp k7 (by simp) (by simp)
    have vv7 := ((v4.kp k5).kp k6).kp k7
    have kk7 := ((k4.trans k5).trans k6).new (o := .tup [.str "tell", v6]) hp7
    generalize upd H6 p7 (.tup [.str "tell", v6]) = H7 at k7 v7 D7 vv7 kk7 ⊢
    walk_at "rd"
    refine ⟨by simp [sizeLine_eq], fun p8 hp8 => ?_⟩
    have k8 : Kp [] H7 (upd H7 p8 (.tup [.ref p7])) := Kp.nil.new hp8
    have v8 : Dt K (upd H7 p8 (.tup [.ref p7])) (.ref p8) (.tuple (Sm.ds [.pl (.tell e)])) := by
      simp only [Sm.ds, Sm.d]
      exact Dt.mk1 upd_same (v7.kp k8)
    have D8 := D7.kp k8 (by simp) (by simp)
    have vv8 := vv7.kp k8
    have kk8 := kk7.new (o := .tup [.ref p7]) hp8
    generalize upd H7 p8 (.tup [.ref p7]) = H8 at k8 v8 D8 vv8 kk8 ⊢
    have ln : (Sm.ds x).length + (Sm.ds [.pl (.tell e)]).length ≤ 25 := by
      have q1 := Sm.len_sizes x
      rw [Sm.ds_map, Sm.ds_map, List.length_map, List.length_map]
      simp
      omega
    refine r_catA (K := K) vv8 v8 (by omega) fun H9 v9 k9 hv9 => ?_
    rw [← Sm.ds_app] at hv9
    refine k _ _ (x ++ [.pl (.tell e)]) n6 (D8.kp k9 (by simp) (by simp)) (by omega) (by omega) (kk8.trans (k9.sub D8.ls (by simp))) hv9 ⟨fun s hs => ?_, ?_, ?_, ?_, ?_, Sm.los_app _ _ T4.l (Sm.los_one (by rw [Sm.lo]; trivial))⟩
    · rcases List.mem_append.mp hs with hs | hs
      · exact o4 s hs
      · rw [List.mem_singleton.mp hs]
        exact he.succ
    · rw [Sm.sizes_snoc, Sm.size]
      omega
    · rw [Sm.cnts_snoc, Sm.cnt_pl, if_pos rfl]
      omega
    · rw [Sm.cnts_snoc, Sm.cnt_pl, if_neg (by decide +kernel)]
      omega
    · rw [Sm.cnts_snoc, Sm.cnt_pl, if_neg (by decide +kernel)]
      omega
abbrev s_law_number : Stmt := topS 56
abbrev N_law_number : List Str := ["_law_deck_here", "_law_way", "_law_sign"]
abbrev P_law_number : List Str := ["_law_deck_here"]
theorem sc_law_number : FnScope N_law_number P_law_number (defScope s_law_number) :=
  ⟨rfl, rfl, rfl, by decide +kernel, rfl, by decide +kernel, by decide +kernel⟩
theorem ok__law_number (D : Df K mg "_law_number" s_law_number P_law_number) (B : Blt mg) (G_law_draw : Has P w K mg base CX0 "_law_draw" ["_law_deck_here", "_law_many"] 1 spDraw)
    (G_law_one : Has P w K mg base CX0 "_law_one" ["_law_deck_here", "_law_items"] 2 (spOne K)) : Has P w K mg base CX0 "_law_number" P_law_number 3 spNum := by
  refine D.has sc_law_number (fun vs H Q E h => ?_) (fun f cdv A outer s H vs Q E hr h => ?_)
  · obtain ⟨d, c, n, rfl, _⟩ := h
    rfl
  obtain ⟨d, c, n, rfl, D1, hn, k⟩ := h
  refine ⟨_, (pss_cons (ps_par (i := 1) (j := 2) (by rfl) sc_law_number.nd rfl rfl (by decide) rfl rfl (pa_cons (pe_f G_law_draw (hr.mono (by omega)) (by rfl) pass0 (pa_cons (pv 0) (pa_cons pe_int pa_nil))) (pa_cons (pe_f G_law_one (hr.mono (by omega)) (by rfl) pass0 (pa_cons (pv 0) (pa_cons (pe_lst (pa_cons pe_int (pa_cons (pe_un un_neg pe_int) pa_nil))) pa_nil))) pa_nil)) (by rfl))
      (pss_cons (ps_if (pt_cmpR op_lt (pv 1) pe_int (nomark _)) (pss_one (ps_ret (pe_op op_mul (pv 2) (pe_f G_law_draw (hr.mono (by omega)) (by rfl) pass0 (pa_cons (pv 0) (pa_cons pe_int pa_nil))))))
        pss_nil)
      (pss_one (ps_ret (pe_op op_mul (pv 2) (pe_op op_add (pe_op op_mul (pe_op op_pow pe_int pe_int) (pe_f G_law_draw (hr.mono (by omega)) (by rfl) pass0 (pa_cons (pv 0) (pa_cons (pe_op op_pow pe_int pe_int) pa_nil)))) (pe_f G_law_draw (hr.mono (by omega)) (by rfl) pass0 (pa_cons (pv 0) (pa_cons (pe_op op_pow pe_int pe_int) pa_nil))))))))), ?_⟩
  walk_at "rd"
  refine spDraw.use D1 (by omega) (by omega) (by omega) fun H2 u u0 u1 D2 k2 => ?_
  walk_at "rd"
  refine ⟨by decide, fun p hp => ?_⟩
  have k3 : Kp [] H2 (upd H2 p (.lst [.int 1, .int (-1)])) := Kp.nil.new hp
  have D3 := D2.kp k3 (by simp) (by simp)
  have k23 : Kp [d, c] H (upd H2 p (.lst [.int 1, .int (-1)])) := k2.new hp
  have f3 := D2.fresh hp
  have h3 : upd H2 p (.lst [.int 1, .int (-1)]) p = some (.lst [.int 1, .int (-1)]) := upd_same
  generalize upd H2 p (.lst [.int 1, .int (-1)]) = H3 at k3 D3 h3 k23 ⊢
  walk_at "rd"
  refine spOne.list D3 (by omega) (SqL.of h3) f3.1 f3.2 (by decide) (by decide) fun H4 j x4 hx4 D4 k4 => ?_
  obtain ⟨sg, rfl, hsg⟩ : ∃ sg : Int, x4 = .int sg ∧ (sg = 1 ∨ sg = -1) := by
    match j, hx4 with
    | 0, h => cases h; exact ⟨1, rfl, .inl rfl⟩
    | 1, h => cases h; exact ⟨-1, rfl, .inr rfl⟩
    | j + 2, h => simp at h
  have n4 := D4.n0
  have k14 : Kp [d, c] H H4 := k23.trans k4
  walk_at "rd"
  have fin : ∀ (H' : Hp) (i n' : Int), Deck H' d c n' → n ≤ n' → n' ≤ n + 10 → Kp [d, c] H H' → i.natAbs < 2 ^ 199 → Q (.int (sg * i)) H' := fun H' i n' q1 q2 q3 q4 q5 => k _ _ n' q1 q2 q3 q4 (by
    rcases hsg with rfl | rfl
    · rw [Int.one_mul]; omega
    · rw [Int.neg_one_mul, Int.natAbs_neg]; omega)
  refine ifd (fun _ => ?_) (fun _ => ?_)
  · walk_at "rd"
    refine spDraw.use D4 (by omega) (by omega) (by omega) fun H5 u5 u50 u51 D5 k5 => ?_
    walk_at "rd"
    · exact fin _ _ _ D5 (by omega) (by omega) (k14.trans k5) (by omega)
    · right
      omega
  · walk_at "rd"
    rotate_left
    · exact c_pow (by decide) (by decide) (by decide)
    · exact c_pow (by decide) (by decide) (by decide)
    rw [show (10 : Int) ^ Int.toNat 9 = 1000000000 from rfl]
    refine spDraw.use D4 (by omega) (by omega) (by omega) fun H5 u5 u50 u51 D5 k5 => ?_
    walk_at "rd"
    rotate_left
    · exact c_pow (by decide) (by decide) (by decide)
    · right
      omega
    rw [show (10 : Int) ^ Int.toNat 9 = 1000000000 from rfl]
    refine spDraw.use D5 (by omega) (by omega) (by omega) fun H6 u6 u60 u61 D6 k6 => ?_
    walk_at "rd"
    · rw [show (10 : Int) ^ Int.toNat 50 = 100000000000000000000000000000000000000000000000000 from by decide +kernel]
      exact fin _ _ _ D6 (by omega) (by omega) ((k14.trans k5).trans k6) (by omega)
    · left
      omega
abbrev s_law_other : Stmt := topS 57
abbrev N_law_other : List Str := ["_law_expression_here", "_law_swap", "_law_first", "_law_second"]
abbrev P_law_other : List Str := ["_law_expression_here", "_law_swap"]
theorem sc_law_other : FnScope N_law_other P_law_other (defScope s_law_other) :=
  ⟨rfl, rfl, rfl, by decide +kernel, rfl, by decide +kernel, by decide +kernel⟩
theorem ok__law_other1 (D : Df K mg "_law_other" s_law_other P_law_other) (B : Blt mg) {n lv : Nat} {sp2 : Sp}
    (G_law_other : Has P w K mg base CX0 "_law_other" P_law_other lv sp2) (hs : ∀ m, n = m + 1 → sp2 = spOt K m) : Has P w K mg base CX0 "_law_other" P_law_other (lv + 1) (spOt K n) := by
  refine D.has sc_law_other (fun vs H Q E h => ?_) (fun f cdv A outer s H vs Q E hr h => ?_)
  · obtain ⟨v, a, xs, sw, e, rfl, _⟩ := h
    rfl
  obtain ⟨v, a, xs, sw, e, rfl, hd, hS, hv, k⟩ := h
  refine ⟨_, (pss_cons (ps_if (pt_val (pe_callB c_is2 (by rfl) B.isinstance (by decide +kernel) (pa_cons (pv 0) (pa_cons (pe_ty (T := "int") (by rfl) B.int (by decide +kernel)) pa_nil)))) (pss_one (ps_ret (pv 0)))
        pss_nil)
      (pss_cons (ps_if (pt_val (pe_callB c_is2 (by rfl) B.isinstance (by decide +kernel) (pa_cons (pv 0) (pa_cons (pe_ty (T := "str") (by rfl) B.str (by decide +kernel)) pa_nil)))) (pss_one (ps_ret (pe_dget hr.hu (pv 1) (pv 0) (fun _ _ => rfl))))
        pss_nil)
      (pss_cons (ps_if (pt_cmpR op_eq (pe_ix ix_tup (pv 0) pe_int (fun _ _ => rfl)) pe_str (nomark _)) (pss_one (ps_ret (pe_tup (pa_cons pe_str (pa_cons (pe_ix ix_tup (pv 0) pe_int (fun _ _ => rfl)) (pa_cons (pe_f G_law_other (hr.mono (by omega)) (by rfl) pass0 (pa_cons (pe_ix ix_tup (pv 0) pe_int (fun _ _ => rfl)) (pa_cons (pv 1) pa_nil))) pa_nil))))))
        pss_nil)
      (pss_cons (ps_par (i := 2) (j := 3) (by rfl) sc_law_other.nd rfl rfl (by decide) rfl rfl (pa_cons (pe_f G_law_other (hr.mono (by omega)) (by rfl) pass0 (pa_cons (pe_ix ix_tup (pv 0) pe_int (fun _ _ => rfl)) (pa_cons (pv 1) pa_nil))) (pa_cons (pe_f G_law_other (hr.mono (by omega)) (by rfl) pass0 (pa_cons (pe_ix ix_tup (pv 0) pe_int (fun _ _ => rfl)) (pa_cons (pv 1) pa_nil))) pa_nil)) (by rfl))
      (pss_cons (ps_if (PW.pt (pw_and (pt_cmpR op_eq (pe_ix ix_tup (pv 0) pe_int (fun _ _ => rfl)) pe_str (nomark _)) (pw_and1 (pt_val (pe_callB c_is2 (by rfl) B.isinstance (by decide +kernel) (pa_cons (pv 3) (pa_cons (pe_ty (T := "int") (by rfl) B.int (by decide +kernel)) pa_nil))))))) (pss_one (ps_ret (pe_tup (pa_cons pe_str (pa_cons (pv 2) (pa_cons (pe_op op_sub pe_int (pv 3)) pa_nil))))))
        pss_nil)
      (pss_cons (ps_if (PW.pt (pw_and (pt_cmpR op_eq (pe_ix ix_tup (pv 0) pe_int (fun _ _ => rfl)) pe_str (nomark _)) (pw_and1 (pt_cmpR op_eq (pe_ix ix_seq (pv 3) pe_int (fun _ _ => rfl)) pe_str (nomark _))))) (pss_one (ps_ret (pe_tup (pa_cons pe_str (pa_cons (pv 2) (pa_cons (pe_tup (pa_cons pe_str (pa_cons (pe_op op_sub pe_int (pe_ix ix_tup (pv 3) pe_int (fun _ _ => rfl))) (pa_cons (pe_ix ix_tup (pv 3) pe_int (fun _ _ => rfl)) pa_nil)))) pa_nil))))))
        pss_nil)
      (pss_one (ps_ret (pe_tup (pa_cons (pe_ix ix_tup (pv 0) pe_int (fun _ _ => rfl)) (pa_cons (pv 2) (pa_cons (pv 3) pa_nil)))))))))))), ?_⟩
  cases n with
  | zero => exact hv.elim
  | succ n =>
  obtain rfl := hs n rfl
  cases e with
  | int i =>
    obtain rfl := hd.isInt
    have hw : Dw [] K H (.int i) (.int i) := .int i
    walk_at "rd"
    exact k _ _ Kp.nil (.int _)
  | name x =>
    obtain rfl := hd.isStr
    have hw : Dw [] K H (.str x) (.str x) := .str x
    walk_at "rd"
    refine hS.get hv ?_
    walk_at "rd"
    exact k _ _ Kp.nil (.str _)
  | bin o x y =>
    obtain ⟨hy, hx⟩ := hv
    have hdw : Dw [] K H v (.tuple [.str o, x.d, y.d]) := Dt.dw (show Dt K H v (.tuple [.str o, x.d, y.d]) from hd)
    obtain ⟨p, v0, v1, v2, rfl, hT, h0, h1, h2⟩ := Dt.is3 hd
    obtain rfl := h0.isStr
    have hw : Dw [] K H (.ref p) (.tuple [.str o, x.d, y.d]) := hdw
    walk_at "rd"
    refine ifd (fun c1 => ?_) (fun c1 => ?_)
    · have ho : o = "times" := by injection c1
      subst ho
      rw [Ex.ot, if_pos rfl] at k
      walk_at "rd"
      refine ⟨v2, a, xs, sw, y, rfl, h2, hS, hy, fun H1 z1 k1 hz1 => ?_⟩
      walk_at "rd"
      refine ⟨by simp [sizeLine_eq], fun q hq => ?_⟩
      have k2 : Kp [] H1 (upd H1 q (.tup [.str "times", v1, z1])) := Kp.nil.new hq
      exact k _ _ (k1.trans k2) (Dt.mk3 upd_same (.str _) ((h1.kp k1).kp k2) (hz1.kp k2))
    · have ho : o ≠ "times" := fun e => c1 (by rw [e])
      rw [Ex.ot, if_neg ho] at k
      rcases hx with ⟨e, _⟩ | ⟨hop, hx⟩
      · exact absurd e ho
      walk_at "rd"
      refine ⟨v1, a, xs, sw, x, rfl, h1, hS, hx, fun H1 z1 k1 hz1 => ?_⟩
      have hT1 := sqT_kp k1 hT
      have hS1 := hS.kp0 k1
      walk_at "rd"
      refine ⟨v2, a, xs, sw, y, rfl, h2.kp k1, hS1, hy, fun H2 z2 k2 hz2 => ?_⟩
      have hT2 := sqT_kp k2 hT1
      have hz12 := hz1.kp k2
      have k12 := k1.trans k2
      have hyv := Ex.ot_vn (g := true) hS.ins hy
      clear hz1 hT1 hS1
      generalize y.ot sw true = e2 at k hz2 hyv
      generalize x.ot sw true = e1 at k hz12
      have pair : ∀ q, H2 q = none → Dt K (upd H2 q (.tup [.str o, z1, z2])) (.ref q) (Ex.bin o e1 e2).d := fun q hq => Dt.mk3 upd_same (.str _) (hz12.kp (Kp.nil.new hq)) (hz2.kp (Kp.nil.new hq))
      rcases hop with rfl | rfl
      · rw [if_neg (by decide +kernel)] at k
        walk_at "rd"
        exact ⟨by simp [sizeLine_eq], fun q hq => k _ _ (k12.trans (Kp.nil.new hq)) (pair q hq)⟩
      · rw [if_pos ⟨rfl, rfl⟩] at k
        walk_at "rd"
        cases e2 with
        | int j =>
          obtain rfl := hz2.isInt
          have hw2 : Dw [] K H2 (.int j) (.int j) := .int j
          walk_at "rd"
          refine ⟨by simp [sizeLine_eq], fun q hq => k _ _ (k12.trans (Kp.nil.new hq)) (Dt.mk3 upd_same (.str _) (hz12.kp (Kp.nil.new hq)) (.int _))⟩
        | name u =>
          obtain rfl := hz2.isStr
          have hw2 : Dw [] K H2 (.str u) (.str u) := .str u
          walk_at "rd"
          obtain ⟨c0, hc0, hl0⟩ := name_first (by cases n with | zero => exact hyv.elim | succ n => exact hyv.1 : isNameS u = true)
          refine .inr (.inr (r_ixS (by rw [sizeLine_eq]; omega) hc0 ?_))
          walk_at "rd"
          refine ifd (fun c => absurd c (one_times c0)) (fun _ => ?_)
          walk_at "rd"
          exact ⟨by simp [sizeLine_eq], fun q hq => k _ _ (k12.trans (Kp.nil.new hq)) (pair q hq)⟩
        | bin o2 c2 d2 =>
          have hw2 : Dw [] K H2 z2 (.tuple [.str o2, c2.d, d2.d]) := Dt.dw (show Dt K H2 z2 (.tuple [.str o2, c2.d, d2.d]) from hz2)
          obtain ⟨p2, w0, w1, w2, rfl, hT3, g0, g1, g2⟩ := Dt.is3 hz2
          obtain rfl := g0.isStr
          walk_at "rd"
          refine .inr (.inl (r_ixT hT3 rfl ?_))
          walk_at "rd"
          refine ifd (fun c => ?_) (fun c => ?_)
          · have ho2 : o2 = "times" := by injection c
            subst ho2
            obtain ⟨ci, rfl⟩ : ∃ ci, c2 = .int ci := by
              cases n with
              | zero => exact hyv.elim
              | succ n =>
                rcases hyv.2 with ⟨_, i, e, _⟩ | ⟨e, _⟩
                · exact ⟨i, e⟩
                · rcases e with e | e <;> exact absurd e (by decide +kernel)
            obtain rfl := g1.isInt
            walk_at "rd"
            refine ⟨by simp [sizeLine_eq], fun q hq => ?_⟩
            have k3 : Kp [] H2 (upd H2 q (.tup [.str "times", .int (0 - ci), w2])) := Kp.nil.new hq
            have u3 : Dt K (upd H2 q (.tup [.str "times", .int (0 - ci), w2])) (.ref q) (Ex.bin "times" (.int (0 - ci)) d2).d := Dt.mk3 upd_same (.str _) (.int _) (g2.kp k3)
            have z3 := hz12.kp k3
            generalize upd H2 q (.tup [.str "times", .int (0 - ci), w2]) = H3 at k3 u3 z3 ⊢
            walk_at "rd"
            refine ⟨by simp [sizeLine_eq], fun q4 hq4 => k _ _ ((k12.trans k3).trans (Kp.nil.new hq4)) ?_⟩
            exact Dt.mk3 upd_same (.str _) (z3.kp (Kp.nil.new hq4)) (u3.kp (Kp.nil.new hq4))
          · have ho2 : ¬ o2 = "times" := fun e => c (by rw [e])
            have em : mkMinus e1 (.bin o2 c2 d2) = .bin "minus" e1 (.bin o2 c2 d2) := by
              unfold mkMinus
              dsimp only
              rw [if_neg ho2]
            rw [em] at k
            walk_at "rd"
            exact ⟨by simp [sizeLine_eq], fun q hq => k _ _ (k12.trans (Kp.nil.new hq)) (pair q hq)⟩
abbrev s_law_test_other : Stmt := topS 58
abbrev N_law_test_other : List Str := ["_law_test_here", "_law_swap"]
abbrev P_law_test_other : List Str := ["_law_test_here", "_law_swap"]
theorem sc_law_test_other : FnScope N_law_test_other P_law_test_other (defScope s_law_test_other) :=
  ⟨rfl, rfl, rfl, by decide +kernel, rfl, by decide +kernel, by decide +kernel⟩
theorem ok__law_test_other1 (D : Df K mg "_law_test_other" s_law_test_other P_law_test_other) (B : Blt mg) {n lv : Nat} {sp2 : Sp} (hlv : 4 ≤ lv)
    (G_law_other : Has P w K mg base CX0 "_law_other" ["_law_expression_here", "_law_swap"] 4 (spOt K 3))
    (G_law_test_other : Has P w K mg base CX0 "_law_test_other" P_law_test_other lv sp2) (hs : ∀ m, n = m + 1 → sp2 = spOtT K m) : Has P w K mg base CX0 "_law_test_other" P_law_test_other (lv + 1) (spOtT K n) := by
  refine D.has sc_law_test_other (fun vs H Q E h => ?_) (fun f cdv A outer s H vs Q E hr h => ?_)
  · obtain ⟨v, a, xs, sw, t, rfl, _⟩ := h
    rfl
  obtain ⟨v, a, xs, sw, t, rfl, hd, hS, hv, k⟩ := h
  refine ⟨_, (pss_cons (ps_if (pt_cmpR op_eq (pe_ix ix_tup (pv 0) pe_int (fun _ _ => rfl)) pe_str (nomark _)) (pss_one (ps_ret (pe_tup (pa_cons pe_str (pa_cons (pe_f G_law_test_other (hr.mono (by omega)) (by rfl) pass0 (pa_cons (pe_ix ix_tup (pv 0) pe_int (fun _ _ => rfl)) (pa_cons (pv 1) pa_nil))) pa_nil)))))
        pss_nil)
      (pss_cons (ps_if (pt_cmpR op_eq (pe_ix ix_tup (pv 0) pe_int (fun _ _ => rfl)) pe_str (nomark _)) (pss_one (ps_ret (pe_tup (pa_cons pe_str (pa_cons (pe_dget hr.hu (pv 1) (pe_ix ix_tup (pv 0) pe_int (fun _ _ => rfl)) (fun _ _ => rfl)) pa_nil)))))
        pss_nil)
      (pss_cons (ps_if (pt_cmpR op_eq (pe_ix ix_tup (pv 0) pe_int (fun _ _ => rfl)) pe_str (nomark _)) (pss_one (ps_ret (pe_tup (pa_cons pe_str (pa_cons (pe_f G_law_other (hr.mono (by omega)) (by rfl) pass0 (pa_cons (pe_ix ix_tup (pv 0) pe_int (fun _ _ => rfl)) (pa_cons (pv 1) pa_nil))) (pa_cons (pe_ix ix_tup (pv 0) pe_int (fun _ _ => rfl)) (pa_cons (pe_ix ix_tup (pv 0) pe_int (fun _ _ => rfl)) pa_nil)))))))
        pss_nil)
      (pss_one (ps_ret (pe_tup (pa_cons pe_str (pa_cons (pe_f G_law_other (hr.mono (by omega)) (by rfl) pass0 (pa_cons (pe_ix ix_tup (pv 0) pe_int (fun _ _ => rfl)) (pa_cons (pv 1) pa_nil))) (pa_cons (pe_f G_law_other (hr.mono (by omega)) (by rfl) pass0 (pa_cons (pe_ix ix_tup (pv 0) pe_int (fun _ _ => rfl)) (pa_cons (pv 1) pa_nil))) pa_nil))))))))), ?_⟩
  cases t with
  | not t =>
    cases n with
    | zero => exact hv.elim
    | succ m =>
      obtain rfl := hs m rfl
      change Dt K H v (.tuple [.str "not", t.d]) at hd
      obtain ⟨p, x, y, rfl, hT, hx, hy⟩ := Dt.is2 hd
      obtain rfl := Dt.isStr hx
      walk_at "rd"
      refine ⟨y, a, xs, sw, t, rfl, hy, hS, hv, fun H1 z1 k1 hz1 => ?_⟩
      walk_at "rd"
      refine ⟨by simp [sizeLine_eq], fun q hq => ?_⟩
      have k2 : Kp [] H1 (upd H1 q (.tup [.str "not", z1])) := Kp.nil.new hq
      exact k _ _ (k1.trans k2) (Dt.mk2 upd_same (.str _) (hz1.kp k2))
  | given z =>
    change Dt K H v (.tuple [.str "given", .str z]) at hd
    obtain ⟨p, x, y, rfl, hT, hx, hy⟩ := Dt.is2 hd
    obtain rfl := Dt.isStr hx
    obtain rfl := Dt.isStr hy
    walk_at "rd"
    refine hS.get hv.parts1 ?_
    walk_at "rd"
    refine ⟨by simp [sizeLine_eq], fun q hq => ?_⟩
    have k2 : Kp [] H (upd H q (.tup [.str "given", .str (sw z)])) := Kp.nil.new hq
    exact k _ _ k2 (Dt.mk2 upd_same (.str _) (.str _))
  | rest e b r =>
    change Dt K H v (.tuple [.str "rest", e.d, .int b, .int r]) at hd
    obtain ⟨p, x, y, z, u, rfl, hT, hx, hy, hz, hu⟩ := Dt.is4 hd
    obtain rfl := Dt.isStr hx
    obtain rfl := Dt.isInt hz
    obtain rfl := Dt.isInt hu
    walk_at "rd"
    refine ⟨y, a, xs, sw, e, rfl, hy, hS, hv.parts.1, fun H1 z1 k1 hz1 => ?_⟩
    have hT1 := sqT_kp k1 hT
    walk_at "rd"
    refine ⟨by simp [sizeLine_eq], fun q hq => ?_⟩
    have k2 : Kp [] H1 (upd H1 q (.tup [.str "rest", z1, .int b, .int r])) := Kp.nil.new hq
    exact k _ _ (k1.trans k2) (Dt.mk4 upd_same (.str _) (hz1.kp k2) (.int _) (.int _))
  | less b c =>
    change Dt K H v (.tuple [.str "less", b.d, c.d]) at hd
    obtain ⟨p, x, y, z, rfl, hT, hx, hy, hz⟩ := Dt.is3 hd
    obtain rfl := Dt.isStr hx
    walk_at "rd"
    refine ⟨y, a, xs, sw, b, rfl, hy, hS, hv.parts2.1, fun H1 z1 k1 hz1 => ?_⟩
    have hT1 := sqT_kp k1 hT
    walk_at "rd"
    refine ⟨z, a, xs, sw, c, rfl, hz.kp k1, hS.kp0 k1, hv.parts2.2, fun H2 z2 k2 hz2 => ?_⟩
    walk_at "rd"
    refine ⟨by simp [sizeLine_eq], fun q hq => ?_⟩
    have k3 : Kp [] H2 (upd H2 q (.tup [.str "less", z1, z2])) := Kp.nil.new hq
    exact k _ _ ((k1.trans k2).trans k3) (Dt.mk3 upd_same (.str _) ((hz1.kp k2).kp k3) (hz2.kp k3))
abbrev s_law_if_other : Stmt := topS 59
abbrev N_law_if_other : List Str := ["_law_row_here", "_law_swap", "_law_is_long", "_law_yes", "_law_no"]
abbrev P_law_if_other : List Str := ["_law_row_here", "_law_swap", "_law_is_long"]
theorem sc_law_if_other : FnScope N_law_if_other P_law_if_other (defScope s_law_if_other) :=
  ⟨rfl, rfl, rfl, by decide +kernel, rfl, by decide +kernel, by decide +kernel⟩
theorem ok__law_if_other1 (D : Df K mg "_law_if_other" s_law_if_other P_law_if_other) (B : Blt mg) {n lv : Nat} (hlv : 7 ≤ lv)
    (G_law_test_other : Has P w K mg base CX0 "_law_test_other" ["_law_test_here", "_law_swap"] 7 (spOtT K 2))
    (G_law_rows_other : Has P w K mg base CX0 "_law_rows_other" ["_law_block_here", "_law_swap", "_law_is_long"] lv (spOtR K n)) : Has P w K mg base CX0 "_law_if_other" P_law_if_other (lv + 1) (spOtI K n) := by
  refine D.has sc_law_if_other (fun vs H Q E h => ?_) (fun f cdv A outer s H vs Q E hr h => ?_)
  · obtain ⟨v, a, l, xs, sw, t, y, z, rfl, _⟩ := h
    rfl
  obtain ⟨v, a, l, xs, sw, t, y, z, rfl, hd, hS, ht, hy, hz, n4, y1, z1, k⟩ := h
  obtain ⟨u1, w0, w1, w2, w3, rfl, hU, h0, h1, h2, h3⟩ := Dt.is4 (show Dt K H v (.tuple [.str "if", t.d, .tuple (Sm.ds y), .tuple (Sm.ds z)]) by rw [Sm.d] at hd; exact hd)
  obtain rfl := h0.isStr
  refine ⟨_, (pss_cons (ps_par (i := 3) (j := 4) (by rfl) sc_law_if_other.nd rfl rfl (by decide) rfl rfl (pa_cons (pe_f G_law_rows_other (hr.mono (by omega)) (by rfl) pass0 (pa_cons (pe_ix ix_tup (pv 0) pe_int (fun _ _ => rfl)) (pa_cons (pv 1) (pa_cons (pv 2) pa_nil)))) (pa_cons (pe_f G_law_rows_other (hr.mono (by omega)) (by rfl) pass0 (pa_cons (pe_ix ix_tup (pv 0) pe_int (fun _ _ => rfl)) (pa_cons (pv 1) (pa_cons (pv 2) pa_nil)))) pa_nil)) (by rfl))
      (pss_cons (ps_if (pt_cmpR op_eq (pe_ix ix_tup (pe_ix ix_tup (pv 0) pe_int (fun _ _ => rfl)) pe_int (fun _ _ => rfl)) pe_str (nomark _)) (pss_one (ps_ret (pe_tup (pa_cons pe_str (pa_cons (pe_f G_law_test_other (hr.mono (by omega)) (by rfl) pass0 (pa_cons (pe_ix ix_tup (pe_ix ix_tup (pv 0) pe_int (fun _ _ => rfl)) pe_int (fun _ _ => rfl)) (pa_cons (pv 1) pa_nil))) (pa_cons (pv 4) (pa_cons (pv 3) pa_nil)))))))
        pss_nil)
      (pss_one (ps_ret (pe_tup (pa_cons pe_str (pa_cons (pe_tup (pa_cons pe_str (pa_cons (pe_f G_law_test_other (hr.mono (by omega)) (by rfl) pass0 (pa_cons (pe_ix ix_tup (pv 0) pe_int (fun _ _ => rfl)) (pa_cons (pv 1) pa_nil))) pa_nil))) (pa_cons (pv 4) (pa_cons (pv 3) pa_nil))))))))), ?_⟩
  walk_at "rd"
  refine ⟨w2, a, l, xs, sw, y, rfl, h2, hS, hy, n4, y1, fun H1 v1 k1 hv1 => ?_⟩
  have hU1 := sqT_kp k1 hU
  have hS1 := hS.kp0 k1
  have h31 := h3.kp k1
  have h11 := h1.kp k1
  walk_at "rd"
  refine ⟨w3, a, l, xs, sw, z, rfl, h31, hS1, hz, n4, z1, fun H2 v2 k2 hv2 => ?_⟩
  have hU2 := sqT_kp k2 hU1
  have hS2 := hS1.kp0 k2
  have h12 := h11.kp k2
  have hv12 := hv1.kp k2
  have k12 := k1.trans k2
  clear hU hU1 hS1 h31 h11 h0 h2 h3 hd hv1
  have ts : (∃ u, t = .not u) ∨ ∃ (o : Str) (ds : List PyData), t.d = .tuple (.str o :: ds) ∧ o ≠ "not" ∧ ∀ Y Z, otIf sw true t Y Z = .ifs (.not (t.ot sw true)) Z Y := by
    cases t with
    | not u => exact .inl ⟨u, rfl⟩
    | given g => exact .inr ⟨_, _, rfl, by decide +kernel, fun _ _ => rfl⟩
    | rest e b r => exact .inr ⟨_, _, rfl, by decide +kernel, fun _ _ => rfl⟩
    | less b c => exact .inr ⟨_, _, rfl, by decide +kernel, fun _ _ => rfl⟩
  rcases ts with ⟨u, rfl⟩ | ⟨o, ds, ed, ho, ek⟩
  · rw [otIf, if_pos rfl] at k
    have h12' := h12
    change Dt K H2 w1 (.tuple [.str "not", u.d]) at h12'
    obtain ⟨p5, g0, g1, rfl, hT5, e0, e1⟩ := Dt.is2 h12'
    obtain rfl := e0.isStr
    walk_at "rd"
    refine ⟨g1, a, xs, sw, u, rfl, e1, hS2, Ts.vn.succ (n := 1) ht, fun H3 v3 k3 hv3 => ?_⟩
    walk_at "rd"
    refine ⟨by simp [sizeLine_eq], fun q hq => ?_⟩
    have k4 : Kp [] H3 (upd H3 q (.tup [.str "if", v3, v2, v1])) := Kp.nil.new hq
    refine k _ _ ((k12.trans k3).trans k4) ?_
    rw [Sm.d]
    exact Dt.mk4 upd_same (.str _) (hv3.kp k4) ((hv2.kp k3).kp k4) ((hv12.kp k3).kp k4)
  · rw [ek] at k
    have h12' := h12
    rw [ed] at h12'
    obtain ⟨p5, us, rfl, hT5, hL5⟩ := h12'.items
    obtain ⟨g0, us', rfl, e0⟩ := hL5.un
    obtain rfl := e0.isStr
    have a0 := atI0 (.str o) us'
    walk_at "rd"
    refine ifd (fun c => ?_) (fun _ => ?_)
    · exact absurd (by injection c) ho
    walk_at "rd"
    refine ⟨_, a, xs, sw, t, rfl, h12, hS2, ht, fun H3 v3 k3 hv3 => ?_⟩
    walk_at "rd"
    refine ⟨by simp [sizeLine_eq], fun q hq => ?_⟩
    have k4 : Kp [] H3 (upd H3 q (.tup [.str "not", v3])) := Kp.nil.new hq
    have u4 : Dt K (upd H3 q (.tup [.str "not", v3])) (.ref q) (Ts.not (t.ot sw true)).d := Dt.mk2 upd_same (.str _) (hv3.kp k4)
    have b2 := (hv2.kp k3).kp k4
    have b1 := (hv12.kp k3).kp k4
    generalize upd H3 q (.tup [.str "not", v3]) = H4 at k4 u4 b1 b2 ⊢
    walk_at "rd"
    refine ⟨by simp [sizeLine_eq], fun q5 hq5 => ?_⟩
    have k5 : Kp [] H4 (upd H4 q5 (.tup [.str "if", .ref q, v2, v1])) := Kp.nil.new hq5
    refine k _ _ ((k12.trans k3).trans (k4.trans k5)) ?_
    rw [Sm.d]
    exact Dt.mk4 upd_same (.str _) (u4.kp k5) (b2.kp k5) (b1.kp k5)
abbrev s_law_rows_other : Stmt := topS 60
abbrev N_law_rows_other : List Str := ["_law_block_here", "_law_swap", "_law_is_long", "_law_found", "_law_row_here", "_law_inner"]
abbrev P_law_rows_other : List Str := ["_law_block_here", "_law_swap", "_law_is_long"]
theorem sc_law_rows_other : FnScope N_law_rows_other P_law_rows_other (defScope s_law_rows_other) :=
  ⟨rfl, rfl, rfl, by decide +kernel, rfl, by decide +kernel, by decide +kernel⟩
theorem ok__law_rows_other1 (D : Df K mg "_law_rows_other" s_law_rows_other P_law_rows_other) (B : Blt mg) {n lv : Nat} {sp2 sp3 : Sp} (hlv : 4 ≤ lv)
    (G_law_other : Has P w K mg base CX0 "_law_other" ["_law_expression_here", "_law_swap"] 4 (spOt K 3))
    (G_law_if_other : Has P w K mg base CX0 "_law_if_other" ["_law_row_here", "_law_swap", "_law_is_long"] lv sp3) (hs3 : ∀ m, n = m + 1 → sp3 = spOtI K m)
    (G_law_rows_other : Has P w K mg base CX0 "_law_rows_other" P_law_rows_other lv sp2) (hs : ∀ m, n = m + 1 → sp2 = spOtR K m) : Has P w K mg base CX0 "_law_rows_other" P_law_rows_other (lv + 1) (spOtR K n) := by
  refine D.has sc_law_rows_other (fun vs H Q E h => ?_) (fun f cdv A outer s H vs Q E hr h => ?_)
  · obtain ⟨v, a, l, xs, sw, b, rfl, _⟩ := h
    rfl
  obtain ⟨v, a, l, xs, sw, b, rfl, hd, hS, hv, n4, hz, k⟩ := h
  obtain ⟨ua, us, rfl, hT, hL⟩ := hd.items
  have hlen : us.length = b.length := by rw [hL.len, Sm.ds_map, List.length_map]
  have hbl := Nat.le_trans (Sm.len_sizes b) hz
  refine ⟨_, (pss_cons (ps_set (i := 3) sc_law_rows_other.nd rfl (Or.inl rfl) (pe_tup pa_nil))
      (pss_cons (ps_for PassesOwn.never rfl (pi_tup (pv 0)) (pg_name (i := 4) sc_law_rows_other.nd rfl (Or.inl rfl))
        (pss_one (ps_if (pt_cmpR op_eq (pe_ix ix_tup (pv 4) pe_int (fun _ _ => rfl)) pe_str (nomark _)) (pss_one (ps_set (i := 3) sc_law_rows_other.nd rfl (Or.inl rfl) (pe_op op_catA (pv 3) (pe_tup (pa_cons (pe_f G_law_if_other (hr.mono (by omega)) (by rfl) pass0 (pa_cons (pv 4) (pa_cons (pv 1) (pa_cons (pv 2) pa_nil)))) pa_nil)))))
        (pss_one (ps_if (pt_cmpR op_eq (pe_ix ix_tup (pv 4) pe_int (fun _ _ => rfl)) pe_str (nomark _)) (pss_cons (ps_set (i := 5) sc_law_rows_other.nd rfl (Or.inl rfl) (pe_f G_law_rows_other (hr.mono (by omega)) (by rfl) pass0 (pa_cons (pe_ix ix_tup (pv 4) pe_int (fun _ _ => rfl)) (pa_cons (pv 1) (pa_cons (pv 2) pa_nil)))))
      (pss_one (ps_set (i := 3) sc_law_rows_other.nd rfl (Or.inl rfl) (pe_op op_catA (pv 3) (pe_ifExp (pt_val (pv 2)) (pe_op op_repS (pv 5) (pe_ix ix_tup (pv 4) pe_int (fun _ _ => rfl))) (pe_tup (pa_cons (pe_tup (pa_cons pe_str (pa_cons (pe_ix ix_tup (pv 4) pe_int (fun _ _ => rfl)) (pa_cons (pv 5) pa_nil)))) pa_nil)))))))
        (pss_one (ps_if (pt_cmpR op_eq (pe_ix ix_tup (pv 4) pe_int (fun _ _ => rfl)) pe_str (nomark _)) (pss_one (ps_set (i := 3) sc_law_rows_other.nd rfl (Or.inl rfl) (pe_op op_catA (pv 3) (pe_tup (pa_cons (pe_tup (pa_cons pe_str (pa_cons (pe_dget hr.hu (pv 1) (pe_ix ix_tup (pv 4) pe_int (fun _ _ => rfl)) (fun _ _ => rfl)) (pa_cons (pe_f G_law_other (hr.mono (by omega)) (by rfl) pass0 (pa_cons (pe_ix ix_tup (pv 4) pe_int (fun _ _ => rfl)) (pa_cons (pv 1) pa_nil))) pa_nil)))) pa_nil)))))
        (pss_one (ps_if (pt_cmpR op_eq (pe_ix ix_tup (pv 4) pe_int (fun _ _ => rfl)) pe_str (nomark _)) (pss_one (ps_set (i := 3) sc_law_rows_other.nd rfl (Or.inl rfl) (pe_op op_catA (pv 3) (pe_tup (pa_cons (pe_tup (pa_cons pe_str (pa_cons (pe_dget hr.hu (pv 1) (pe_ix ix_tup (pv 4) pe_int (fun _ _ => rfl)) (fun _ _ => rfl)) pa_nil))) pa_nil)))))
        (pss_one (ps_if (pt_cmpR op_eq (pe_ix ix_tup (pv 4) pe_int (fun _ _ => rfl)) pe_str (nomark _)) (pss_one (ps_set (i := 3) sc_law_rows_other.nd rfl (Or.inl rfl) (pe_op op_catA (pv 3) (pe_tup (pa_cons (pe_tup (pa_cons pe_str (pa_cons (pe_f G_law_other (hr.mono (by omega)) (by rfl) pass0 (pa_cons (pe_ix ix_tup (pv 4) pe_int (fun _ _ => rfl)) (pa_cons (pv 1) pa_nil))) pa_nil))) pa_nil)))))
        (pss_one (ps_set (i := 3) sc_law_rows_other.nd rfl (Or.inl rfl) (pe_op op_catA (pv 3) (pe_tup (pa_cons (pv 4) pa_nil))))))))))))))))
      (pss_one (ps_ret (pv 3))))), ?_⟩
  walk_at "rd"
  refine ⟨by decide, fun fq hfq => ?_⟩
  have kq : Kp [] H (upd H fq (.tup [])) := Kp.nil.new hfq
  have hq0 : Dt K (upd H fq (.tup [])) (.ref fq) (.tuple (Sm.ds (Sm.ots sw true l []))) := by rw [Sm.ots, Sm.ds]; exact Dt.mk0 upd_same
  generalize upd H fq (.tup []) = Hq at kq hq0 ⊢
  walk_at "rd"
  refine r_ForT (sqT_kp kq hT) (fun i σ H' => ∃ (fv : V) (x x2 : Option V), σ = [some (.ref ua), some (.ref a), some (.bl l), some fv, x, x2] ∧ Kp [] H H' ∧ Dt K H' fv (.tuple (Sm.ds (Sm.ots sw true l (b.take i)))))
    ⟨_, none, none, rfl, kq, by rw [List.take_zero]; exact hq0⟩ (fun i σ H' ⟨_, _, _, _, q1, _⟩ => sqT_kp q1 hT) ?_ ?_
  · rintro i u σ H1 hu ⟨fv, x, x2, rfl, k1, hf1⟩
    obtain ⟨du, hdu, hud⟩ := hL.get hu
    rw [Sm.ds_map, List.getElem?_map] at hdu
    obtain ⟨c, hc, rfl⟩ := Option.map_eq_some_iff.mp hdu
    have hcm : c ∈ b := List.mem_of_getElem? hc
    have hcz : c.size ≤ 24 := Nat.le_trans (Sm.size_mem hcm) hz
    obtain ⟨m, rfl⟩ : ∃ m, n = m + 1 := by
      cases n with
      | zero =>
        rw [show b = [] from hv] at hcm
        cases hcm
      | succ m => exact ⟨m, rfl⟩
    obtain rfl := hs m rfl
    obtain rfl := hs3 m rfl
    have hcv : Sm.vn xs m c := hv c hcm
    have hud1 := hud.kp k1
    have hS1 := hS.kp0 k1
    have htk : Sm.ds (Sm.ots sw true l (b.take (i + 1))) = Sm.ds (Sm.ots sw true l (b.take i)) ++ Sm.ds (c.ot sw true l) := by
      rw [Sm.ots_take hc, Sm.ds_app]
    have tl : (Sm.ots sw true l (b.take i)).length ≤ 98304 := by
      have q := Sm.ots_len (sw := sw) (g := true) (l := l) hv n4 hz
      have e : Sm.ots sw true l b = Sm.ots sw true l (b.take i) ++ Sm.ots sw true l (b.drop i) := by rw [← Sm.ots_app, List.take_append_drop]
      rw [e, List.length_append] at q
      omega
    generalize hF : Sm.ots sw true l (b.take i) = F at hf1 htk tl
    clear hF hdu hu
    have fin : ∀ (H' : Hp) (z : V) (X : List Sm), Kp [] H1 H' → Sm.ds (c.ot sw true l) = Sm.ds X → X.length ≤ 1000000 → Dt K H' z (.tuple (Sm.ds X)) → ∀ (nx : VK), (∀ H2 w, Kp [] H1 H2 → Dt K H2 w (.tuple (Sm.ds (Sm.ots sw true l (b.take (i + 1))))) → nx w H2) → rCatA K fv z H' nx := fun H' z X kk eX lX hX nx hn => by
      refine r_catA (hf1.kp kk) hX (by rw [Sm.ds_len, Sm.ds_len]; omega) fun H5 z5 k5 hz5 => hn H5 z5 (kk.trans k5) ?_
      rw [htk, eX]
      exact hz5
    have fin1 : ∀ (H' : Hp) (z : V) (X : Sm), Kp [] H1 H' → Dt K H' z X.d → c.ot sw true l = [X] → ∀ (nx : VK), (∀ H2 w, Kp [] H1 H2 → Dt K H2 w (.tuple (Sm.ds (Sm.ots sw true l (b.take (i + 1))))) → nx w H2) →
        [z].length ≤ sizeLine ∧ ∀ p4, H' p4 = none → rCatA K fv (.ref p4) (upd H' p4 (.tup [z])) nx := fun H' z X kk hX eX nx hn => by
      refine ⟨by simp [sizeLine_eq], fun p4 hp4 => ?_⟩
      have k4 : Kp [] H' (upd H' p4 (.tup [z])) := Kp.nil.new hp4
      exact fin _ _ [X] (kk.trans k4) (by rw [eX]) (by simp) (Dt.mk1 upd_same (hX.kp k4)) nx hn
    walk_at "rds"
    cases c with
    | pl t =>
      have hpv : t.vn xs := hcv.pl
      cases t with
      | set y e =>
        have hud2 := hud1
        change Dt K H1 u (.tuple [.str "set", .str y, e.d]) at hud2
        obtain ⟨u1, w0, w1, w2, rfl, hU, h0, h1, h2⟩ := Dt.is3 hud2
        obtain rfl := h0.isStr
        obtain rfl := h1.isStr
        walk_at "rd"
        refine hS1.get hpv.1 ?_
        walk_at "rd"
        refine ⟨w2, a, xs, sw, e, rfl, h2, hS1, hpv.2, fun H2 z2 k2 hz2 => ?_⟩
        walk_at "rd"
        refine ⟨by simp [sizeLine_eq], fun q hq => ?_⟩
        have k3 : Kp [] H2 (upd H2 q (.tup [.str "set", .str (sw y), z2])) := Kp.nil.new hq
        have u3 : Dt K (upd H2 q (.tup [.str "set", .str (sw y), z2])) (.ref q) (Sm.pl (.set (sw y) (e.ot sw true))).d := Dt.mk3 upd_same (.str _) (.str _) (hz2.kp k3)
        generalize upd H2 q (.tup [.str "set", .str (sw y), z2]) = H3 at k3 u3 ⊢
        walk_at "rd"
        refine fin1 _ _ _ (k2.trans k3) u3 (by rw [Sm.ot]; rfl) _ fun H9 z9 k9 hz9 => ?_
        walk_at "rd"
        exact ⟨_, _, _, rfl, k1.trans k9, hz9⟩
      | tell e =>
        have hud2 := hud1
        change Dt K H1 u (.tuple [.str "tell", e.d]) at hud2
        obtain ⟨u1, w0, w1, rfl, hU, h0, h1⟩ := Dt.is2 hud2
        obtain rfl := h0.isStr
        walk_at "rd"
        refine ⟨w1, a, xs, sw, e, rfl, h1, hS1, hpv, fun H2 z2 k2 hz2 => ?_⟩
        walk_at "rd"
        refine ⟨by simp [sizeLine_eq], fun q hq => ?_⟩
        have k3 : Kp [] H2 (upd H2 q (.tup [.str "tell", z2])) := Kp.nil.new hq
        have u3 : Dt K (upd H2 q (.tup [.str "tell", z2])) (.ref q) (Sm.pl (.tell (e.ot sw true))).d := Dt.mk2 upd_same (.str _) (hz2.kp k3)
        generalize upd H2 q (.tup [.str "tell", z2]) = H3 at k3 u3 ⊢
        walk_at "rd"
        refine fin1 _ _ _ (k2.trans k3) u3 (by rw [Sm.ot]; rfl) _ fun H9 z9 k9 hz9 => ?_
        walk_at "rd"
        exact ⟨_, _, _, rfl, k1.trans k9, hz9⟩
      | unset y =>
        have hud2 := hud1
        change Dt K H1 u (.tuple [.str "unset", .str y]) at hud2
        obtain ⟨u1, w0, w1, rfl, hU, h0, h1⟩ := Dt.is2 hud2
        obtain rfl := h0.isStr
        obtain rfl := h1.isStr
        walk_at "rd"
        refine hS1.get hpv ?_
        walk_at "rd"
        refine ⟨by simp [sizeLine_eq], fun q hq => ?_⟩
        have k3 : Kp [] H1 (upd H1 q (.tup [.str "unset", .str (sw y)])) := Kp.nil.new hq
        have u3 : Dt K (upd H1 q (.tup [.str "unset", .str (sw y)])) (.ref q) (Sm.pl (.unset (sw y))).d := Dt.mk2 upd_same (.str _) (.str _)
        generalize upd H1 q (.tup [.str "unset", .str (sw y)]) = H3 at k3 u3 ⊢
        walk_at "rd"
        refine fin1 _ _ _ k3 u3 (by rw [Sm.ot]; rfl) _ fun H9 z9 k9 hz9 => ?_
        walk_at "rd"
        exact ⟨_, _, _, rfl, k1.trans k9, hz9⟩
      | say y =>
        have hud2 := hud1
        change Dt K H1 u (.tuple [.str "say", .str y]) at hud2
        obtain ⟨u1, w0, w1, rfl, hU, h0, h1⟩ := Dt.is2 hud2
        obtain rfl := h0.isStr
        walk_at "rd"
        refine fin1 _ _ (.pl (.say y)) Kp.nil hud1 (by rw [Sm.ot]; rfl) _ fun H9 z9 k9 hz9 => ?_
        walk_at "rd"
        exact ⟨_, _, _, rfl, k1.trans k9, hz9⟩
      | stop y =>
        have hud2 := hud1
        change Dt K H1 u (.tuple [.str "stop", .str y]) at hud2
        obtain ⟨u1, w0, w1, rfl, hU, h0, h1⟩ := Dt.is2 hud2
        obtain rfl := h0.isStr
        walk_at "rd"
        refine fin1 _ _ (.pl (.stop y)) Kp.nil hud1 (by rw [Sm.ot]; rfl) _ fun H9 z9 k9 hz9 => ?_
        walk_at "rd"
        exact ⟨_, _, _, rfl, k1.trans k9, hz9⟩
    | ifs t yy zz =>
      obtain ⟨ht, hy, hz'⟩ := hcv.ifs
      rw [Sm.size] at hcz
      obtain ⟨u1, w0, w1, w2, w3, rfl, hU, h0, h1, h2, h3⟩ := Dt.is4 (show Dt K H1 u (.tuple [.str "if", t.d, .tuple (Sm.ds yy), .tuple (Sm.ds zz)]) by rw [Sm.d] at hud1; exact hud1)
      obtain rfl := h0.isStr
      walk_at "rd"
      refine ⟨_, a, l, xs, sw, t, yy, zz, rfl, hud1, hS1, ht, hy, hz', by omega, by omega, by omega, fun H2 z2 k2 hz2 => ?_⟩
      walk_at "rd"
      refine fin1 _ _ _ k2 hz2 (by rw [Sm.ot]) _ fun H9 z9 k9 hz9 => ?_
      walk_at "rd"
      exact ⟨_, _, _, rfl, k1.trans k9, hz9⟩
    | rep kk bb =>
      obtain ⟨r0, r8, hb⟩ := hcv.rep
      rw [Sm.size] at hcz
      obtain ⟨u1, w0, w1, w2, rfl, hU, h0, h1, h2⟩ := Dt.is3 (show Dt K H1 u (.tuple [.str "repeat", .int kk, .tuple (Sm.ds bb)]) by rw [Sm.d] at hud1; exact hud1)
      obtain rfl := h0.isStr
      obtain rfl := h1.isInt
      walk_at "rd"
      refine ⟨w2, a, l, xs, sw, bb, rfl, h2, hS1, hb, by omega, by omega, fun H2 z2 k2 hz2 => ?_⟩
      have hU2 := sqT_kp k2 hU
      have il := Sm.ots_len (sw := sw) (g := true) (l := l) hb (by omega) (show Sm.sizes bb ≤ 24 by omega)
      cases l with
      | true =>
        walk_at "rd"
        refine r_repS hz2 r0 (by omega) (by rw [Sm.ds_len]; omega) fun H3 z3 k3 hz3 => ?_
        have ee : (List.replicate kk.toNat (Sm.ds (Sm.ots sw true true bb))).flatten = Sm.ds (List.replicate kk.toNat (Sm.ots sw true true bb)).flatten := by
          rw [Sm.ds_map, Sm.ds_map, List.map_flatten, List.map_replicate]
        rw [ee] at hz3
        refine fin _ _ _ (k2.trans k3) (by rw [Sm.ot, if_pos rfl]) ?_ hz3 _ fun H9 z9 k9 hz9 => ?_
        · have q := Nat.mul_le_mul (show kk.toNat ≤ 8 by omega) il
          rw [PyProof.Rows.lm_len_rep_flat]
          omega
        walk_at "rd"
        exact ⟨_, _, _, rfl, k1.trans k9, hz9⟩
      | false =>
        walk_at "rd"
        refine ⟨by simp [sizeLine_eq], fun q hq => ?_⟩
        have k3 : Kp [] H2 (upd H2 q (.tup [.str "repeat", .int kk, z2])) := Kp.nil.new hq
        have u3 : Dt K (upd H2 q (.tup [.str "repeat", .int kk, z2])) (.ref q) (Sm.rep kk (Sm.ots sw true false bb)).d := by
          rw [Sm.d]
          exact Dt.mk3 upd_same (.str _) (.int _) (hz2.kp k3)
        generalize upd H2 q (.tup [.str "repeat", .int kk, z2]) = H3 at k3 u3 ⊢
        walk_at "rd"
        refine fin1 _ _ _ (k2.trans k3) u3 (by rw [Sm.ot, if_neg (by decide)]) _ fun H9 z9 k9 hz9 => ?_
        walk_at "rd"
        exact ⟨_, _, _, rfl, k1.trans k9, hz9⟩
  · rintro σ H1 ⟨fv, x, x2, rfl, k1, hf1⟩
    rw [hlen, List.take_length] at hf1
    walk_at "rd"
    exact k _ _ k1 hf1
abbrev s_law_with_more : Stmt := topS 61
abbrev N_law_with_more : List Str := ["_law_deck_here", "_law_program_here", "_law_at", "_law_more", "_law_first"]
abbrev P_law_with_more : List Str := ["_law_deck_here", "_law_program_here"]
theorem sc_law_with_more : FnScope N_law_with_more P_law_with_more (defScope s_law_with_more) :=
  ⟨rfl, rfl, rfl, by decide +kernel, rfl, by decide +kernel, by decide +kernel⟩
theorem ok__law_with_more (D : Df K mg "_law_with_more" s_law_with_more P_law_with_more) (B : Blt mg)
    (G_law_draw : Has P w K mg base CX0 "_law_draw" ["_law_deck_here", "_law_many"] 1 spDraw) (G_law_one : Has P w K mg base CX0 "_law_one" ["_law_deck_here", "_law_items"] 2 (spOne K)) :
    Has P w K mg base CX0 "_law_with_more" P_law_with_more 3 (spMoreV K) := by
  refine D.has sc_law_with_more (fun vs H Q E h => ?_) (fun f cdv A outer s H vs Q E hr h => ?_)
  · obtain ⟨d, c, n, v, b, rfl, _⟩ := h
    rfl
  obtain ⟨d, c, n, v, b, rfl, Dk, hn, hd, hz, k⟩ := h
  have n0 := Dk.n0
  obtain ⟨ua, us, rfl, hT, hL⟩ := hd.items
  have hlen : us.length = b.length := by rw [hL.len, Sm.ds_map, List.length_map]
  refine ⟨_, (pss_cons (ps_set (i := 2) sc_law_with_more.nd rfl (Or.inl rfl) (pe_f G_law_draw (hr.mono (by omega)) (by rfl) pass0 (pa_cons (pv 0) (pa_cons (pe_op op_add (pe_callB c_len (by rfl) B.len (by decide +kernel) (pa_cons (pv 1) pa_nil)) pe_int) pa_nil))))
      (pss_cons (ps_set (i := 3) sc_law_with_more.nd rfl (Or.inl rfl) (pe_lst (pa_cons (pe_tup (pa_cons pe_str (pa_cons pe_str pa_nil))) (pa_cons (pe_tup (pa_cons pe_str (pa_cons pe_int (pa_cons (pe_tup (pa_cons (pe_tup (pa_cons pe_str (pa_cons pe_str pa_nil))) pa_nil)) pa_nil)))) (pa_cons (pe_tup (pa_cons pe_str (pa_cons pe_int (pa_cons (pe_tup pa_nil) pa_nil)))) pa_nil)))))
      (pss_cons (ps_set (i := 3) sc_law_with_more.nd rfl (Or.inl rfl) (pe_op op_cat (pv 3) (pe_lst (pa_cons (pe_tup (pa_cons pe_str (pa_cons (pe_tup (pa_cons pe_str (pa_cons pe_str pa_nil))) (pa_cons (pe_tup pa_nil) (pa_cons (pe_tup pa_nil) pa_nil))))) (pa_cons (pe_tup (pa_cons pe_str (pa_cons (pe_tup (pa_cons pe_str (pa_cons pe_int (pa_cons pe_int pa_nil)))) (pa_cons (pe_tup (pa_cons (pe_tup (pa_cons pe_str (pa_cons pe_str pa_nil))) pa_nil)) (pa_cons (pe_tup pa_nil) pa_nil))))) pa_nil)))))
      (pss_cons (ps_set (i := 4) sc_law_with_more.nd rfl (Or.inl rfl) (pe_op op_repS (pe_tup (pa_cons (pe_tup (pa_cons pe_str (pa_cons pe_str (pa_cons pe_str pa_nil)))) pa_nil)) (pe_f G_law_draw (hr.mono (by omega)) (by rfl) pass0 (pa_cons (pv 0) (pa_cons pe_int pa_nil)))))
      (pss_one (ps_ret (pe_op op_catA (pe_op op_catA (pe_op op_catA (pv 4) (pe_slice sl_tupA (pv 1) po_none (po_some (pv 2)))) (pe_tup (pa_cons (pe_f G_law_one (hr.mono (by omega)) (by rfl) pass0 (pa_cons (pv 0) (pa_cons (pv 3) pa_nil))) pa_nil))) (pe_slice sl_tupA (pv 1) (po_some (pv 2)) po_none)))))))), ?_⟩
  walk_at "rd"
  refine spDraw.use Dk (by omega) (by omega) (by omega) fun H1 u u0 u1 D1 k1 => ?_
  obtain ⟨i, rfl⟩ : ∃ i : Nat, u = (i : Int) := ⟨u.toNat, by omega⟩
  have hib : i ≤ b.length := by omega
  with_reducible refine r_name ?_
  with_reducible refine r_seq ?_
  with_reducible refine r_asg ?_
  with_reducible refine r_lst ?_
  refine CDs.use (K := K) (ds := Sm.ds [.pl (.unset "spare1"), .rep 0 [.pl (.stop "x")], .rep 3 []]) ?a1 fun H2 vs2 k2 hs2 => ⟨by rw [hs2.len, sizeLine_eq]; decide, fun p2 hp2 => ?_⟩
  case a1 =>
    simp only [Sm.ds, Sm.d, Pl.d]
    walk_at "cd"
  have k3 : Kp [] H1 (upd H2 p2 (.lst vs2)) := k2.new hp2
  have D3 := D1.kp k3 (by simp) (by simp)
  have hs3 := hs2.kp (Kp.nil.new (o := .lst vs2) hp2)
  have q3 : upd H2 p2 (.lst vs2) p2 = some (.lst vs2) := upd_same
  generalize upd H2 p2 (.lst vs2) = H3 at k3 D3 hs3 q3 ⊢
  with_reducible refine r_name ?_
  with_reducible refine r_seq ?_
  with_reducible refine r_asg ?_
  with_reducible refine r_op ?_
  with_reducible apply r_var
  · exact rfl
  with_reducible refine r_lst ?_
  refine CDs.use (K := K) (ds := Sm.ds [.ifs (.given "spare1") [] [], .ifs (.less (.int 1) (.int 0)) [.pl (.say "x")] []]) ?a2 fun H4 vs4 k4 hs4 => ⟨by rw [hs4.len, sizeLine_eq]; decide, fun p4 hp4 => ?_⟩
  case a2 =>
    simp only [Sm.ds, Sm.d, Pl.d, Ts.d, Ex.d]
    walk_at "cd"
  have k5 : Kp [] H3 (upd H4 p4 (.lst vs4)) := k4.new hp4
  have D5 := D3.kp k5 (by simp) (by simp)
  have hs5 := (hs3.kp k5).app (hs4.kp (Kp.nil.new (o := .lst vs4) hp4))
  have q5 := k5.get q3 (by simp)
  have r5 : upd H4 p4 (.lst vs4) p4 = some (.lst vs4) := upd_same
  generalize upd H4 p4 (.lst vs4) = H5 at k5 D5 hs5 q5 r5 ⊢
  have l2 := hs2.len
  have l4 := hs4.len
  refine r_cat q5 r5 (by rw [l2, l4, sizeLine_eq]; decide) fun p6 hp6 => ?_
  have k6 : Kp [] H5 (upd H5 p6 (.lst (vs2 ++ vs4))) := Kp.nil.new hp6
  have D6 := D5.kp k6 (by simp) (by simp)
  have hs6 : DtL K (upd H5 p6 (.lst (vs2 ++ vs4))) (vs2 ++ vs4) (Sm.ds moreS) := hs5.kp k6
  have q6 : upd H5 p6 (.lst (vs2 ++ vs4)) p6 = some (.lst (vs2 ++ vs4)) := upd_same
  have hv6 : (vs2 ++ vs4).length = 5 := by rw [hs6.len]; rfl
  have kk6 := (k3.trans k5).trans k6
  have f6 := D5.fresh hp6
  generalize upd H5 p6 (.lst (vs2 ++ vs4)) = H6 at k6 D6 hs6 q6 kk6 ⊢
  generalize vs2 ++ vs4 = ws at hs6 q6 hv6
  clear hs2 hs3 hs4 hs5 k2 k3 k4 k5 D3 D5 q3 q5 r5 l2 l4 hp2 hp4 hp6
  have hd1 := (hd.kp k1).kp kk6
  with_reducible refine r_name ?_
  with_reducible refine r_seq ?_
  with_reducible refine r_asg ?_
  with_reducible refine r_op ?_
  refine CD.use (K := K) (d := .tuple (Sm.ds [setNN])) ?a3 fun H7 v7 k7 hv7 => ?_
  case a3 =>
    unfold setNN
    simp only [Sm.ds, Sm.d, Pl.d, Ex.d]
    walk_at "cd"
  have D7 := D6.kp k7 (by simp) (by simp)
  walk_at "rd"
  refine spDraw.use D7 (by omega) (by omega) (by omega) fun H8 g g0 g1 D8 k8 => ?_
  have hv8 := hv7.kp k8
  have hs8 := (hs6.kp k7).kp k8
  have q8 := k8.get (k7.get q6 (by simp)) (by simp [f6.1, f6.2])
  have hd8 := (hd1.kp k7).kp k8
  have kk8 : Kp [d, c] H H8 := ((k1.trans (kk6.sub D1.ls (by simp))).trans (k7.sub D6.ls (by simp))).trans k8
  clear hd1 hs6 q6 hv7 D7 D6 D1 hd hT hL
  refine r_repS hv8 g0 (by omega) (by rw [Sm.ds_len]; decide) fun H9 z9 k9 hz9 => ?_
  have e9 : (List.replicate g.toNat (Sm.ds [setNN])).flatten = Sm.ds (List.replicate g.toNat setNN) := by
    rcases (by omega : g = 0 ∨ g = 1) with rfl | rfl
    · rfl
    · rfl
  rw [e9] at hz9
  have D9 := D8.kp k9 (by simp) (by simp)
  have hs9 := hs8.kp k9
  have q9 := k9.get q8 (by simp)
  have hd9 := hd8.kp k9
  walk_at "rd"
  refine r_slD hd9 fun Ha za ka hza => ?_
  rw [cutD_to _ _ (by rw [Sm.ds_len]; exact hib)] at hza
  walk_at "rd"
  refine r_catA (K := K) (hz9.kp ka) hza (by rw [Sm.ds_len, List.length_replicate, List.length_take, Sm.ds_len]; omega) fun Hb zb kb hzb => ?_
  walk_at "rd"
  have kab := ka.trans kb
  refine spOne.list (D9.kp kab (by simp) (by simp)) (by omega) (SqL.of (kab.get q9 (by simp))) f6.1 f6.2 (by omega) (by omega) fun Hc mi mv hmv Dc kc => ?_
  obtain ⟨md, hmd, hmt⟩ := (hs9.kp kab).get hmv
  rw [Sm.ds_map, List.getElem?_map] at hmd
  obtain ⟨m, hm, rfl⟩ := Option.map_eq_some_iff.mp hmd
  have hmm : m ∈ moreS := List.mem_of_getElem? hm
  have hmt' := hmt.kp kc
  have hzc := hzb.kp kc
  have hdc := (hd9.kp kab).kp kc
  walk_at "rd"
  refine ⟨by simp [sizeLine_eq], fun pd hpd => ?_⟩
  have kd : Kp [] Hc (upd Hc pd (.tup [mv])) := Kp.nil.new hpd
  have hmd' : Dt K (upd Hc pd (.tup [mv])) (.ref pd) (.tuple (Sm.ds [m])) := Dt.mk1 upd_same (hmt'.kp kd)
  have hzd := hzc.kp kd
  have hdd := hdc.kp kd
  have Dd := Dc.kp kd (by simp) (by simp)
  generalize upd Hc pd (.tup [mv]) = Hd at kd hmd' hzd hdd Dd ⊢
  refine r_catA (K := K) hzd hmd' (by rw [List.length_append, Sm.ds_len, Sm.ds_len, List.length_replicate, List.length_take, Sm.ds_len]; simp; omega) fun He ze ke hze => ?_
  walk_at "rd"
  refine r_slD (hdd.kp ke) fun Hf zf kf hzf => ?_
  rw [cutD_from _ _ (by rw [Sm.ds_len]; exact hib)] at hzf
  refine r_catA (K := K) (hze.kp kf) hzf (by rw [List.length_append, List.length_append, Sm.ds_len, Sm.ds_len, List.length_replicate, List.length_take, List.length_drop, Sm.ds_len]; simp; omega) fun Hg zg kg hzg => ?_
  have kfg := ke.trans (kf.trans kg)
  refine k Hg zg (n + 3) g.toNat i m (by have := Dd.kp kfg (by simp) (by simp); rw [show n + 3 = n + 1 + 1 + 1 by omega]; exact this) (by omega) (by omega) ?_ (by omega) hmm ?_
  · exact (((kk8.trans (k9.sub D8.ls (by simp))).trans (kab.sub D9.ls (by simp))).trans kc).trans ((kd.trans kfg).sub Dc.ls (by simp))
  · have e : Sm.ds (moreL g.toNat i m b) = Sm.ds (List.replicate g.toNat setNN) ++ (Sm.ds b).take i ++ Sm.ds [m] ++ (Sm.ds b).drop i := by
      unfold moreL
      rw [Sm.ds_app, Sm.ds_app, Sm.ds_app, Sm.ds_map (b.take i), Sm.ds_map (b.drop i), Sm.ds_map b, List.map_take, List.map_drop]
    rw [e]
    exact hzg
abbrev slaw : Stmt := topS 62
abbrev Nlaw : List Str := ["_law_script", "_law_deck_here", "_law_turn", "_law_names_here", "_law_program_here", "_law_swap", "_law_other_here", "_law_version", "_law_k", "_law_number_here"]
abbrev Plaw : List Str := ["_law_script"]
theorem sclaw : FnScope Nlaw Plaw (defScope slaw) :=
  ⟨rfl, rfl, rfl, by decide +kernel, rfl, by decide +kernel, by decide +kernel⟩
theorem ok_law (D : Df K mg "law" slaw Plaw) (B : Blt mg) (hM : ∃ mm, base.Ns sysModules mm)
    (G_law_deck : Has P w K mg base CX0 "_law_deck" ["_law_script"] 1 (spDeck K)) (G_law_names : Has P w K mg base CX0 "_law_names" ["_law_deck_here"] 3 spNmN)
    (G_law_program : Has P w K mg base CX0 "_law_program" ["_law_deck_here", "_law_names_here"] 16 (spPgN K)) (G_law_number : Has P w K mg base CX0 "_law_number" ["_law_deck_here"] 3 spNum)
    (G_law_draw : Has P w K mg base CX0 "_law_draw" ["_law_deck_here", "_law_many"] 1 spDraw) (G_law_one : Has P w K mg base CX0 "_law_one" ["_law_deck_here", "_law_items"] 2 (spOne K))
    (Gsums_of : Has P w K mg base CX0 "sums_of" ["program", "number"] 19 (spSums K)) (G_law_rows_other : Has P w K mg base CX0 "_law_rows_other" ["_law_block_here", "_law_swap", "_law_is_long"] 16 (spOtR K 4))
    (G_law_with_more : Has P w K mg base CX0 "_law_with_more" ["_law_deck_here", "_law_program_here"] 3 (spMoreV K)) (Gprogram_error : Has P w K mg base CX0 "program_error" ["value"] 12 (spPerr K)) :
    Has P w K mg base CX0 "law" Plaw 21 (spLaw K) := by
  refine D.has sclaw (fun vs H Q E h => ?_) (fun f cdv A outer s H vs Q E hr h => ?_)
  · obtain ⟨a, ns, rfl, _⟩ := h
    rfl
  obtain ⟨a, ns, rfl, hS, hl, k⟩ := h
  refine ⟨_, (pss_cons (ps_set (i := 1) sclaw.nd rfl (Or.inl rfl) (pe_f G_law_deck (hr.mono (by omega)) (by rfl) pass0 (pa_cons (pv 0) pa_nil)))
      (pss_cons (ps_for PassesOwn.never rfl (pi_range1 (by rfl) B.range (pa_cons pe_int pa_nil)) (pg_name (i := 2) sclaw.nd rfl (Or.inl rfl))
        (pss_cons (ps_set (i := 3) sclaw.nd rfl (Or.inl rfl) (pe_f G_law_names (hr.mono (by omega)) (by rfl) pass0 (pa_cons (pv 1) pa_nil)))
      (pss_cons (ps_set (i := 4) sclaw.nd rfl (Or.inl rfl) (pe_f G_law_program (hr.mono (by omega)) (by rfl) pass0 (pa_cons (pv 1) (pa_cons (pv 3) pa_nil))))
      (pss_cons (ps_set (i := 5) sclaw.nd rfl (Or.inl rfl) (pe_callTy (c_dictP rfl) (by rfl) B.dict (by decide +kernel) (pa_cons (pe_listZip rfl (by rfl) B.list (by rfl) B.zip (pa_cons (pv 3) (pa_cons (pe_op op_cat (pe_lst (pa_cons pe_str pa_nil)) (pe_f G_law_one (hr.mono (by omega)) (by rfl) pass0 (pa_cons (pv 1) (pa_cons (pe_lst (pa_cons (pe_slice sl_list (pv 3) (po_some pe_int) po_none) (pa_cons (pe_back4 (pv 3)) (pa_cons (pe_op op_cat (pe_slice sl_list (pv 3) (po_some pe_int) po_none) (pe_slice sl_list (pv 3) (po_some pe_int) (po_some pe_int))) pa_nil)))) pa_nil)))) pa_nil))) pa_nil)))
      (pss_cons (ps_set (i := 6) sclaw.nd rfl (Or.inl rfl) (pe_f G_law_rows_other (hr.mono (by omega)) (by rfl) pass0 (pa_cons (pv 4) (pa_cons (pv 5) (pa_cons (pe_cmpR op_eq (pe_f G_law_draw (hr.mono (by omega)) (by rfl) pass0 (pa_cons (pv 1) (pa_cons pe_int pa_nil))) pe_int (nomark _)) pa_nil)))))
      (pss_one (ps_for PassesOwn.never rfl (pi_list (pe_lst (pa_cons (pv 6) (pa_cons (pe_f G_law_with_more (hr.mono (by omega)) (by rfl) pass0 (pa_cons (pv 1) (pa_cons (pv 4) pa_nil))) (pa_cons (pe_f G_law_with_more (hr.mono (by omega)) (by rfl) pass0 (pa_cons (pv 1) (pa_cons (pv 6) pa_nil))) pa_nil))))) (pg_name (i := 7) sclaw.nd rfl (Or.inl rfl))
        (pss_one (ps_if (pt_cmpR op_isN (pe_f Gprogram_error (hr.mono (by omega)) (by rfl) pass0 (pa_cons (pv 7) pa_nil)) pe_non (nomark _)) (pss_one (ps_for PassesOwn.never rfl (pi_range1 (by rfl) B.range (pa_cons pe_int pa_nil)) (pg_name (i := 8) sclaw.nd rfl (Or.inl rfl))
        (pss_cons (ps_set (i := 9) sclaw.nd rfl (Or.inl rfl) (pe_f G_law_number (hr.mono (by omega)) (by rfl) pass0 (pa_cons (pv 1) pa_nil)))
      (pss_one (ps_if (pt_cmpR op_ne (pe_callB (c_repr3 hr hM) (by rfl) B.repr (by decide +kernel) (pa_cons (pe_f Gsums_of (hr.mono (by omega)) (by rfl) pass0 (pa_cons (pv 7) (pa_cons (pv 9) pa_nil))) pa_nil)) (pe_callB (c_repr3 hr hM) (by rfl) B.repr (by decide +kernel) (pa_cons (pe_f Gsums_of (hr.mono (by omega)) (by rfl) pass0 (pa_cons (pv 4) (pa_cons (pv 9) pa_nil))) pa_nil)) (nomark _)) (pss_one (ps_ret pe_bl))
        pss_nil)))))
        pss_nil)))))))))
      (pss_one (ps_ret pe_bl)))), ?_⟩
  walk_at "rd"
  refine ⟨a, ns, rfl, hS, hl, fun H1 d c hd hc D1 k1 => ?_⟩
  walk_at "rd"
  refine r_ForR (fun i σ H' => ∃ (n' : Int) (x2 x3 x4 x5 x6 x7 x8 x9 : Option V), σ = [some (.ref a), some (.ref d), x2, x3, x4, x5, x6, x7, x8, x9] ∧ Deck H' d c n' ∧ n' ≤ 1 + 7000 * i) (by omega) (by omega) ⟨_, none, none, none, none, none, none, none, none, rfl, D1, by omega⟩ ?_ ?_
  · rintro i σ H2 hi ⟨n2, x2, x3, x4, x5, x6, x7, x8, x9, rfl, D2, hn2⟩
    have hi6 : i < 6 := hi
    clear D1 k1 hd hc
    walk_at "rd"
    refine ⟨d, c, _, rfl, D2, by omega, fun H3 nm xs n3 hnm D3 q1 q2 k3 N3 => ?_⟩
    have fnm : nm ≠ d ∧ nm ≠ c := D2.fresh hnm
    walk_at "rd"
    refine ⟨d, c, nm, n3, xs, rfl, D3, by omega, N3, fnm.1, fnm.2, fun H4 v4 x n4 D4 q3 q4 k4 hv4 ok4 => ?_⟩
    have N4 := N3.kp k4 (by simp [fnm.1, fnm.2])
    have hwt := pgN_wts ok4
    have hsz := ok4.size
    have hxv := ok4.vd4
    obtain ⟨xa, xb, xc, rfl, hnd, hsp⟩ := N4.four
    have hnl : H4 nm = some (.lst [.str "n", .str xa, .str xb, .str xc]) := N4.h
    walk_at "rd"
    refine ⟨by simp [sizeLine_eq], fun p5 hp5 => ?_⟩
    have k5 : Kp [] H4 (upd H4 p5 (.lst [.str "n"])) := Kp.nil.new hp5
    have D5 := D4.kp k5 (by simp) (by simp)
    have hnl5 := k5.get hnl (by simp)
    have e5 : upd H4 p5 (.lst [.str "n"]) p5 = some (.lst [.str "n"]) := upd_same
    generalize upd H4 p5 (.lst [.str "n"]) = H5 at k5 D5 hnl5 e5 ⊢
    walk_at "rd"
    refine r_slL (SqL.of hnl5) fun p6 hp6 => ?_
    rw [show cutV [V.str "n", .str xa, .str xb, .str xc] (some 1) none = [.str xa, .str xb, .str xc] from rfl]
    have k6 : Kp [] H5 (upd H5 p6 (.lst [.str xa, .str xb, .str xc])) := Kp.nil.new hp6
    have D6 := D5.kp k6 (by simp) (by simp)
    have hnl6 := k6.get hnl5 (by simp)
    have e56 := k6.get e5 (by simp)
    have e6 : upd H5 p6 (.lst [.str xa, .str xb, .str xc]) p6 = some (.lst [.str xa, .str xb, .str xc]) := upd_same
    generalize upd H5 p6 (.lst [.str xa, .str xb, .str xc]) = H6 at k6 D6 hnl6 e56 e6 ⊢
    walk_at "rd"
    refine ⟨nm, _, _, _, _, rfl, SqL.of hnl6, fun p7 hp7 => ?_⟩
    have k7 : Kp [] H6 (upd H6 p7 (.lst [.str xc, .str xb, .str xa])) := Kp.nil.new hp7
    have D7 := D6.kp k7 (by simp) (by simp)
    have hnl7 := k7.get hnl6 (by simp)
    have e57 := k7.get e56 (by simp)
    have e67 := k7.get e6 (by simp)
    have e7 : upd H6 p7 (.lst [.str xc, .str xb, .str xa]) p7 = some (.lst [.str xc, .str xb, .str xa]) := upd_same
    generalize upd H6 p7 (.lst [.str xc, .str xb, .str xa]) = H7 at k7 D7 hnl7 e57 e67 e7 ⊢
    walk_at "rd"
    refine r_slL (SqL.of hnl7) fun p8 hp8 => ?_
    rw [show cutV [V.str "n", .str xa, .str xb, .str xc] (some 2) none = [.str xb, .str xc] from rfl]
    have k8 : Kp [] H7 (upd H7 p8 (.lst [.str xb, .str xc])) := Kp.nil.new hp8
    have D8 := D7.kp k8 (by simp) (by simp)
    have hnl8 := k8.get hnl7 (by simp)
    have e8 : upd H7 p8 (.lst [.str xb, .str xc]) p8 = some (.lst [.str xb, .str xc]) := upd_same
    generalize upd H7 p8 (.lst [.str xb, .str xc]) = H8 at k8 D8 hnl8 e8 ⊢
    walk_at "rd"
    refine r_slL (SqL.of hnl8) fun p9 hp9 => ?_
    rw [show cutV [V.str "n", .str xa, .str xb, .str xc] (some 1) (some 2) = [.str xa] from rfl]
    have k9 : Kp [] H8 (upd H8 p9 (.lst [.str xa])) := Kp.nil.new hp9
    have D9 := D8.kp k9 (by simp) (by simp)
    have e89 := k9.get e8 (by simp)
    have e9 : upd H8 p9 (.lst [.str xa]) p9 = some (.lst [.str xa]) := upd_same
    have k79 := k8.trans k9
    generalize upd H8 p9 (.lst [.str xa]) = H9 at k9 D9 e89 e9 k79 ⊢
    refine r_cat e89 e9 (by simp [sizeLine_eq]) fun pa hpa => ?_
    have ka : Kp [] H9 (upd H9 pa (.lst ([.str xb, .str xc] ++ [.str xa]))) := Kp.nil.new hpa
    have Da := D9.kp ka (by simp) (by simp)
    have ea : upd H9 pa (.lst ([.str xb, .str xc] ++ [.str xa])) pa = some (.lst [.str xb, .str xc, .str xa]) := upd_same
    generalize upd H9 pa (.lst ([.str xb, .str xc] ++ [.str xa])) = Ha at ka Da ea ⊢
    walk_at "rd"
    refine ⟨by simp [sizeLine_eq], fun pb hpb => ?_⟩
    have kb : Kp [] Ha (upd Ha pb (.lst [.ref p6, .ref p7, .ref pa])) := Kp.nil.new hpb
    have Db := Da.kp kb (by simp) (by simp)
    have fb := Da.fresh hpb
    have eb : upd Ha pb (.lst [.ref p6, .ref p7, .ref pa]) pb = some (.lst [.ref p6, .ref p7, .ref pa]) := upd_same
    have eab := kb.get ea (by simp)
    have k7b := (k79.trans ka).trans kb
    have e5b := k7b.get e57 (by simp)
    have e6b := k7b.get e67 (by simp)
    have e7b := k7b.get e7 (by simp)
    have hnlb := k7b.get hnl7 (by simp)
    have k4b := (k5.trans k6).trans (k7.trans k7b)
    have hvb := hv4.kp k4b
    generalize upd Ha pb (.lst [.ref p6, .ref p7, .ref pa]) = Hb at kb Db eb eab k7b e5b e6b e7b hnlb k4b hvb ⊢
    have f5 := D4.fresh hp5
    have f6 := D5.fresh hp6
    have f7 := D6.fresh hp7
    have fa := D9.fresh hpa
    clear hp5 hp6 hp7 hp8 hp9 hpa hpb k5 D5 hnl5 e5 k6 D6 hnl6 e56 e6 k7 D7 hnl7 e57 e67 e7 k8 D8 hnl8 e8 k9 D9 e89 e9 ka Da ea kb k79 k7b
    walk_at "rd"
    refine spOne.list Db (by omega) (SqL.of eb) fb.1 fb.2 (by simp) (by simp) fun Hc mi mv hmv Dc kc => ?_
    have pick : ∃ (pm : Addr) (u v w : Str), mv = .ref pm ∧ Hc pm = some (.lst [.str u, .str v, .str w]) ∧ Perm3 xa xb xc u v w := by
      have hm := List.mem_of_getElem? hmv
      simp only [List.mem_cons, List.not_mem_nil, or_false] at hm
      rcases hm with rfl | rfl | rfl
      · exact ⟨_, _, _, _, rfl, kc.get e6b (by simp [f6.1, f6.2]), .inl ⟨rfl, rfl, rfl⟩⟩
      · exact ⟨_, _, _, _, rfl, kc.get e7b (by simp [f7.1, f7.2]), .inr (.inl ⟨rfl, rfl, rfl⟩)⟩
      · exact ⟨_, _, _, _, rfl, kc.get eab (by simp [fa.1, fa.2]), .inr (.inr ⟨rfl, rfl, rfl⟩)⟩
    obtain ⟨pm, u, v, w', rfl, hpm, hperm⟩ := pick
    have e5c := kc.get e5b (by simp [f5.1, f5.2])
    have hnlc := kc.get hnlb (by simp [fnm.1, fnm.2])
    have hvc := hvb.kp kc
    refine r_cat e5c hpm (by simp [sizeLine_eq]) fun pd hpd => ?_
    have kd : Kp [] Hc (upd Hc pd (.lst ([.str "n"] ++ [.str u, .str v, .str w']))) := Kp.nil.new hpd
    have Dd := Dc.kp kd (by simp) (by simp)
    have ed : upd Hc pd (.lst ([.str "n"] ++ [.str u, .str v, .str w'])) pd = some (.lst [.str "n", .str u, .str v, .str w']) := upd_same
    have hnld := kd.get hnlc (by simp)
    have hvd := hvc.kp kd
    generalize upd Hc pd (.lst ([.str "n"] ++ [.str u, .str v, .str w'])) = Hd at kd Dd ed hnld hvd ⊢
    walk_at "rd"
    refine ⟨nm, pd, [((Sum.inr ("n" : Str) : Key), V.str "n"), (Sum.inr xa, .str u), (Sum.inr xb, .str v), (Sum.inr xc, .str w')], rfl, SqL.of hnld, SqL.of ed, fun He pe ts kk _ _ _ hpe hts => ?_⟩
    have ke : Kp [] Hd He := fun b o z => ⟨fun m => (List.not_mem_nil m).elim, fun _ => kk b o z⟩
    have De := Dd.kp ke (by simp) (by simp)
    have hve := hvd.kp ke
    walk_at "rd"
    refine ⟨pe, ts, _, rfl, SqL.of hpe, paired_imp hts fun _ _ z => SqT.of z, fun pf hpf => ?_⟩
    have kf : Kp [] He (upd He pf (.dK (mergeK [] [((Sum.inr ("n" : Str) : Key), V.str "n"), (Sum.inr xa, .str u), (Sum.inr xb, .str v), (Sum.inr xc, .str w')]))) := Kp.nil.new hpf
    have Df_ := De.kp kf (by simp) (by simp)
    have ff := De.fresh hpf
    have hvf := hve.kp kf
    obtain ⟨hsw, hswn, hswm⟩ := swF_ok hnd hperm
    have hSw : SwD (upd He pf (.dK (mergeK [] [((Sum.inr ("n" : Str) : Key), V.str "n"), (Sum.inr xa, .str u), (Sum.inr xb, .str v), (Sum.inr xc, .str w')]))) pf [("n" : Str), xa, xb, xc] (swF xa xb xc u v w') :=
      ⟨⟨_, upd_same, swF_dict hnd⟩, fun z hz => ⟨N4.ok _ (hswm z hz.2), hswm z hz.2⟩⟩
    have k4f : Kp [d, c] H4 (upd He pf (.dK (mergeK [] [((Sum.inr ("n" : Str) : Key), V.str "n"), (Sum.inr xa, .str u), (Sum.inr xb, .str v), (Sum.inr xc, .str w')]))) := ((k4b.sub D4.ls (by simp)).trans kc).trans (((kd.trans ke).trans kf).sub Dc.ls (by simp))
    generalize upd He pf (.dK (mergeK [] [((Sum.inr ("n" : Str) : Key), V.str "n"), (Sum.inr xa, .str u), (Sum.inr xb, .str v), (Sum.inr xc, .str w')])) = Hf at kf Df_ hvf hSw k4f ⊢
    generalize swF xa xb xc u v w' = sw at hsw hswn hswm hSw
    clear hts hpe kk hpd hpf hve De ke kf hvd hnld ed Dd kd hvc hnlc e5c hpm hmv hvb hnlb e7b e6b e5b eab eb Db kc Dc hnl
    walk_at "rd"
    refine spDraw.use Df_ (by omega) (by omega) (by omega) fun Hg g g0 g1 Dg kg => ?_
    walk_at "rd"
    generalize decide (V.int g = V.int 0) = l
    have hSg := hSw.kp kg (by simp [ff.1, ff.2])
    have hvg := hvf.kp kg
    refine ⟨v4, pf, l, _, sw, x, rfl, hvg, hSg, ok4.vnb, by omega, hsz, fun Hh z6 kh hz6 => ?_⟩
    have Dh := Dg.kp kh (by simp) (by simp)
    have hvh := hvg.kp kh
    have vo : Ver K Hh z6 x := Ver.ots ok4 hsw hswn (List.mem_cons_self ..) hSw.ins hz6
    have oz : Sm.sizes (Sm.ots sw true l x) ≤ 30 := by
      cases l with
      | true =>
        have := Sm.ots_size1 (sw := sw) (g := true) x
        omega
      | false =>
        rw [Sm.ots_size0]
        omega
    have ow : Sm.wts (Sm.ots sw true l x) ≤ 30 := Nat.le_trans (Sm.ots_wts x) hwt
    have ov : VnB [("n" : Str), xa, xb, xc] 4 (Sm.ots sw true l x) := Sm.ots_vn hSw.ins 4 x ok4.vn
    have oe : ∀ n, smD [] n (Sm.ots sw true l x) = smD [] n x := fun n => smD_ots hsw hswn (List.mem_cons_self ..) (VnB.nins 4 x ok4.vn) n
    have ol := Sm.len_sizes (Sm.ots sw true l x)
    have xl := Sm.len_sizes x
    generalize Sm.ots sw true l x = ox at hz6 oz ow ov oe ol
    walk_at "rd"
    refine ⟨d, c, _, v4, x, rfl, Dh, by omega, hvh, by omega, fun Hi z7 n7 f7' i7 m7 Di m1 m2 ki hf7 hm7 hz7 => ?_⟩
    have vo2 := vo.kp ki
    have v7 : Ver K Hi z7 x := Ver.more hsp hm7 hf7 ok4.vnb (by omega) hwt (fun _ => rfl) hz7
    have hvi := hvh.kp ki
    have hz6i := hz6.kp ki
    walk_at "rd"
    refine ⟨d, c, n7, z6, ox, rfl, Di, by omega, hz6i, by omega, fun Hj z8 n8 f8 i8 m8 Dj m3 m4 kj hf8 hm8 hz8 => ?_⟩
    have vo3 := vo2.kp kj
    have v73 := v7.kp kj
    have v8 : Ver K Hj z8 x := Ver.more hsp hm8 hf8 ov oz ow oe hz8
    have hvj := hvi.kp kj
    walk_at "rd"
    refine ⟨by simp [sizeLine_eq], fun pk hpk => ?_⟩
    have kk : Kp [] Hj (upd Hj pk (.lst [z6, z7, z8])) := Kp.nil.new hpk
    have Dk := Dj.kp kk (by simp) (by simp)
    have fk := Dj.fresh hpk
    have ek : upd Hj pk (.lst [z6, z7, z8]) pk = some (.lst [z6, z7, z8]) := upd_same
    have w1 := vo3.kp kk
    have w2 := v73.kp kk
    have w3 := v8.kp kk
    have hvk := hvj.kp kk
    generalize upd Hj pk (.lst [z6, z7, z8]) = Hk at kk Dk ek w1 w2 w3 hvk ⊢
    clear hz6 hz7 hz8 hz6i vo vo2 vo3 v7 v73 v8 Dh Di Dj hvi hvj hvh
    walk_at "rd"
    have hn8 : n8 ≤ 1 + 7000 * (i : Int) + 5100 := by omega
    refine r_ForL (SqL.of ek) (fun j σ H' => ∃ (n' : Int) (y7 y8 y9 : Option V), σ = [some (.ref a), some (.ref d), some (.int i), some (.ref nm), some v4, some (.ref pf), some z6, y7, y8, y9] ∧ Deck H' d c n' ∧ n' ≤ n8 + 300 * j ∧ Dt K H' v4 (.tuple (Sm.ds x)) ∧ H' pk = some (.lst [z6, z7, z8]) ∧ Ver K H' z6 x ∧ Ver K H' z7 x ∧ Ver K H' z8 x)
      ⟨n8, _, _, _, rfl, Dk, by omega, hvk, ek, w1, w2, w3⟩ (fun j σ H' ⟨_, _, _, _, _, _, _, _, q, _⟩ => SqL.of q) ?_ ?_
    · rintro j v7 σ Hl hj ⟨nl, y7, y8, y9, rfl, Dl, hnl, hvl, el, r1, r2, r3⟩
      have hj3 : j < 3 := (List.getElem?_eq_some_iff.mp hj).1
      have hv7 : Ver K Hl v7 x := by
        have hm := List.mem_of_getElem? hj
        simp only [List.mem_cons, List.not_mem_nil, or_false] at hm
        rcases hm with rfl | rfl | rfl
        · exact r1
        · exact r2
        · exact r3
      obtain ⟨vb, hb, hbv, hbs, hbw, hbe⟩ := hv7
      have hdz : dsz (.tuple (Sm.ds vb)) ≤ 1000000 := by
        have q := (Sm.vd.doks 4 vb hbv).tup.sz
        omega
      clear hj w1 w2 w3 Dk ek hvk
      walk_at "rd"
      refine ⟨v7, _, rfl, hb.dw, hdz, fun Hm r km hr => ?_⟩
      have Dm := Dl.kp km (by simp) (by simp)
      have hvm := hvl.kp km
      have hbm := hb.kp km
      have em := km.get el (by simp)
      have s1 := r1.kp km
      have s2 := r2.kp km
      have s3 := r3.kp km
      clear Dl hvl hb el r1 r2 r3
      by_cases hp : perr (.tuple (Sm.ds vb)) = .none
      · rw [hp] at hr
        obtain rfl := hr.isNone
        walk_at "rd"
        refine ⟨rfl, ?_⟩
        walk_at "rd"
        refine ifd (fun _ => ?_) (fun c => absurd rfl c)
        walk_at "rd"
        refine r_ForR (fun q σ H' => ∃ (n' : Int) (y8 y9 : Option V), σ = [some (.ref a), some (.ref d), some (.int i), some (.ref nm), some v4, some (.ref pf), some z6, some v7, y8, y9] ∧ Deck H' d c n' ∧ n' ≤ nl + 10 * q ∧ Kp [d, c] Hm H') (by omega) (by omega)
          ⟨nl, _, _, rfl, Dm, by omega, Kp.refl Dm.ls⟩ ?_ ?_
        · rintro q σ Hn hq ⟨nn, y8, y9, rfl, Dn, hnn, kn⟩
          have hq3 : q < 3 := hq
          walk_at "rd"
          refine ⟨d, c, nn, rfl, Dn, by omega, fun Ho nr no Do m5 m6 ko hnr => ?_⟩
          have kmo := kn.trans ko
          have sh := smD_shw (fix := []) hxv hnr hwt
          walk_at "rd"
          refine ⟨v7, nr, vb, rfl, hbm.kp kmo, hbv, hnr, by omega, by omega, fun Hp_ zp kp hzp => ?_⟩
          rw [hbe] at hzp
          walk_at "rd"
          refine r_repr3 hzp.dw sh.toD (by omega) (by omega) ?_
          walk_at "rd"
          refine ⟨v4, nr, x, rfl, (hvm.kp kmo).kp kp, hxv, hnr, by omega, by omega, fun Hq zq kq hzq => ?_⟩
          walk_at "rd"
          refine r_repr3 hzq.dw sh.toD (by omega) (by omega) ?_
          walk_at "rd"
          have kpq := kp.trans kq
          exact ⟨no, _, _, rfl, Do.kp kpq (by simp) (by simp), by omega, kmo.trans (kpq.sub Do.ls (by simp))⟩
        · rintro σ Hn ⟨nn, y8, y9, rfl, Dn, hnn, kn⟩
          have hnn : nn ≤ nl + 30 := hnn
          walk_at "rd"
          exact ⟨nn, _, _, _, rfl, Dn, by omega, hvm.kp kn, kn.get em (by simp [fk.1, fk.2]), s1.kp kn, s2.kp kn, s3.kp kn⟩
      · have hr0 := hr.ne_none hp
        walk_at "rd"
        refine ⟨rfl, ?_⟩
        walk_at "rd"
        refine ifd (fun c => absurd c hr0) (fun _ => ?_)
        walk_at "rd"
        exact ⟨nl, _, _, _, rfl, Dm, by omega, hvm, em, s1, s2, s3⟩
    · rintro σ Hl ⟨nl, y7, y8, y9, rfl, Dl, hnl, hvl, el, r1, r2, r3⟩
      have hnl : nl ≤ n8 + 900 := hnl
      walk_at "rd"
      exact ⟨_, _, _, _, _, _, _, _, _, rfl, Dl, by omega⟩
  · rintro σ H3 ⟨n3, x2, x3, x4, x5, x6, x7, x8, x9, rfl, D3, hn3⟩
    walk_at "rd"
    exact k _
/-- what the top holds for the family of program_error -/
structure PeTop (mg : Str → Option Value) (K : PySem.W.Frag) : Prop where
  MAX_NAME : ∃ t, mg "MAX_NAME" = some (.int 8 t)
  MAX_WORD : ∃ t, mg "MAX_WORD" = some (.int 8 t)
  MAX_TIMES : ∃ t, mg "MAX_TIMES" = some (.int 8 t)
  MAX_DEEP : ∃ t, mg "MAX_DEEP" = some (.int 3 t)
  MAX_NOTS : ∃ t, mg "MAX_NOTS" = some (.int 2 t)
  MAX_BY : ∃ t, mg "MAX_BY" = some (.int 6 t)
  MAX_PLACES : ∃ t, mg "MAX_PLACES" = some (.int 24 t)
  MAX_WEIGHT : ∃ t, mg "MAX_WEIGHT" = some (.int 30 t)
  MAX_RESTS : ∃ t, mg "MAX_RESTS" = some (.int 2 t)
  MAX_COMPARINGS : ∃ t, mg "MAX_COMPARINGS" = some (.int 2 t)
  MAX_NEST : ∃ t, mg "MAX_NEST" = some (.int 3 t)
  MOST_NUMBER : ∃ t, mg "MOST_NUMBER" = some (.int 99 t)
  MOST_FACTOR : ∃ t, mg "MOST_FACTOR" = some (.int 9 t)
  LETTERS : ∃ t, mg "LETTERS" = some (.str LETT t)
  SIGNS : ∃ t, mg "SIGNS" = some (.str SGN t)
  UNSURE : ∃ t, mg "UNSURE" = some (.str "unsure" t)
  KEPT : ∃ a, mg "KEPT" = some (.ref a) ∧ ∀ H : Hp, SqT K H a (KEPTS.map V.str)
/-- is_name, is_expression, is_test, is_statement .. -/
structure PeHas (P : Program) (w : World) (K : PySem.W.Frag) (mg : Str → Option Value) (base : Heap) : Prop where
  whole : Has P w K mg base CX0 "is_whole" ["value", "least", "most"] 1 (spWhole K)
  blocks : Has P w K mg base CX0 "blocks_of" ["statement"] 1 (spBlocks K)
  rows : Has P w K mg base CX0 "rows_of" ["program"] 3 (spRows K)
  counted : Has P w K mg base CX0 "counted" ["block", "sort"] 7 (spCnt K 4)
  weight : Has P w K mg base CX0 "weight" ["program"] 8 (spWt K)
  error : Has P w K mg base CX0 "program_error" ["value"] 12 (spPerr K)
theorem pe_has (T : PeTop mg K) (B : Blt mg) (D1 : Df K mg "is_whole" sis_whole Pis_whole) (D2 : Df K mg "is_word" sis_word Pis_word) (D3 : Df K mg "is_name" sis_name Pis_name)
    (D4 : Df K mg "is_expression" sis_expression Pis_expression) (D5 : Df K mg "is_rest" sis_rest Pis_rest) (D6 : Df K mg "is_test" sis_test Pis_test) (D7 : Df K mg "is_plain" sis_plain Pis_plain)
    (D8 : Df K mg "is_statement" sis_statement Pis_statement) (D9 : Df K mg "blocks_of" sblocks_of Pblocks_of) (D10 : Df K mg "items_within" sitems_within Pitems_within) (D11 : Df K mg "rows_of" srows_of Prows_of)
    (D12 : Df K mg "order_error" sorder_error Porder_error) (D13 : Df K mg "bare" sbare Pbare) (D14 : Df K mg "own_count" sown_count Pown_count) (D15 : Df K mg "counted" scounted Pcounted)
    (D16 : Df K mg "weight" sweight Pweight) (D17 : Df K mg "program_error" sprogram_error Pprogram_error) : PeHas P w K mg base := by
  obtain ⟨⟨_, e1⟩, ⟨_, e2⟩, ⟨_, e3⟩, ⟨_, e4⟩, ⟨_, e5⟩, ⟨_, e6⟩, ⟨_, e7⟩, ⟨_, e8⟩, ⟨_, e9⟩, ⟨_, e10⟩, ⟨_, e11⟩, ⟨_, e12⟩, ⟨_, e13⟩, ⟨_, e14⟩, ⟨_, e15⟩, ⟨_, e16⟩, ⟨aK, e17, hK⟩⟩ := T
  have G1 := ok_is_whole (P := P) (w := w) (base := base) D1 B
  have G2 := ok_is_word (P := P) (w := w) (base := base) D2 B e2 e16 e15
  have G3 := ok_is_name (P := P) (w := w) (base := base) D3 B e1 e14 e17 hK e15
  have G4 : ∀ n, Has P w K mg base CX0 "is_expression" Pis_expression (n + 2) (spAskN K isExpr n) := by
    intro n
    induction n with
    | zero => exact ok_is_expression1 (lv := 1) D4 B (by omega) e12 e13 G1 G3 ((D4.void (sp := fun _ _ _ _ => False) fun _ _ _ _ h => h).mono (by omega)) fun m h => by omega
    | succ n ih =>
      exact ok_is_expression1 (lv := n + 2) D4 B (by omega) e12 e13 G1 G3 ih fun m h => by
        obtain rfl : n = m := by omega
        rfl
  have G5 := ok_is_rest (lv := 5) D5 B (by omega) e4 e6 G1 (G4 3)
  have G6 : ∀ n, Has P w K mg base CX0 "is_test" Pis_test (n + 7) (spAskN K isTest n) := by
    intro n
    induction n with
    | zero => exact ok_is_test1 (lv := 6) D6 B (by omega) e4 G5 G3 (G4 3) ((D6.void (sp := fun _ _ _ _ => False) fun _ _ _ _ h => h).mono (by omega)) fun m h => by omega
    | succ n ih =>
      exact ok_is_test1 (lv := n + 7) D6 B (by omega) e4 G5 G3 (G4 3) ih fun m h => by
        obtain rfl : n = m := by omega
        rfl
  have G7 := ok_is_plain D7 B e4 G2 G3 (G4 3)
  have G8 := ok_is_statement D8 B e5 e3 G1 (G6 2) G7
  have G9 := ok_blocks_of (P := P) (w := w) (base := base) D9 B
  have G10 := ok_items_within D10 B G9
  have G11 := ok_rows_of D11 B G10
  have G12 := ok_order_error D12 B e11 G8 G10
  have G14 := ok_own_count D14 B (ok_bare (P := P) (w := w) (base := base) D13 B)
  have G15 : ∀ n, Has P w K mg base CX0 "counted" Pcounted (n + 3) (spCnt K n) := by
    intro n
    induction n with
    | zero => exact ok_counted1 (lv := 2) D15 B (by omega) G9 G14 ((D15.void (sp := fun _ _ _ _ => False) fun _ _ _ _ h => h).mono (by omega)) fun m h => by omega
    | succ n ih =>
      exact ok_counted1 (lv := n + 3) D15 B (by omega) G9 G14 ih fun m h => by
        obtain rfl : n = m := by omega
        rfl
  have G16 := ok_weight D16 B (G15 4)
  exact ⟨G1, G9, G11, G15 4, G16, ok_program_error D17 B e7 e8 e9 e10 G12 G11 (G15 4) G16⟩
structure CTop (mg : Str → Option Value) (K : PySem.W.Frag) (C : Addr) : Prop where
  T : CT K C
  mks : PySem.W.makesIn K C = true
  kc : PySem.W.keepIn K (.ref C) = true
  at_ : mg "Course" = some (.ref C)
  d0 : DfM K C "__init__" "Course.__init__" sCourse___init__ PCourse___init__
  d1 : DfM K C "reading" "Course.reading" sCourse_reading PCourse_reading
  d2 : DfM K C "worth" "Course.worth" sCourse_worth PCourse_worth
  d3 : DfM K C "truth" "Course.truth" sCourse_truth PCourse_truth
  d4 : DfM K C "do" "Course.do" sCourse_do PCourse_do
  d5 : DfM K C "choose" "Course.choose" sCourse_choose PCourse_choose
  d6 : DfM K C "again" "Course.again" sCourse_again PCourse_again
  d7 : DfM K C "go" "Course.go" sCourse_go PCourse_go
theorem rn_course {C : Addr} (X : CTop mg K C) (B : Blt mg) (gI : ∃ t, mg "INPUT" = some (.str "n" t)) (gN : ∃ t, mg "NOTHING" = some (.int 0 t)) (gU : ∃ t, mg "UNSURE" = some (.str "unsure" t))
    (Dbl : Df K mg "blocks_of" sblocks_of Pblocks_of) (Dpl : Df K mg "places_in" splaces_in Pplaces_in) (Dad : Df K mg "added" sadded Padded) (Dws : Df K mg "whole_sum" swhole_sum Pwhole_sum)
    (Dmu : Df K mg "multiples_of" smultiples_of Pmultiples_of) (Dco : Df K mg "course_of" scourse_of Pcourse_of) : Has P w K mg base CX0 "course_of" Pcourse_of 18 (spCourse K) := by
  obtain ⟨_, gI⟩ := gI
  obtain ⟨_, gN⟩ := gN
  obtain ⟨_, gU⟩ := gU
  have Gbl := ok_blocks_of (P := P) (w := w) (base := base) Dbl B
  have Gad := ok_added (P := P) (w := w) (base := base) Dad B
  have Gws := ok_whole_sum (P := P) (w := w) (base := base) Dws B
  have Gpl : ∀ n, Has P w K mg base CX0 "places_in" Pplaces_in (n + 2) (spPlaces K n) := by
    intro n
    induction n with
    | zero => exact ok_places_in1 (lv := 1) Dpl B (by omega) Gbl ((Dpl.void (sp := fun _ _ _ _ => False) fun _ _ _ _ h => h).mono (by omega)) fun m h => by omega
    | succ n ih =>
      exact ok_places_in1 (lv := n + 2) Dpl B (by omega) Gbl ih fun m h => by
        obtain rfl : n = m := by omega
        rfl
  have G0 := ok_Course_init X.d0 B X.T gI Gws
  have G1 := ok_Course_reading X.d1 B X.T gN Gws
  have G2 : ∀ n, HasM P w K mg base CX0 C "worth" PCourse_worth (n + 2) (spWorth K C n) := by
    intro n
    induction n with
    | zero => exact (X.d2.void (sp := spWorth K C 0) (fun _ _ _ _ ⟨_, _, _, _, _, _, _, _, _, _, _, _, _, _, _, h, _⟩ => h.elim)).mono (by omega)
    | succ n ih =>
      exact ok_Course_worth1 (lv := n + 2) X.d2 B X.T (by omega) gN Gws Gad G1 ih fun m h => by
        obtain rfl : n = m := by omega
        rfl
  have G3 : ∀ n, HasM P w K mg base CX0 C "truth" PCourse_truth (n + 6) (spTruth K C n) := by
    intro n
    induction n with
    | zero => exact ok_Course_truth1 (lv := 5) X.d3 B X.T (by omega) Gad (G2 3) ((X.d3.void (sp := fun _ _ _ _ => False) fun _ _ _ _ h => h).mono (by omega)) fun m h => by omega
    | succ n ih =>
      exact ok_Course_truth1 (lv := n + 6) X.d3 B X.T (by omega) Gad (G2 3) ih fun m h => by
        obtain rfl : n = m := by omega
        rfl
  have G4 := ok_Course_do X.d4 B X.T (G2 3)
  have G7 : ∀ n, n ≤ 5 → HasM P w K mg base CX0 C "go" PCourse_go (2 * n + 9) (spGo K C n) := by
    intro n
    induction n with
    | zero => exact fun _ => ok_Course_go (m := 0) (lv := 8) X.d7 B X.T (by omega) (by omega) (Gpl 4) G4 ((X.d5.void (sp := fun _ _ _ _ => False) fun _ _ _ _ h => h).mono (by omega)) ((X.d6.void (sp := fun _ _ _ _ => False) fun _ _ _ _ h => h).mono (by omega)) fun m h => by omega
    | succ n ih =>
      intro hn
      have g := ih (by omega)
      exact ok_Course_go (m := 0) (lv := 2 * n + 10) X.d7 B X.T (by omega) hn (Gpl 4) G4 (ok_Course_choose (lv := 2 * n + 9) X.d5 B X.T (by omega) (by omega) gU (Gpl 4) (G3 2) g) (ok_Course_again (lv := 2 * n + 9) X.d6 B X.T (by omega) g) fun m h => by
        obtain rfl : n = m := by omega
        exact ⟨rfl, rfl⟩
  have Gmu := ok_multiples_of (P := P) (w := w) (base := base) Dmu B
  exact ok_course_of Dco B X.T (HasC.of G0 X.mks X.kc X.at_) (G7 4 (by omega)) Gmu
/-- the maker of programs within all bounds -/
theorem g3_program (Ddr : Df K mg "_law_draw" s_law_draw P_law_draw) (Don : Df K mg "_law_one" s_law_one P_law_one) (Dex : Df K mg "_law_expression" s_law_expression P_law_expression) (Dte : Df K mg "_law_test" s_law_test P_law_test)
    (Dpl : Df K mg "_law_plain" s_law_plain P_law_plain) (Dro : Df K mg "_law_row" s_law_row P_law_row) (Dbl : Df K mg "_law_block" s_law_block P_law_block) (Dpr : Df K mg "_law_program" s_law_program P_law_program) (B : Blt mg) :
    Has P w K mg base CX0 "_law_program" P_law_program 16 (spPgN K) ∧ Has P w K mg base CX0 "_law_expression" P_law_expression 5 (spExNA K) := by
  have Gdr := ok_law_draw (P := P) (w := w) (base := base) Ddr B
  have Gon := ok_law_one Don B Gdr
  have Gex : Has P w K mg base CX0 "_law_expression" P_law_expression 5 (spExNA K) := Has.any (ι := { m : Nat // 1 ≤ m ∧ m ≤ 3 }) ⟨1, by omega⟩ fun i => (ok_law_expression Dex B Gdr Gon i.1 i.2.1 i.2.2).mono (by have := i.2.2; omega)
  have Gte := ok_law_test Dte B Gdr Gon Gex
  have Gpl := ok_law_plain Dpl B Gdr Gon Gex
  have all : ∀ e, Has P w K mg base CX0 "_law_block" P_law_block (2 * e + 7) (spBlN K e) := by
    intro e
    induction e with
    | zero => exact ok_law_block (lv := 6) Dbl B (by omega) Gdr ((Dro.void (sp := fun _ _ _ _ => False) fun _ _ _ _ h => h).mono (by omega)) fun m h => by omega
    | succ e ih =>
      refine ok_law_block (lv := 2 * e + 8) Dbl B (by omega) Gdr (ok_law_row (lv := 2 * e + 7) Dro B (by omega) Gdr Gon Gte Gpl ih) fun m h => ?_
      obtain rfl : e = m := by omega
      rfl
  exact ⟨ok_law_program (lv := 15) Dpr B (by omega) Gdr Gex (all 4), Gex⟩
theorem k37_oth (B : Blt mg) (D1 : Df K mg "_law_other" s_law_other P_law_other) (D2 : Df K mg "_law_test_other" s_law_test_other P_law_test_other) (D3 : Df K mg "_law_if_other" s_law_if_other P_law_if_other) (D4 : Df K mg "_law_rows_other" s_law_rows_other P_law_rows_other) :
    Has P w K mg base CX0 "_law_rows_other" P_law_rows_other 16 (spOtR K 4) := by
  have G1 : ∀ n, Has P w K mg base CX0 "_law_other" P_law_other (n + 1) (spOt K n) := by
    intro n
    induction n with
    | zero => exact ok__law_other1 (lv := 0) D1 B (D1.void (sp := fun _ _ _ _ => False) fun _ _ _ _ h => h) fun m h => by omega
    | succ n ih =>
      exact ok__law_other1 (lv := n + 1) D1 B ih fun m h => by
        obtain rfl : n = m := by omega
        rfl
  have G2 : ∀ n, Has P w K mg base CX0 "_law_test_other" P_law_test_other (n + 5) (spOtT K n) := by
    intro n
    induction n with
    | zero => exact ok__law_test_other1 (lv := 4) D2 B (by omega) (G1 3) ((D2.void (sp := fun _ _ _ _ => False) fun _ _ _ _ h => h).mono (by omega)) fun m h => by omega
    | succ n ih =>
      exact ok__law_test_other1 (lv := n + 5) D2 B (by omega) (G1 3) ih fun m h => by
        obtain rfl : n = m := by omega
        rfl
  have G3 : ∀ n, Has P w K mg base CX0 "_law_rows_other" P_law_rows_other (2 * n + 8) (spOtR K n) := by
    intro n
    induction n with
    | zero => exact ok__law_rows_other1 (lv := 7) D4 B (by omega) (G1 3) ((D3.void (sp := fun _ _ _ _ => False) fun _ _ _ _ h => h).mono (by omega)) (fun m h => by omega) ((D4.void (sp := fun _ _ _ _ => False) fun _ _ _ _ h => h).mono (by omega)) fun m h => by omega
    | succ n ih =>
      refine ok__law_rows_other1 (lv := 2 * n + 9) D4 B (by omega) (G1 3) (ok__law_if_other1 (lv := 2 * n + 8) D3 B (by omega) (G2 2) ih) (fun m h => ?_) (ih.mono (by omega)) fun m h => ?_
      · obtain rfl : n = m := by omega
        rfl
      · obtain rfl : n = m := by omega
        rfl
  exact G3 4
end
end Aw
open PySem PySem.W PyProof.Rows in
set_option maxRecDepth 100000 in
set_option maxHeartbeats 0 in
theorem PySem.Challenge.cw_anewread_k37_whole_programs_written_othe_holds : PySem.Challenge.rw_anewread_k37_whole_programs_written_othe.Holds := by
  w_on; o_law; k_head; (case hw => w_witness2)
  k_fill
  refine Aw.walkG (k := 21) (l := PySem.Challenge.rw_anewread_k37_whole_programs_written_othe) (x := "_law_script") rfl rfl rfl ⟨⟨rfl, by decide, by decide⟩, rfl⟩ (fun w h Y => PySem.W.kIn_of Y) ?F ?Q
  case Q => rfl
  case F =>
    intro w mg h KX G base _ _ hSys
    have Dis_whole : Aw.Df (L2.KOf KX) mg "is_whole" Aw.sis_whole Aw.Pis_whole := by
      unfold L2.KOf
      refine' Aw.df_mk KX G ?a ?l ?c ?k ?b
      (case a => k_is)
      (case l => k_is)
      (case c => k_is)
      (case k => k_is)
      (case b => exact fun _ _ _ _ _ _ us hl => match us, hl with | [_, _, _], _ => rfl)
    have Dis_word : Aw.Df (L2.KOf KX) mg "is_word" Aw.sis_word Aw.Pis_word := by
      unfold L2.KOf
      refine' Aw.df_mk KX G ?a ?l ?c ?k ?b
      (case a => k_is)
      (case l => k_is)
      (case c => k_is)
      (case k => k_is)
      (case b => exact fun _ _ _ _ _ _ us hl => match us, hl with | [_], _ => rfl)
    have Dis_name : Aw.Df (L2.KOf KX) mg "is_name" Aw.sis_name Aw.Pis_name := by
      unfold L2.KOf
      refine' Aw.df_mk KX G ?a ?l ?c ?k ?b
      (case a => k_is)
      (case l => k_is)
      (case c => k_is)
      (case k => k_is)
      (case b => exact fun _ _ _ _ _ _ us hl => match us, hl with | [_], _ => rfl)
    have Dis_expression : Aw.Df (L2.KOf KX) mg "is_expression" Aw.sis_expression Aw.Pis_expression := by
      unfold L2.KOf
      refine' Aw.df_mk KX G ?a ?l ?c ?k ?b
      (case a => k_is)
      (case l => k_is)
      (case c => k_is)
      (case k => k_is)
      (case b => exact fun _ _ _ _ _ _ us hl => match us, hl with | [_, _], _ => rfl)
    have Dis_rest : Aw.Df (L2.KOf KX) mg "is_rest" Aw.sis_rest Aw.Pis_rest := by
      unfold L2.KOf
      refine' Aw.df_mk KX G ?a ?l ?c ?k ?b
      (case a => k_is)
      (case l => k_is)
      (case c => k_is)
      (case k => k_is)
      (case b => exact fun _ _ _ _ _ _ us hl => match us, hl with | [_], _ => rfl)
    have Dis_test : Aw.Df (L2.KOf KX) mg "is_test" Aw.sis_test Aw.Pis_test := by
      unfold L2.KOf
      refine' Aw.df_mk KX G ?a ?l ?c ?k ?b
      (case a => k_is)
      (case l => k_is)
      (case c => k_is)
      (case k => k_is)
      (case b => exact fun _ _ _ _ _ _ us hl => match us, hl with | [_, _], _ => rfl)
    have Dis_plain : Aw.Df (L2.KOf KX) mg "is_plain" Aw.sis_plain Aw.Pis_plain := by
      unfold L2.KOf
      refine' Aw.df_mk KX G ?a ?l ?c ?k ?b
      (case a => k_is)
      (case l => k_is)
      (case c => k_is)
      (case k => k_is)
      (case b => exact fun _ _ _ _ _ _ us hl => match us, hl with | [_], _ => rfl)
    have Dis_statement : Aw.Df (L2.KOf KX) mg "is_statement" Aw.sis_statement Aw.Pis_statement := by
      unfold L2.KOf
      refine' Aw.df_mk KX G ?a ?l ?c ?k ?b
      (case a => k_is)
      (case l => k_is)
      (case c => k_is)
      (case k => k_is)
      (case b => exact fun _ _ _ _ _ _ us hl => match us, hl with | [_], _ => rfl)
    have Dblocks_of : Aw.Df (L2.KOf KX) mg "blocks_of" Aw.sblocks_of Aw.Pblocks_of := by
      unfold L2.KOf
      refine' Aw.df_mk KX G ?a ?l ?c ?k ?b
      (case a => k_is)
      (case l => k_is)
      (case c => k_is)
      (case k => k_is)
      (case b => exact fun _ _ _ _ _ _ us hl => match us, hl with | [_], _ => rfl)
    have Ditems_within : Aw.Df (L2.KOf KX) mg "items_within" Aw.sitems_within Aw.Pitems_within := by
      unfold L2.KOf
      refine' Aw.df_mk KX G ?a ?l ?c ?k ?b
      (case a => k_is)
      (case l => k_is)
      (case c => k_is)
      (case k => k_is)
      (case b => exact fun _ _ _ _ _ _ us hl => match us, hl with | [_, _], _ => rfl)
    have Drows_of : Aw.Df (L2.KOf KX) mg "rows_of" Aw.srows_of Aw.Prows_of := by
      unfold L2.KOf
      refine' Aw.df_mk KX G ?a ?l ?c ?k ?b
      (case a => k_is)
      (case l => k_is)
      (case c => k_is)
      (case k => k_is)
      (case b => exact fun _ _ _ _ _ _ us hl => match us, hl with | [_], _ => rfl)
    have Dorder_error : Aw.Df (L2.KOf KX) mg "order_error" Aw.sorder_error Aw.Porder_error := by
      unfold L2.KOf
      refine' Aw.df_mk KX G ?a ?l ?c ?k ?b
      (case a => k_is)
      (case l => k_is)
      (case c => k_is)
      (case k => k_is)
      (case b => exact fun _ _ _ _ _ _ us hl => match us, hl with | [_], _ => rfl)
    have Dbare : Aw.Df (L2.KOf KX) mg "bare" Aw.sbare Aw.Pbare := by
      unfold L2.KOf
      refine' Aw.df_mk KX G ?a ?l ?c ?k ?b
      (case a => k_is)
      (case l => k_is)
      (case c => k_is)
      (case k => k_is)
      (case b => exact fun _ _ _ _ _ _ us hl => match us, hl with | [_], _ => rfl)
    have Down_count : Aw.Df (L2.KOf KX) mg "own_count" Aw.sown_count Aw.Pown_count := by
      unfold L2.KOf
      refine' Aw.df_mk KX G ?a ?l ?c ?k ?b
      (case a => k_is)
      (case l => k_is)
      (case c => k_is)
      (case k => k_is)
      (case b => exact fun _ _ _ _ _ _ us hl => match us, hl with | [_, _], _ => rfl)
    have Dcounted : Aw.Df (L2.KOf KX) mg "counted" Aw.scounted Aw.Pcounted := by
      unfold L2.KOf
      refine' Aw.df_mk KX G ?a ?l ?c ?k ?b
      (case a => k_is)
      (case l => k_is)
      (case c => k_is)
      (case k => k_is)
      (case b => exact fun _ _ _ _ _ _ us hl => match us, hl with | [_, _], _ => rfl)
    have Dweight : Aw.Df (L2.KOf KX) mg "weight" Aw.sweight Aw.Pweight := by
      unfold L2.KOf
      refine' Aw.df_mk KX G ?a ?l ?c ?k ?b
      (case a => k_is)
      (case l => k_is)
      (case c => k_is)
      (case k => k_is)
      (case b => exact fun _ _ _ _ _ _ us hl => match us, hl with | [_], _ => rfl)
    have Dprogram_error : Aw.Df (L2.KOf KX) mg "program_error" Aw.sprogram_error Aw.Pprogram_error := by
      unfold L2.KOf
      refine' Aw.df_mk KX G ?a ?l ?c ?k ?b
      (case a => k_is)
      (case l => k_is)
      (case c => k_is)
      (case k => k_is)
      (case b => exact fun _ _ _ _ _ _ us hl => match us, hl with | [_], _ => rfl)
    have Dadded : Aw.Df (L2.KOf KX) mg "added" Aw.sadded Aw.Padded := by
      unfold L2.KOf
      refine' Aw.df_mk KX G ?a ?l ?c ?k ?b
      (case a => k_is)
      (case l => k_is)
      (case c => k_is)
      (case k => k_is)
      (case b => exact fun _ _ _ _ _ _ us hl => match us, hl with | [_, _, _], _ => rfl)
    have Dwhole_sum : Aw.Df (L2.KOf KX) mg "whole_sum" Aw.swhole_sum Aw.Pwhole_sum := by
      unfold L2.KOf
      refine' Aw.df_mk KX G ?a ?l ?c ?k ?b
      (case a => k_is)
      (case l => k_is)
      (case c => k_is)
      (case k => k_is)
      (case b => exact fun _ _ _ _ _ _ us hl => match us, hl with | [_], _ => rfl)
    have Dplaces_in : Aw.Df (L2.KOf KX) mg "places_in" Aw.splaces_in Aw.Pplaces_in := by
      unfold L2.KOf
      refine' Aw.df_mk KX G ?a ?l ?c ?k ?b
      (case a => k_is)
      (case l => k_is)
      (case c => k_is)
      (case k => k_is)
      (case b => exact fun _ _ _ _ _ _ us hl => match us, hl with | [_], _ => rfl)
    have Dmultiples_of : Aw.Df (L2.KOf KX) mg "multiples_of" Aw.smultiples_of Aw.Pmultiples_of := by
      unfold L2.KOf
      refine' Aw.df_mk KX G ?a ?l ?c ?k ?b
      (case a => k_is)
      (case l => k_is)
      (case c => k_is)
      (case k => k_is)
      (case b => exact fun _ _ _ _ _ _ us hl => match us, hl with | [_, _], _ => rfl)
    have Dcourse_of : Aw.Df (L2.KOf KX) mg "course_of" Aw.scourse_of Aw.Pcourse_of := by
      unfold L2.KOf
      refine' Aw.df_mk KX G ?a ?l ?c ?k ?b
      (case a => k_is)
      (case l => k_is)
      (case c => k_is)
      (case k => k_is)
      (case b => exact fun _ _ _ _ _ _ us hl => match us, hl with | [_, _, _], _ => rfl)
    have Dsums_of : Aw.Df (L2.KOf KX) mg "sums_of" Aw.ssums_of Aw.Psums_of := by
      unfold L2.KOf
      refine' Aw.df_mk KX G ?a ?l ?c ?k ?b
      (case a => k_is)
      (case l => k_is)
      (case c => k_is)
      (case k => k_is)
      (case b => exact fun _ _ _ _ _ _ us hl => match us, hl with | [_, _], _ => rfl)
    have D_law_deck : Aw.Df (L2.KOf KX) mg "_law_deck" Aw.s_law_deck Aw.P_law_deck := by
      unfold L2.KOf
      refine' Aw.df_mk KX G ?a ?l ?c ?k ?b
      (case a => k_is)
      (case l => k_is)
      (case c => k_is)
      (case k => k_is)
      (case b => exact fun _ _ _ _ _ _ us hl => match us, hl with | [_], _ => rfl)
    have D_law_draw : Aw.Df (L2.KOf KX) mg "_law_draw" Aw.s_law_draw Aw.P_law_draw := by
      unfold L2.KOf
      refine' Aw.df_mk KX G ?a ?l ?c ?k ?b
      (case a => k_is)
      (case l => k_is)
      (case c => k_is)
      (case k => k_is)
      (case b => exact fun _ _ _ _ _ _ us hl => match us, hl with | [_, _], _ => rfl)
    have D_law_one : Aw.Df (L2.KOf KX) mg "_law_one" Aw.s_law_one Aw.P_law_one := by
      unfold L2.KOf
      refine' Aw.df_mk KX G ?a ?l ?c ?k ?b
      (case a => k_is)
      (case l => k_is)
      (case c => k_is)
      (case k => k_is)
      (case b => exact fun _ _ _ _ _ _ us hl => match us, hl with | [_, _], _ => rfl)
    have D_law_names : Aw.Df (L2.KOf KX) mg "_law_names" Aw.s_law_names Aw.P_law_names := by
      unfold L2.KOf
      refine' Aw.df_mk KX G ?a ?l ?c ?k ?b
      (case a => k_is)
      (case l => k_is)
      (case c => k_is)
      (case k => k_is)
      (case b => exact fun _ _ _ _ _ _ us hl => match us, hl with | [_], _ => rfl)
    have D_law_expression : Aw.Df (L2.KOf KX) mg "_law_expression" Aw.s_law_expression Aw.P_law_expression := by
      unfold L2.KOf
      refine' Aw.df_mk KX G ?a ?l ?c ?k ?b
      (case a => k_is)
      (case l => k_is)
      (case c => k_is)
      (case k => k_is)
      (case b => exact fun _ _ _ _ _ _ us hl => match us, hl with | [_, _, _], _ => rfl)
    have D_law_test : Aw.Df (L2.KOf KX) mg "_law_test" Aw.s_law_test Aw.P_law_test := by
      unfold L2.KOf
      refine' Aw.df_mk KX G ?a ?l ?c ?k ?b
      (case a => k_is)
      (case l => k_is)
      (case c => k_is)
      (case k => k_is)
      (case b => exact fun _ _ _ _ _ _ us hl => match us, hl with | [_, _, _, _], _ => rfl)
    have D_law_plain : Aw.Df (L2.KOf KX) mg "_law_plain" Aw.s_law_plain Aw.P_law_plain := by
      unfold L2.KOf
      refine' Aw.df_mk KX G ?a ?l ?c ?k ?b
      (case a => k_is)
      (case l => k_is)
      (case c => k_is)
      (case k => k_is)
      (case b => exact fun _ _ _ _ _ _ us hl => match us, hl with | [_, _], _ => rfl)
    have D_law_row : Aw.Df (L2.KOf KX) mg "_law_row" Aw.s_law_row Aw.P_law_row := by
      unfold L2.KOf
      refine' Aw.df_mk KX G ?a ?l ?c ?k ?b
      (case a => k_is)
      (case l => k_is)
      (case c => k_is)
      (case k => k_is)
      (case b => exact fun _ _ _ _ _ _ us hl => match us, hl with | [_, _, _, _, _], _ => rfl)
    have D_law_block : Aw.Df (L2.KOf KX) mg "_law_block" Aw.s_law_block Aw.P_law_block := by
      unfold L2.KOf
      refine' Aw.df_mk KX G ?a ?l ?c ?k ?b
      (case a => k_is)
      (case l => k_is)
      (case c => k_is)
      (case k => k_is)
      (case b => exact fun _ _ _ _ _ _ us hl => match us, hl with | [_, _, _, _, _], _ => rfl)
    have D_law_program : Aw.Df (L2.KOf KX) mg "_law_program" Aw.s_law_program Aw.P_law_program := by
      unfold L2.KOf
      refine' Aw.df_mk KX G ?a ?l ?c ?k ?b
      (case a => k_is)
      (case l => k_is)
      (case c => k_is)
      (case k => k_is)
      (case b => exact fun _ _ _ _ _ _ us hl => match us, hl with | [_, _], _ => rfl)
    have D_law_number : Aw.Df (L2.KOf KX) mg "_law_number" Aw.s_law_number Aw.P_law_number := by
      unfold L2.KOf
      refine' Aw.df_mk KX G ?a ?l ?c ?k ?b
      (case a => k_is)
      (case l => k_is)
      (case c => k_is)
      (case k => k_is)
      (case b => exact fun _ _ _ _ _ _ us hl => match us, hl with | [_], _ => rfl)
    have D_law_other : Aw.Df (L2.KOf KX) mg "_law_other" Aw.s_law_other Aw.P_law_other := by
      unfold L2.KOf
      refine' Aw.df_mk KX G ?a ?l ?c ?k ?b
      (case a => k_is)
      (case l => k_is)
      (case c => k_is)
      (case k => k_is)
      (case b => exact fun _ _ _ _ _ _ us hl => match us, hl with | [_, _], _ => rfl)
    have D_law_test_other : Aw.Df (L2.KOf KX) mg "_law_test_other" Aw.s_law_test_other Aw.P_law_test_other := by
      unfold L2.KOf
      refine' Aw.df_mk KX G ?a ?l ?c ?k ?b
      (case a => k_is)
      (case l => k_is)
      (case c => k_is)
      (case k => k_is)
      (case b => exact fun _ _ _ _ _ _ us hl => match us, hl with | [_, _], _ => rfl)
    have D_law_if_other : Aw.Df (L2.KOf KX) mg "_law_if_other" Aw.s_law_if_other Aw.P_law_if_other := by
      unfold L2.KOf
      refine' Aw.df_mk KX G ?a ?l ?c ?k ?b
      (case a => k_is)
      (case l => k_is)
      (case c => k_is)
      (case k => k_is)
      (case b => exact fun _ _ _ _ _ _ us hl => match us, hl with | [_, _, _], _ => rfl)
    have D_law_rows_other : Aw.Df (L2.KOf KX) mg "_law_rows_other" Aw.s_law_rows_other Aw.P_law_rows_other := by
      unfold L2.KOf
      refine' Aw.df_mk KX G ?a ?l ?c ?k ?b
      (case a => k_is)
      (case l => k_is)
      (case c => k_is)
      (case k => k_is)
      (case b => exact fun _ _ _ _ _ _ us hl => match us, hl with | [_, _, _], _ => rfl)
    have D_law_with_more : Aw.Df (L2.KOf KX) mg "_law_with_more" Aw.s_law_with_more Aw.P_law_with_more := by
      unfold L2.KOf
      refine' Aw.df_mk KX G ?a ?l ?c ?k ?b
      (case a => k_is)
      (case l => k_is)
      (case c => k_is)
      (case k => k_is)
      (case b => exact fun _ _ _ _ _ _ us hl => match us, hl with | [_, _], _ => rfl)
    have Dlaw : Aw.Df (L2.KOf KX) mg "law" Aw.slaw Aw.Plaw := by
      unfold L2.KOf
      refine' Aw.df_mk KX G ?a ?l ?c ?k ?b
      (case a => k_is)
      (case l => k_is)
      (case c => k_is)
      (case k => k_is)
      (case b => exact fun _ _ _ _ _ _ us hl => match us, hl with | [_], _ => rfl)
    have B : Aw.Blt mg := by
      refine' ⟨PySem.W.mg_none_of KX G ?z0, PySem.W.mg_none_of KX G ?z1, PySem.W.mg_none_of KX G ?z2, PySem.W.mg_none_of KX G ?z3, PySem.W.mg_none_of KX G ?z4, PySem.W.mg_none_of KX G ?z5, PySem.W.mg_none_of KX G ?z6, PySem.W.mg_none_of KX G ?z7, PySem.W.mg_none_of KX G ?z8, PySem.W.mg_none_of KX G ?z9, PySem.W.mg_none_of KX G ?z10, PySem.W.mg_none_of KX G ?z11, PySem.W.mg_none_of KX G ?z12, PySem.W.mg_none_of KX G ?z13, PySem.W.mg_none_of KX G ?z14, PySem.W.mg_none_of KX G ?z15, PySem.W.mg_none_of KX G ?z16, PySem.W.mg_none_of KX G ?z17, PySem.W.mg_none_of KX G ?z18⟩
      all_goals k_is
    have T : Aw.PeTop mg (L2.KOf KX) := by
      refine ⟨?t0, ?t1, ?t2, ?t3, ?t4, ?t5, ?t6, ?t7, ?t8, ?t9, ?t10, ?t11, ?t12, ?t13, ?t14, ?t15, ?t16⟩
      case t0 => (refine' Aw.gint_mk KX G ?z; (case z => k_is))
      case t1 => (refine' Aw.gint_mk KX G ?z; (case z => k_is))
      case t2 => (refine' Aw.gint_mk KX G ?z; (case z => k_is))
      case t3 => (refine' Aw.gint_mk KX G ?z; (case z => k_is))
      case t4 => (refine' Aw.gint_mk KX G ?z; (case z => k_is))
      case t5 => (refine' Aw.gint_mk KX G ?z; (case z => k_is))
      case t6 => (refine' Aw.gint_mk KX G ?z; (case z => k_is))
      case t7 => (refine' Aw.gint_mk KX G ?z; (case z => k_is))
      case t8 => (refine' Aw.gint_mk KX G ?z; (case z => k_is))
      case t9 => (refine' Aw.gint_mk KX G ?z; (case z => k_is))
      case t10 => (refine' Aw.gint_mk KX G ?z; (case z => k_is))
      case t11 => (refine' Aw.gint_mk KX G ?z; (case z => k_is))
      case t12 => (refine' Aw.gint_mk KX G ?z; (case z => k_is))
      case t13 => (refine' Aw.gstr_mk KX G ?z; (case z => k_is))
      case t14 => (refine' Aw.gstr_mk KX G ?z; (case z => k_is))
      case t15 => (refine' Aw.gstr_mk KX G ?z; (case z => k_is))
      case t16 =>
        unfold L2.KOf
        refine' Aw.kept_mk KX G ?s1 ?s2 ?s3 ?s4
        (case s1 => k_is)
        (case s2 => k_is)
        (case s3 => decide)
        (case s4 => exact .cons ⟨_, rfl⟩ (.cons ⟨_, rfl⟩ (.cons ⟨_, rfl⟩ (.cons ⟨_, rfl⟩ (.cons ⟨_, rfl⟩ (.cons ⟨_, rfl⟩ (.cons ⟨_, rfl⟩ (.cons ⟨_, rfl⟩ (.cons ⟨_, rfl⟩ (.cons ⟨_, rfl⟩ (.cons ⟨_, rfl⟩ (.cons ⟨_, rfl⟩ (.cons ⟨_, rfl⟩ (.nil))))))))))))))
    have GP := Aw.pe_has (P := PySem.Challenge.pw_anewread_k37_whole_programs_written_othe) (w := w) (base := base) T B Dis_whole Dis_word Dis_name Dis_expression Dis_rest Dis_test Dis_plain Dis_statement Dblocks_of Ditems_within Drows_of Dorder_error Dbare Down_count Dcounted Dweight Dprogram_error
    have gI : ∃ t, mg "INPUT" = some (.str "n" t) := by (refine' Aw.gstr_mk KX G ?z; (case z => k_is))
    have gN : ∃ t, mg "NOTHING" = some (.int 0 t) := by (refine' Aw.gint_mk KX G ?z; (case z => k_is))
    have gU : ∃ t, mg "UNSURE" = some (.str "unsure" t) := by (refine' Aw.gstr_mk KX G ?z; (case z => k_is))
    have XC : ∃ C, Aw.CTop mg (L2.KOf KX) C := by
      unfold L2.KOf
      refine' ⟨_, ⟨⟨?c1, ?c2, ?c3, ?c4⟩, Aw.na_mk ?n1, Aw.na_mk ?n2, Aw.na_mk ?n3, Aw.na_mk ?n4⟩, ?mk0, ?kc, PySem.W.mg_of KX G ?ta0, Aw.dfm_mk ?a0 ?l0 ?e0 ?k0 ?i0 ?b0, Aw.dfm_mk ?a1 ?l1 ?e1 ?k1 ?i1 ?b1, Aw.dfm_mk ?a2 ?l2 ?e2 ?k2 ?i2 ?b2, Aw.dfm_mk ?a3 ?l3 ?e3 ?k3 ?i3 ?b3, Aw.dfm_mk ?a4 ?l4 ?e4 ?k4 ?i4 ?b4, Aw.dfm_mk ?a5 ?l5 ?e5 ?k5 ?i5 ?b5, Aw.dfm_mk ?a6 ?l6 ?e6 ?k6 ?i6 ?b6, Aw.dfm_mk ?a7 ?l7 ?e7 ?k7 ?i7 ?b7⟩
      (case ta0 => k_is)
      (case c1 => k_is)
      (case c2 => k_is)
      (case c3 => k_is)
      (case c4 => k_is)
      (case n1 => k_is)
      (case n2 => k_is)
      (case n3 => k_is)
      (case n4 => k_is)
      (case mk0 => k_is)
      (case kc => k_is)
      (case a0 => k_is)
      (case l0 => k_is)
      (case e0 => k_is)
      (case k0 => k_is)
      (case i0 => k_is)
      (case b0 => exact fun _ _ _ _ _ _ us hl => match us, hl with | [_, _, _], _ => rfl)
      (case a1 => k_is)
      (case l1 => k_is)
      (case e1 => k_is)
      (case k1 => k_is)
      (case i1 => k_is)
      (case b1 => exact fun _ _ _ _ _ _ us hl => match us, hl with | [_, _], _ => rfl)
      (case a2 => k_is)
      (case l2 => k_is)
      (case e2 => k_is)
      (case k2 => k_is)
      (case i2 => k_is)
      (case b2 => exact fun _ _ _ _ _ _ us hl => match us, hl with | [_, _, _], _ => rfl)
      (case a3 => k_is)
      (case l3 => k_is)
      (case e3 => k_is)
      (case k3 => k_is)
      (case i3 => k_is)
      (case b3 => exact fun _ _ _ _ _ _ us hl => match us, hl with | [_, _, _], _ => rfl)
      (case a4 => k_is)
      (case l4 => k_is)
      (case e4 => k_is)
      (case k4 => k_is)
      (case i4 => k_is)
      (case b4 => exact fun _ _ _ _ _ _ us hl => match us, hl with | [_, _, _], _ => rfl)
      (case a5 => k_is)
      (case l5 => k_is)
      (case e5 => k_is)
      (case k5 => k_is)
      (case i5 => k_is)
      (case b5 => exact fun _ _ _ _ _ _ us hl => match us, hl with | [_, _, _], _ => rfl)
      (case a6 => k_is)
      (case l6 => k_is)
      (case e6 => k_is)
      (case k6 => k_is)
      (case i6 => k_is)
      (case b6 => exact fun _ _ _ _ _ _ us hl => match us, hl with | [_, _, _], _ => rfl)
      (case a7 => k_is)
      (case l7 => k_is)
      (case e7 => k_is)
      (case k7 => k_is)
      (case i7 => k_is)
      (case b7 => exact fun _ _ _ _ _ _ us hl => match us, hl with | [_, _, _], _ => rfl)
    obtain ⟨C, XC⟩ := XC
    have GC := Aw.rn_course (P := PySem.Challenge.pw_anewread_k37_whole_programs_written_othe) (w := w) (base := base) XC B gI gN gU Dblocks_of Dplaces_in Dadded Dwhole_sum Dmultiples_of Dcourse_of
    have GS := Aw.ok_sums_of Dsums_of B GC
    have G1 := Aw.ok_law_deck (P := PySem.Challenge.pw_anewread_k37_whole_programs_written_othe) (w := w) (base := base) D_law_deck B
    have G2 := Aw.ok_law_draw (P := PySem.Challenge.pw_anewread_k37_whole_programs_written_othe) (w := w) (base := base) D_law_draw B
    have G3 := Aw.ok_law_one D_law_one B G2
    have G4 := Aw.ok_law_names D_law_names B G2 G3
    have G5 := Aw.g3_program (P := PySem.Challenge.pw_anewread_k37_whole_programs_written_othe) (w := w) (base := base) D_law_draw D_law_one D_law_expression D_law_test D_law_plain D_law_row D_law_block D_law_program B
    have G6 := Aw.ok__law_number D_law_number B G2 G3
    have G7 := Aw.k37_oth (P := PySem.Challenge.pw_anewread_k37_whole_programs_written_othe) (w := w) (base := base) B D_law_other D_law_test_other D_law_if_other D_law_rows_other
    have G8 := Aw.ok__law_with_more D_law_with_more B G2 G3
    exact Aw.ok_law Dlaw B hSys G1 G4 G5.1 G6 G2 G3 GS G7 G8 GP.error
